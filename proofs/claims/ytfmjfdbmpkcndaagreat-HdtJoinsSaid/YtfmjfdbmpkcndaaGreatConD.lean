import Derived.Test.YtfmjfdbmpkcndaaGreatConC
set_option linter.unusedVariables false
set_option linter.unusedSimpArgs false
set_option maxRecDepth 20000
namespace Go.Proofs.YtfmjfdbmpkcndaaGreat
open Go.Eng Go.Tm
theorem znW {V S T:Int} {da oa:Option Addr} {dn dc on oc:Nat}  (hno:¬(okL V S T∧V≤8∧S≤12∧dn≤60∧on≤40)):FnD Tryz.prog 10 [.agg #[.int .i64 V,.int .i64 S,.int .i64 T,.slice da dn dc,.slice oa on oc]] [] (.bool true) []:=by
 refine Fn.enter (Tryz.func10) rfl rfl (fun w0 R=>?_)
 refine sA (xB 0 rfl (fun bk0=>(xaf rfl (dB (xL5 0 zib rfl rfl (TL.callD [] [] zg4 ⟨rfl,trivial⟩ trivial zo1 rfl rfl rfl rfl rfl trivial ?_))))))
 rw [decide_eq_false hno]
 refine xnf rfl (dT rfl (TL.callD [] [] zhm trivial trivial zo0 rfl rfl rfl rfl rfl trivial (xat rfl (dRR ?_))))
 refine FQ.ret1 (v:=(.bool true)) (Bs:=[]) [] rfl rfl rfl trivial ?_
 exact ⟨rfl,rfl⟩
theorem znX {l:Lay} (hl:l.Ok) {da oa:Option Addr} {dn dc on oc:Nat} {Ad:Assn} {bd offd:Nat} {fd:Nat→Int} (hda:0<dn→da=some ⟨bd,offd,none⟩) (hAd:zaT Ad encU 1 bd offd dn fd) (hfd:∀ i,i<dn→0≤fd i∧fd i<18446744073709551616) {bo offo:Nat} {fo:Nat→Op3} (hoa:0<on→oa=some ⟨bo,offo,none⟩) (hAo:zaT Ad zp6 3 bo offo on fo)  (hok:(okL l.V l.S l.T∧(l.V:Int)≤8∧(l.S:Int)≤12∧dn≤60∧on≤40)):FnD Tryz.prog 10 [.agg #[.int .i64 l.V,.int .i64 l.S,.int .i64 l.T,.slice da dn dc,.slice oa on oc]] [Ad] (.bool true) [Ad]:=by
 obtain ⟨hk1,hk2,hk3,hk4,hk5⟩:=hok
 have hok:(okL l.V l.S l.T∧(l.V:Int)≤8∧(l.S:Int)≤12∧dn≤60∧on≤40):=⟨hk1,hk2,hk3,hk4,hk5⟩
 have hlb:=zaS hl
 refine Fn.enter (Tryz.func10) rfl rfl (fun w0 R=>?_)
 refine sA (xB 1 rfl (fun bk1=>(xaf rfl (dB (xL5 1 zib rfl rfl (TL.callD [] [] zg4 ⟨rfl,trivial⟩ trivial zo1 rfl rfl rfl rfl rfl trivial ?_))))))
 rw [decide_eq_true hok]
 refine xnt rfl (dF rfl (xL5 1 zib rfl rfl (TL.call [0] [0,2,3,4] (zhk hl hda hAd hfd (by omega)) ⟨rfl,trivial⟩ ⟨rfl,trivial⟩ zoZ rfl rfl rfl rfl ?_)))
 rintro x Bs ⟨pb,ab,mb,rfl,rfl⟩
 refine ⟨rfl,trivial,?_⟩
 refine xap rfl (dB (xmp rfl (TL.nilP false rfl rfl zoL rfl rfl rfl (TL.done (TQ.then (TC.condF rfl (TC.skip (TQ.then ?_))))))))
 refine sB (xf 4 zha rfl (xls 1 zoJ rfl rfl (xz zeG rfl (xmi rfl (dK ?_)))))
 refine TC.loopK (X:=Nat×M×Value×Array EdR×G) [1,3,17,18] [0,1] (fun ⟨i,σ,sv,d,g⟩=>[(19,.int .i64 ((i:Nat):Int))]) (fun ⟨i,σ,sv,d,g⟩=>[(2,pt pb (.cells #[.int .i64 l.V,.int .i64 l.S,.int .i64 l.T,.pointer (some ⟨ab,0,none⟩),.int .i64 l.V,.int .i64 l.S,.int .i64 l.T,.iface 107 (.agg #[.pointer (some ⟨ab,0,none⟩)]),.int .i64 1,.int .i64 0,.int .i64 l.V,.int .i64 l.S,.int .i64 l.T,.iface 107 (.agg #[.pointer (some ⟨ab,0,none⟩)]),sv] 90)),(3,zaB ab mb 149 110 (σ)),(4,ownA encE 5 65 sv d)]) (fun ⟨i,σ,sv,d,g⟩=>i≤on∧R14 l (fun x=>if dn=0 then 0 else fd (x.toNat % dn)) σ g d) (fun ⟨i,σ,sv,d,g⟩=>on - i) ((0,_,_,#[],G0)) ⟨Nat.zero_le _,R14.born hl hfd (by have:=zaR hl; have:=zay hl; have:=zdp hl; omega)⟩ ⟨rfl,trivial⟩ ⟨rfl,rfl,rfl,trivial⟩ (fun y hI=>?_)
 obtain ⟨i,σ,sv,d,g⟩:=y
 obtain ⟨hi,hR⟩:=hI
 replace hi:i≤on:=hi
 replace hR:R14 l (fun x=>if dn=0 then 0 else fd (x.toNat % dn)) σ g d:=hR
 refine TC.sub (env':=[(19,_),(1,_),(3,_),(17,_),(18,_)]) (L':=[(2,_),(3,_),(4,_),(0,_),(1,_)]) ⟨rfl,rfl,rfl,rfl,rfl,trivial⟩ ⟨rfl,rfl,rfl,rfl,rfl,trivial⟩ (sA (TL.lss rfl rfl rfl rfl (fun q1=>?_) (fun q1=>?_)))
 refine dS (TC.condT rfl (TC.skip (TQ.then (TC.seq (TC.block (sA (TL.iaO rfl hoa rfl zeG (by omega) rfl rfl (TL.ldRx 0 [_,_,_] rfl rfl hAo (by omega) rfl zia rfl rfl ?_))))))))
 refine TL.alloc 5 (cs:=#[.int .i64 0,.int .i64 0,.int .i64 0]) zqH rfl rfl rfl (fun _=>trivial) (fun bk5=>(TL.stW 5 3 [_,_,_] rfl rfl rfl rfl rfl rfl zia rfl rfl trivial (dA (xmp rfl (xL3 5 zia rfl rfl (TL.call [2,3,4] [2,3,4] (zlt hl hR) ⟨rfl,rfl,trivial⟩ ⟨rfl,rfl,rfl,trivial⟩ zrg rfl rfl rfl rfl ?_))))))
 rintro x Bs ⟨rfl,σ2,v2,d2,g2,rfl,hR2,hLv,hIns⟩
 refine ⟨rfl,trivial,?_⟩
 refine xnt rfl (TL.done (TQ.then (TC.condF rfl (TC.skip (TQ.inBlock (TQ.then (TC.region (TL.add (((i+1:Nat):Int)) rfl rfl (wrN (by omega)) rfl rfl ?_))))))))
 refine xmi rfl (TL.done (TQ.roundK ((i+1,_,_,_,_)) ⟨⟨(show i+1≤on by omega),hR2⟩,(show on - (i+1)<on - i by omega)⟩ ⟨rfl,trivial⟩ ⟨rfl,rfl,rfl,trivial⟩ (kE4 rfl rfl rfl rfl trivial) (kL2 rfl rfl trivial)))
 refine dS (TC.condF rfl (TC.exit (TQ.thenExit (TQ.thenExit (TQ.blockHere (TQ.then (TC.seq (TC.seq ?_))))))))
 have hsz:=hR.size hl
 refine TC.region (xf 0 zcN rfl (xf 0 zap rfl (xli 1 zaa rfl rfl (xmi rfl (dK (TC.loopK (X:=Nat) [1,3,30] [0,1,2,3,4] (fun a=>[(31,.int .i64 ((a:Nat):Int))]) (fun a=>[]) (fun a=>a≤l.V) (fun a=>l.V - a) (0) (Nat.zero_le _) ⟨rfl,trivial⟩ trivial (fun a hI=>(TC.sub (env':=[(31,_),(1,_),(3,_),(30,_)]) (L':=[(0,_),(1,_),(2,_),(3,_),(4,_)]) ⟨rfl,rfl,rfl,rfl,trivial⟩ ⟨rfl,rfl,rfl,rfl,rfl,trivial⟩ (sA ?_)))))))))
 refine TL.lss rfl rfl rfl rfl (fun q2=>?_) (fun q2=>?_)
 refine dS (TC.condT rfl (TC.skip (TQ.then (TC.seq (TC.block (sA (xmi rfl (xai rfl ?_))))))))
 refine dA (xf 0 zcN rfl (xf 0 zap rfl (xli 1 zaa rfl rfl (xmi rfl (dK (TC.loopK (X:=Nat) [1,3,6,30,31,36] [0,1,2,3,4] (fun b=>[(37,.int .i64 ((b:Nat):Int))]) (fun b=>[]) (fun b=>b≤l.V) (fun b=>l.V - b) (0) (Nat.zero_le _) ⟨rfl,trivial⟩ trivial (fun b hI=>(TC.sub (env':=[(37,_),(1,_),(3,_),(6,_),(30,_),(31,_),(36,_)]) (L':=[(0,_),(1,_),(2,_),(3,_),(4,_)]) ⟨rfl,rfl,rfl,rfl,rfl,rfl,rfl,trivial⟩ ⟨rfl,rfl,rfl,rfl,rfl,trivial⟩ (sA ?_)))))))))
 refine TL.lss rfl rfl rfl rfl (fun q3=>?_) (fun q3=>?_)
 refine dS (TC.condT rfl (TC.skip (TQ.then (TC.seq (TC.block (sA (xmi rfl (xai rfl ?_))))))))
 refine dS (TC.ownW 4 rfl (fun a9 g9 c9 hv9 hc9 ha9=>?_))
 cases hv9
 refine TC.draw [(0,true),(1,true),(2,true),(3,true),(4,true),(5,true),(7,true),(8,true),(9,true),(10,true),(11,true),(12,true),(6,false),(13,false),(14,true)] [2] fc_m (by kernel_rfl) (xmp rfl (xN0 rfl (xf 4 zbl rfl (xL10 2 za8 rfl rfl (xmi rfl (xmi rfl (xmp rfl (xN0 rfl ?_))))))))
 refine xf 14 zaC rfl (xlv 2 zbT rfl rfl (xmi rfl (xmi rfl (TL.callD [3] [3] (ze9 (p:=P1) zcQ hl (hR.joined hl (u:=(a:Int)) (v:=(b:Int)) (by omega) (by omega))) ⟨rfl,rfl,rfl,trivial⟩ ⟨rfl,trivial⟩ zku rfl rfl rfl rfl rfl (kL1 rfl trivial) (TL.callD [4] [4] (zeY ha9 (zac ha9) (by omega)) ⟨rfl,rfl,rfl,trivial⟩ ⟨rfl,trivial⟩ ziW rfl rfl rfl rfl rfl (kL1 rfl trivial) ?_)))))
 rw [show jnB (fun jj=>(d)[jj]!) (d).size (a:Int) (b:Int)=jdB (d) (a:Int) (b:Int) from rfl]
 refine TL.neqB rfl rfl zgU rfl rfl ?_
 rw [(show (!(jdB d (a:Int) (b:Int) == jdB d (a:Int) (b:Int)))=false by simp)]
 refine TL.done (TQ.then (TC.condF rfl (TC.skip (TQ.inBlock (TQ.then (TC.region (TL.add (((b+1:Nat):Int)) rfl rfl (wrN (by omega)) rfl rfl (xmi rfl ?_))))))))
 refine TL.done (TQ.roundK (b+1) ⟨by omega,by omega⟩ ⟨rfl,trivial⟩ trivial (kE6 rfl rfl rfl rfl rfl rfl trivial) (kL5 rfl rfl rfl rfl rfl trivial))
 refine dS (TC.condF rfl (TC.exit (TQ.thenExit (TQ.thenExit (TQ.blockHere (TQ.inBlock (TQ.then (TC.region ?_))))))))
 refine TL.add (((a+1:Nat):Int)) rfl rfl (wrN (by omega)) rfl rfl (xmi rfl (TL.done (TQ.roundK (a+1) ⟨by omega,by omega⟩ ⟨rfl,trivial⟩ trivial (kE3 rfl rfl rfl trivial) (kL5 rfl rfl rfl rfl rfl trivial))))
 refine dS (TC.condF rfl (TC.exit (TQ.thenExit (TQ.thenExit (TQ.blockHere (TQ.then (sA (TL.callD [] [] zhm trivial trivial zo0 rfl rfl rfl rfl rfl trivial ?_))))))))
 refine xat rfl (dR ?_)
 refine FQ.ret1 (v:=(.bool true)) (Bs:=[_]) [0] rfl rfl rfl ⟨rfl,trivial⟩ ?_
 exact ⟨rfl,rfl⟩
end Go.Proofs.YtfmjfdbmpkcndaaGreat
