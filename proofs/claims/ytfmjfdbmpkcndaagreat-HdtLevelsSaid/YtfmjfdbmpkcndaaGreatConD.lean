import Derived.Test.YtfmjfdbmpkcndaaGreatConC
set_option linter.unusedVariables false
set_option linter.unusedSimpArgs false
set_option maxRecDepth 20000
namespace Go.Proofs.YtfmjfdbmpkcndaaGreat
open Go.Eng Go.Tm
theorem zmh {V S T:Int} {da oa:Option Addr} {dn dc on oc:Nat}  (hno:¬(okL V S T∧V≤8∧S≤12∧dn≤60∧on≤40)):FnD Tryz.prog 11 [.agg #[.int .i64 V,.int .i64 S,.int .i64 T,.slice da dn dc,.slice oa on oc]] [] (.bool true) []:=by
 refine Fn.enter (Tryz.func11) rfl rfl (fun w0 R=>?_)
 refine sA (xB 0 rfl (fun bk0=>(xaf rfl (dB (xL5 0 zie rfl rfl (TL.callD [] [] zg5 ⟨rfl,trivial⟩ trivial zo2 rfl rfl rfl rfl rfl trivial ?_))))))
 rw [decide_eq_false hno]
 refine xnf rfl (dT rfl (TL.callD [] [] zho trivial trivial zo1 rfl rfl rfl rfl rfl trivial (xat rfl (dRR ?_))))
 refine FQ.ret1 (v:=(.bool true)) (Bs:=[]) [] rfl rfl rfl trivial ?_
 exact ⟨rfl,rfl⟩
set_option maxHeartbeats 1000000 in
theorem zmi {l:Lay} (hl:l.Ok) {da oa:Option Addr} {dn dc on oc:Nat} {Ad:Assn} {bd offd:Nat} {fd:Nat→Int} (hda:0<dn→da=some ⟨bd,offd,none⟩) (hAd:zaT Ad encU 1 bd offd dn fd) (hfd:∀ i,i<dn→0≤fd i∧fd i<18446744073709551616) {bo offo:Nat} {fo:Nat→Op3} (hoa:0<on→oa=some ⟨bo,offo,none⟩) (hAo:zaT Ad zp7 3 bo offo on fo)  (hok:(okL l.V l.S l.T∧(l.V:Int)≤8∧(l.S:Int)≤12∧dn≤60∧on≤40)):FnD Tryz.prog 11 [.agg #[.int .i64 l.V,.int .i64 l.S,.int .i64 l.T,.slice da dn dc,.slice oa on oc]] [Ad] (.bool true) [Ad]:=by
 obtain ⟨hk1,hk2,hk3,hk4,hk5⟩:=hok
 have hok:(okL l.V l.S l.T∧(l.V:Int)≤8∧(l.S:Int)≤12∧dn≤60∧on≤40):=⟨hk1,hk2,hk3,hk4,hk5⟩
 have hlb:=zaS hl
 refine Fn.enter (Tryz.func11) rfl rfl (fun w0 R=>?_)
 refine sA (xB 1 rfl (fun bk1=>(xaf rfl (dB (xL5 1 zie rfl rfl (TL.callD [] [] zg5 ⟨rfl,trivial⟩ trivial zo2 rfl rfl rfl rfl rfl trivial ?_))))))
 rw [decide_eq_true hok]
 refine xnt rfl (dF rfl (xL5 1 zie rfl rfl (TL.call [0] [0,2,3,4] (zhm hl hda hAd hfd (by omega)) ⟨rfl,trivial⟩ ⟨rfl,trivial⟩ zo0 rfl rfl rfl rfl ?_)))
 rintro x Bs ⟨pb,ab,mb,rfl,rfl⟩
 refine ⟨rfl,trivial,?_⟩
 refine xap rfl (dB (xmp rfl (TL.nilP false rfl rfl zoM rfl rfl rfl (TL.done (TQ.then (TC.condF rfl (TC.skip (TQ.then ?_))))))))
 refine sB (xf 4 zhb rfl (xls 1 zoK rfl rfl (xz zeG rfl (xmi rfl (dK ?_)))))
 refine TC.loopK (X:=Nat×M×Value×Array EdR×G) [1,3,22,23] [0,1] (fun ⟨i,σ,sv,d,g⟩=>[(24,.int .i64 ((i:Nat):Int))]) (fun ⟨i,σ,sv,d,g⟩=>[(2,pt pb (.cells #[.int .i64 l.V,.int .i64 l.S,.int .i64 l.T,.pointer (some ⟨ab,0,none⟩),.int .i64 l.V,.int .i64 l.S,.int .i64 l.T,.iface 107 (.agg #[.pointer (some ⟨ab,0,none⟩)]),.int .i64 1,.int .i64 0,.int .i64 l.V,.int .i64 l.S,.int .i64 l.T,.iface 107 (.agg #[.pointer (some ⟨ab,0,none⟩)]),sv] 90)),(3,zaB ab mb 149 110 (σ)),(4,ownA encE 5 65 sv d)]) (fun ⟨i,σ,sv,d,g⟩=>i≤on∧R14 l (fun x=>if dn=0 then 0 else fd (x.toNat % dn)) σ g d) (fun ⟨i,σ,sv,d,g⟩=>on - i) ((0,_,_,#[],G0)) ⟨Nat.zero_le _,R14.born hl hfd (by have:=zaR hl; have:=zay hl; have:=zds hl; omega)⟩ ⟨rfl,trivial⟩ ⟨rfl,rfl,rfl,trivial⟩ (fun y hI=>?_)
 obtain ⟨i,σ,sv,d,g⟩:=y
 obtain ⟨hi,hR⟩:=hI
 replace hi:i≤on:=hi
 replace hR:R14 l (fun x=>if dn=0 then 0 else fd (x.toNat % dn)) σ g d:=hR
 refine TC.sub (env':=[(24,_),(1,_),(3,_),(22,_),(23,_)]) (L':=[(2,_),(3,_),(4,_),(0,_),(1,_)]) ⟨rfl,rfl,rfl,rfl,rfl,trivial⟩ ⟨rfl,rfl,rfl,rfl,rfl,trivial⟩ (sA (TL.lss rfl rfl rfl rfl (fun q1=>?_) (fun q1=>?_)))
 refine dS (TC.condT rfl (TC.skip (TQ.then (TC.seq (TC.block (sA (TL.iaO rfl hoa rfl zeG (by omega) rfl rfl (TL.ldRx 0 [_,_,_] rfl rfl hAo (by omega) rfl zid rfl rfl ?_))))))))
 refine TL.alloc 5 (cs:=#[.int .i64 0,.int .i64 0,.int .i64 0]) zqI rfl rfl rfl (fun _=>trivial) (fun bk5=>(TL.stW 5 3 [_,_,_] rfl rfl rfl rfl rfl rfl zid rfl rfl trivial (dA (xmp rfl (TL.call [2,3] [2,3,6,7,8] (zc2 hl) ⟨rfl,trivial⟩ ⟨rfl,rfl,trivial⟩ zgB rfl rfl rfl rfl ?_)))))
 rintro xb Bs ⟨na,nn,nc,ca,xa,mr,bc,offc,cn,cc,bx,offx,xn,xc,Acl,Ax,fc,fx,ps,rfl,rfl,hB⟩
 refine ⟨rfl,trivial,?_⟩
 refine TL.call [6,7,8] [6,7,8,9] (zc3 hl hB hR.edges) ⟨rfl,trivial⟩ ⟨rfl,rfl,rfl,trivial⟩ zgC rfl rfl rfl rfl ?_
 rintro x7 Bs ⟨vea,Ea,rfl,rfl,hMa⟩
 refine ⟨rfl,trivial,?_⟩
 refine TL.ownW 9 rfl (fun aEa gEa cEa hvEa hcEa haEa=>?_)
 subst hvEa
 have hzEa:=hMa.size_le hl hR.edges
 refine xmu rfl (xes rfl rfl (xet rfl rfl (xas rfl (xat rfl (dB (xmp rfl (xL3 5 zid rfl rfl (TL.call [2,3,4] [2,3,4] (zlt hl hR) ⟨rfl,rfl,trivial⟩ ⟨rfl,rfl,rfl,trivial⟩ zrh rfl rfl rfl rfl ?_))))))))
 rintro x Bs ⟨rfl,σ2,v2,d2,g2,rfl,hR2,hLv,hIns⟩
 refine ⟨rfl,trivial,?_⟩
 refine xnt rfl (dF rfl (xmp rfl (TL.call [2,3] [2,3,10,11,12] (zc2 hl) ⟨rfl,trivial⟩ ⟨rfl,rfl,trivial⟩ zgB rfl rfl rfl rfl ?_)))
 rintro xb Bs ⟨na,nn,nc,ca,xa,mr,bc,offc,cn,cc,bx,offx,xn,xc,Acl,Ax,fc,fx,ps,rfl,rfl,hB⟩
 refine ⟨rfl,trivial,?_⟩
 refine TL.call [10,11,12] [10,11,12,13] (zc3 hl hB hR2.edges) ⟨rfl,trivial⟩ ⟨rfl,rfl,rfl,trivial⟩ zgC rfl rfl rfl rfl ?_
 rintro x7 Bs ⟨veb,Eb,rfl,rfl,hMb⟩
 refine ⟨rfl,trivial,?_⟩
 refine TL.ownW 13 rfl (fun aEb gEb cEb hvEb hcEb haEb=>?_)
 subst hvEb
 have hzEb:=hMb.size_le hl hR2.edges
 refine xmu rfl (xes rfl rfl (xet rfl rfl (xas rfl (xat rfl (dB (xmt rfl (xnt rfl (xmf rfl ?_))))))))
 refine xmt rfl (xnt rfl (xpF rfl (dF rfl (xms rfl (xz zaj rfl (xmi rfl (dK (TC.loopK (X:=Nat) [1,3,6,22,23,24,50,51] [0,1,2,3,4,5,9,10,11,12,13] (fun j=>[(52,.int .i64 ((j:Nat):Int))]) (fun j=>[]) (fun j=>j≤Eb.size) (fun j=>Eb.size - j) (0) (Nat.zero_le _) ⟨rfl,trivial⟩ trivial (fun j hI=>?_)))))))))
 refine TC.sub (env':=[(52,_),(1,_),(3,_),(6,_),(22,_),(23,_),(24,_),(50,_),(51,_)]) (L':=[(0,_),(1,_),(2,_),(3,_),(4,_),(5,_),(9,_),(10,_),(11,_),(12,_),(13,_)]) ⟨rfl,rfl,rfl,rfl,rfl,rfl,rfl,rfl,rfl,trivial⟩ ⟨rfl,rfl,rfl,rfl,rfl,rfl,rfl,rfl,rfl,rfl,rfl,trivial⟩ (sA (TL.lss rfl rfl rfl rfl (fun q2=>?_) (fun q2=>?_)))
 refine dS (TC.condT rfl (TC.skip (TQ.then (TC.seq (TC.block (sA (TL.iaO rfl haEb rfl zaj (by omega) rfl rfl (TL.ldRx 13 [_,_,_,_,_] rfl rfl (zab haEb) (by omega) rfl zaY rfl rfl ?_))))))))
 refine TL.alloc 14 (cs:=#[.int .i64 0,.int .i64 0,.int .i64 0,.int .i64 0,.bool false]) zcV rfl rfl rfl (fun _=>trivial) (fun bk14=>(TL.stW 14 5 [_,_,_,_,_] rfl rfl rfl rfl rfl rfl zaY rfl rfl trivial (dA (xms rfl (xf 0 zaU rfl (xli 14 zaa rfl rfl ?_))))))
 obtain ⟨hf0,hf1,hf2⟩:=hR2.lvUp hl hLv hMa hMb (j:=j) (by omega)
 refine TL.callD [9] [9] (zdm haEa (zab haEa) (by omega)) ⟨rfl,rfl,trivial⟩ ⟨rfl,trivial⟩ zhh rfl rfl rfl rfl rfl trivial (TL.alloc 15 (cs:=#[.int .i64 0,.int .i64 0,.int .i64 0,.int .i64 0,.bool false]) zcV rfl rfl rfl (fun _=>trivial) (fun bk15=>(TL.stW 15 5 [_,_,_,_,_] rfl rfl rfl rfl rfl rfl zaY rfl rfl trivial (dA (xf 1 zbx rfl (xli 15 zaa rfl rfl (xf 1 zbx rfl (xli 14 zaa rfl rfl (TL.eql rfl rfl rfl rfl (fun q3=>?_) (fun q3=>?_))))))))))
 refine xmt rfl (xf 2 zbd rfl (xli 15 zaa rfl rfl (xf 2 zbd rfl (xli 14 zaa rfl rfl (TL.eql rfl rfl rfl rfl (fun q4=>?_) (fun q4=>?_))))))
 refine xpT rfl (xmt rfl (xf 3 zbm rfl (xli 14 zaa rfl rfl (xf 3 zbm rfl (xli 15 zaa rfl rfl (TL.lssF rfl rfl (by have:=hf1 (by assumption) (by assumption); omega) rfl rfl (xpG rfl (xmf rfl ?_))))))))
 refine xf 0 zcr rfl (xf 0 zao rfl (xli 1 zaa rfl rfl (xf 3 zbm rfl (xli 14 zaa rfl rfl (TL.shr (((l.V / 2 ^ Eb[j]!.lv.toNat:Nat):Int)) rfl rfl (by omega) (zjb (by omega)) rfl rfl (TL.lssF rfl rfl hf2 rfl rfl (xpF rfl (TL.done ?_))))))))
 refine TQ.then (TC.condF rfl (TC.skip (TQ.inBlock (TQ.then (TC.region (TL.add (((j+1:Nat):Int)) rfl rfl (wrN (by omega)) rfl rfl (xmi rfl (TL.done ?_))))))))
 refine TQ.roundK (j+1) ⟨by omega,by omega⟩ ⟨rfl,trivial⟩ trivial (kE8 rfl rfl rfl rfl rfl rfl rfl rfl trivial) (kL8 rfl rfl rfl rfl rfl rfl rfl rfl (kL3 rfl rfl rfl trivial))
 refine xpG rfl (xmf rfl (xo rfl (xo rfl (xo rfl (xo rfl (xo rfl (xpF rfl (xmf rfl ?_))))))))
 refine xf 0 zcr rfl (xf 0 zao rfl (xli 1 zaa rfl rfl (xf 3 zbm rfl (xli 14 zaa rfl rfl (TL.shr (((l.V / 2 ^ Eb[j]!.lv.toNat:Nat):Int)) rfl rfl (by omega) (zjb (by omega)) rfl rfl (TL.lssF rfl rfl hf2 rfl rfl (xpF rfl (TL.done ?_))))))))
 refine TQ.then (TC.condF rfl (TC.skip (TQ.inBlock (TQ.then (TC.region (TL.add (((j+1:Nat):Int)) rfl rfl (wrN (by omega)) rfl rfl (xmi rfl (TL.done ?_))))))))
 refine TQ.roundK (j+1) ⟨by omega,by omega⟩ ⟨rfl,trivial⟩ trivial (kE8 rfl rfl rfl rfl rfl rfl rfl rfl trivial) (kL8 rfl rfl rfl rfl rfl rfl rfl rfl (kL3 rfl rfl rfl trivial))
 refine xmf rfl (xo rfl (xo rfl (xo rfl (xo rfl (xo rfl (xpF rfl (xmf rfl (xo rfl ?_))))))))
 refine xo rfl (xo rfl (xo rfl (xo rfl (xpF rfl (xmf rfl (xf 0 zcr rfl (xf 0 zao rfl (xli 1 zaa rfl rfl ?_))))))))
 refine xf 3 zbm rfl (xli 14 zaa rfl rfl (TL.shr (((l.V / 2 ^ Eb[j]!.lv.toNat:Nat):Int)) rfl rfl (by omega) (zjb (by omega)) rfl rfl (TL.lssF rfl rfl hf2 rfl rfl (xpF rfl (TL.done (TQ.then (TC.condF rfl (TC.skip ?_))))))))
 refine TQ.inBlock (TQ.then (TC.region (TL.add (((j+1:Nat):Int)) rfl rfl (wrN (by omega)) rfl rfl (xmi rfl (TL.done (TQ.roundK (j+1) ⟨by omega,by omega⟩ ⟨rfl,trivial⟩ trivial (kE8 rfl rfl rfl rfl rfl rfl rfl rfl trivial) (kL8 rfl rfl rfl rfl rfl rfl rfl rfl (kL3 rfl rfl rfl trivial))))))))
 refine dS (TC.condF rfl (TC.exit (TQ.thenExit (TQ.thenExit (TQ.blockHere (TQ.inBlock (TQ.then (TC.region ?_))))))))
 refine TL.add (((i+1:Nat):Int)) rfl rfl (wrN (by omega)) rfl rfl (xmi rfl (TL.done (TQ.roundK ((i+1,_,_,_,_)) ⟨⟨(show i+1≤on by omega),hR2⟩,(show on - (i+1)<on - i by omega)⟩ ⟨rfl,trivial⟩ ⟨rfl,rfl,rfl,trivial⟩ (kE4 rfl rfl rfl rfl trivial) (kL2 rfl rfl trivial))))
 refine dS (TC.condF rfl (TC.exit (TQ.thenExit (TQ.thenExit (TQ.blockHere (TQ.then (sA (TL.callD [] [] zho trivial trivial zo1 rfl rfl rfl rfl rfl trivial ?_))))))))
 refine xat rfl (dR ?_)
 refine FQ.ret1 (v:=(.bool true)) (Bs:=[_]) [0] rfl rfl rfl ⟨rfl,trivial⟩ ?_
 exact ⟨rfl,rfl⟩
end Go.Proofs.YtfmjfdbmpkcndaaGreat
