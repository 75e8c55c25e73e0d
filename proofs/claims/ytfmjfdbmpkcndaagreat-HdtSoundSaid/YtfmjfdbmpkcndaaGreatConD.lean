import Derived.Test.YtfmjfdbmpkcndaaGreatConC
set_option linter.unusedVariables false
set_option linter.unusedSimpArgs false
set_option maxRecDepth 20000
namespace Go.Proofs.YtfmjfdbmpkcndaaGreat
open Go.Eng Go.Tm
theorem znC {V S T:Int} {da oa:Option Addr} {dn dc on oc:Nat}  (hno:¬(okL V S T∧V≤8∧S≤12∧dn≤60∧on≤40)):FnD Tryz.prog 9 [.agg #[.int .i64 V,.int .i64 S,.int .i64 T,.slice da dn dc,.slice oa on oc]] [] (.bool true) []:=by
 refine Fn.enter (Tryz.func9) rfl rfl (fun w0 R=>?_)
 refine sA (xB 0 rfl (fun bk0=>(xaf rfl (dB (xL5 0 zid rfl rfl (TL.callD [] [] zg5 ⟨rfl,trivial⟩ trivial zo2 rfl rfl rfl rfl rfl trivial ?_))))))
 rw [decide_eq_false hno]
 refine xnf rfl (dT rfl (TL.callD [] [] zhn trivial trivial zo1 rfl rfl rfl rfl rfl trivial (xat rfl (dRR ?_))))
 refine FQ.ret1 (v:=(.bool true)) (Bs:=[]) [] rfl rfl rfl trivial ?_
 exact ⟨rfl,rfl⟩
theorem znD {l:Lay} (hl:l.Ok) {da oa:Option Addr} {dn dc on oc:Nat} {Ad:Assn} {bd offd:Nat} {fd:Nat→Int} (hda:0<dn→da=some ⟨bd,offd,none⟩) (hAd:zaS Ad encU 1 bd offd dn fd) (hfd:∀ i,i<dn→0≤fd i∧fd i<18446744073709551616) {bo offo:Nat} {fo:Nat→Op3} (hoa:0<on→oa=some ⟨bo,offo,none⟩) (hAo:zaS Ad zp7 3 bo offo on fo)  (hok:(okL l.V l.S l.T∧(l.V:Int)≤8∧(l.S:Int)≤12∧dn≤60∧on≤40)):FnD Tryz.prog 9 [.agg #[.int .i64 l.V,.int .i64 l.S,.int .i64 l.T,.slice da dn dc,.slice oa on oc]] [Ad] (.bool true) [Ad]:=by
 obtain ⟨hk1,hk2,hk3,hk4,hk5⟩:=hok
 have hok:(okL l.V l.S l.T∧(l.V:Int)≤8∧(l.S:Int)≤12∧dn≤60∧on≤40):=⟨hk1,hk2,hk3,hk4,hk5⟩
 refine Fn.enter (Tryz.func9) rfl rfl (fun w0 R=>?_)
 refine sA (xB 1 rfl (fun bk1=>(xaf rfl (dB (xL5 1 zid rfl rfl (TL.callD [] [] zg5 ⟨rfl,trivial⟩ trivial zo2 rfl rfl rfl rfl rfl trivial ?_))))))
 rw [decide_eq_true hok]
 refine xnt rfl (dF rfl (xL5 1 zid rfl rfl (TL.call [0] [0,2,3,4] (zhl hl hda hAd hfd (by omega)) ⟨rfl,trivial⟩ ⟨rfl,trivial⟩ zo0 rfl rfl rfl rfl ?_)))
 rintro x Bs ⟨pb,ab,mb,rfl,rfl⟩
 refine ⟨rfl,trivial,?_⟩
 refine xap rfl (dS (TC.seq ?_))
 have hR0:=R14.born (l:=l) hl hfd (N:=l.cells.toNat) (by have:=zaO hl; have:=zay hl; have:=zdh hl; omega)
 refine TC.region (xmp rfl (TL.nilP false rfl rfl zoM rfl rfl rfl (xmf rfl (xmp rfl (TL.call [2,3] [2,3,5,6,7] (zc0 hl) ⟨rfl,trivial⟩ ⟨rfl,rfl,trivial⟩ zgB rfl rfl rfl rfl ?_)))))
 rintro xb Bs ⟨na,nn,nc,ca,xa,mr,bc,offc,cn,cc,bx,offx,xn,xc,Acl,Ax,fc,fx,ps,rfl,rfl,hB⟩
 refine ⟨rfl,trivial,?_⟩
 refine TL.callD [5,6,7] [5,6,7] (zgM hl hB hR0.rt (fun _=>hR0.hd.strict)) ⟨rfl,rfl,trivial⟩ ⟨rfl,rfl,rfl,trivial⟩ zmG rfl rfl rfl rfl rfl trivial (xnt rfl (xpF rfl (TL.done (TQ.then (TC.condF rfl (TC.skip (TQ.then (sB ?_))))))))
 refine xf 4 zhb rfl (xls 1 zoK rfl rfl (xz zeG rfl (xmi rfl (dK ?_))))
 refine TC.loopK (X:=Nat×M×Value×Array EdR×G) [3,21,22] [0,1,5,6,7] (fun ⟨i,σ,sv,d,g⟩=>[(23,.int .i64 ((i:Nat):Int))]) (fun ⟨i,σ,sv,d,g⟩=>[(2,pt pb (.cells #[.int .i64 l.V,.int .i64 l.S,.int .i64 l.T,.pointer (some ⟨ab,0,none⟩),.int .i64 l.V,.int .i64 l.S,.int .i64 l.T,.iface 107 (.agg #[.pointer (some ⟨ab,0,none⟩)]),.int .i64 1,.int .i64 0,.int .i64 l.V,.int .i64 l.S,.int .i64 l.T,.iface 107 (.agg #[.pointer (some ⟨ab,0,none⟩)]),sv] 90)),(3,zaB ab mb 149 110 (σ)),(4,ownA encE 5 65 sv d)]) (fun ⟨i,σ,sv,d,g⟩=>i≤on∧R14 l (fun x=>if dn=0 then 0 else fd (x.toNat % dn)) σ g d) (fun ⟨i,σ,sv,d,g⟩=>on - i) ((0,_,_,#[],G0)) ⟨Nat.zero_le _,R14.born hl hfd (by have:=zaO hl; have:=zay hl; have:=zdh hl; omega)⟩ ⟨rfl,trivial⟩ ⟨rfl,rfl,rfl,trivial⟩ (fun y hI=>?_)
 obtain ⟨i,σ,sv,d,g⟩:=y
 obtain ⟨hi,hR⟩:=hI
 replace hi:i≤on:=hi
 replace hR:R14 l (fun x=>if dn=0 then 0 else fd (x.toNat % dn)) σ g d:=hR
 refine TC.sub (env':=[(23,_),(3,_),(21,_),(22,_)]) (L':=[(2,_),(3,_),(4,_),(0,_),(1,_),(5,_),(6,_),(7,_)]) ⟨rfl,rfl,rfl,rfl,trivial⟩ ⟨rfl,rfl,rfl,rfl,rfl,rfl,rfl,rfl,trivial⟩ (sA (TL.lss rfl rfl rfl rfl (fun q1=>?_) (fun q1=>?_)))
 refine dS (TC.condT rfl (TC.skip (TQ.then (TC.seq (TC.block (sA (TL.iaO rfl hoa rfl zeG (by omega) rfl rfl (TL.ldRx 0 [_,_,_] rfl rfl hAo (by omega) rfl zic rfl rfl ?_))))))))
 refine TL.alloc 8 (cs:=#[.int .i64 0,.int .i64 0,.int .i64 0]) zqI rfl rfl rfl (fun _=>trivial) (fun bk8=>(TL.stW 8 3 [_,_,_] rfl rfl rfl rfl rfl rfl zic rfl rfl trivial (dA (xmp rfl (xL3 8 zic rfl rfl (TL.call [2,3,4] [2,3,4] (zlt hl hR) ⟨rfl,rfl,trivial⟩ ⟨rfl,rfl,rfl,trivial⟩ zrh rfl rfl rfl rfl ?_))))))
 rintro x Bs ⟨rfl,σ2,v2,d2,g2,rfl,hR2,hLv,hIns⟩
 refine ⟨rfl,trivial,?_⟩
 refine xnt rfl (xmf rfl (xmp rfl (TL.call [2,3] [2,3,9,10,11] (zc0 hl) ⟨rfl,trivial⟩ ⟨rfl,rfl,trivial⟩ zgB rfl rfl rfl rfl ?_)))
 rintro xb Bs ⟨na,nn,nc,ca,xa,mr,bc,offc,cn,cc,bx,offx,xn,xc,Acl,Ax,fc,fx,ps,rfl,rfl,hB⟩
 refine ⟨rfl,trivial,?_⟩
 refine TL.callD [9,10,11] [9,10,11] (zgM hl hB hR2.rt (fun _=>hR2.hd.strict)) ⟨rfl,rfl,trivial⟩ ⟨rfl,rfl,rfl,trivial⟩ zmG rfl rfl rfl rfl rfl trivial (xnt rfl (xpF rfl (TL.done (TQ.then (TC.condF rfl (TC.skip (TQ.inBlock (TQ.then ?_))))))))
 refine TC.region (TL.add (((i+1:Nat):Int)) rfl rfl (wrN (by omega)) rfl rfl (xmi rfl (TL.done (TQ.roundK ((i+1,_,_,_,_)) ⟨⟨(show i+1≤on by omega),hR2⟩,(show on - (i+1)<on - i by omega)⟩ ⟨rfl,trivial⟩ ⟨rfl,rfl,rfl,trivial⟩ (kE3 rfl rfl rfl trivial) (kL5 rfl rfl rfl rfl rfl trivial)))))
 refine dS (TC.condF rfl (TC.exit (TQ.thenExit (TQ.thenExit (TQ.blockHere (TQ.then (sA (TL.callD [] [] zhn trivial trivial zo1 rfl rfl rfl rfl rfl trivial ?_))))))))
 refine xat rfl (dR ?_)
 refine FQ.ret1 (v:=(.bool true)) (Bs:=[_]) [0] rfl rfl rfl ⟨rfl,trivial⟩ ?_
 exact ⟨rfl,rfl⟩
end Go.Proofs.YtfmjfdbmpkcndaaGreat
