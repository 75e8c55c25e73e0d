import Derived.Test.YtfmjfdbmpkcndaaGreatConC
set_option linter.unusedVariables false
set_option linter.unusedSimpArgs false
set_option maxRecDepth 20000
namespace Go.Proofs.YtfmjfdbmpkcndaaGreat
open Go.Eng Go.Tm
theorem zqg {V S T:Int} {da oa:Option Addr} {dn dc on oc:Nat} {u v:Int} (hno:¬(okL V S T∧V≤8∧S≤12∧dn≤60∧on≤40)):FnD Tryz.prog 12 [.agg #[.int .i64 V,.int .i64 S,.int .i64 T,.slice da dn dc,.slice oa on oc],.int .i64 u,.int .i64 v] [] (.bool true) []:=by
 refine Fn.enter (Tryz.func12) rfl rfl (fun w0 R=>?_)
 refine sA (xB 0 rfl (fun bk0=>(xaf rfl (dB (xL5 0 zif rfl rfl (TL.callD [] [] zg7 ⟨rfl,trivial⟩ trivial zo0 rfl rfl rfl rfl rfl trivial ?_))))))
 rw [decide_eq_false hno]
 refine xnf rfl (xmt rfl (xo rfl (xo rfl (xpT rfl (xmt rfl (xo rfl (xo rfl (xpT rfl ?_))))))))
 refine xmt rfl (xo rfl (xo rfl (xo rfl (xo rfl (xo rfl (xpT rfl (xmt rfl (xo rfl ?_))))))))
 refine xo rfl (xo rfl (xo rfl (xo rfl (xpT rfl (xmt rfl (xo rfl (xo rfl (xo rfl ?_))))))))
 refine xpT rfl (dT rfl (TL.callD [] [] zbS trivial trivial zfi rfl rfl rfl rfl rfl trivial (xat rfl (dRR ?_))))
 refine FQ.ret1 (v:=(.bool true)) (Bs:=[]) [] rfl rfl rfl trivial ?_
 exact ⟨rfl,rfl⟩
set_option maxHeartbeats 1000000 in
theorem zqh {l:Lay} (hl:l.Ok) {da oa:Option Addr} {dn dc on oc:Nat} {Ad:Assn} {bd offd:Nat} {fd:Nat→Int} (hda:0<dn→da=some ⟨bd,offd,none⟩) (hAd:zaV Ad encU 1 bd offd dn fd) (hfd:∀ i,i<dn→0≤fd i∧fd i<18446744073709551616) {bo offo:Nat} {fo:Nat→Op3} (hoa:0<on→oa=some ⟨bo,offo,none⟩) (hAo:zaV Ad zp7 3 bo offo on fo) {u v:Int} (hok:(okL l.V l.S l.T∧(l.V:Int)≤8∧(l.S:Int)≤12∧dn≤60∧on≤40)):FnD Tryz.prog 12 [.agg #[.int .i64 l.V,.int .i64 l.S,.int .i64 l.T,.slice da dn dc,.slice oa on oc],.int .i64 u,.int .i64 v] [Ad] (.bool true) [Ad]:=by
 obtain ⟨hk1,hk2,hk3,hk4,hk5⟩:=hok
 have hok:(okL l.V l.S l.T∧(l.V:Int)≤8∧(l.S:Int)≤12∧dn≤60∧on≤40):=⟨hk1,hk2,hk3,hk4,hk5⟩
 have hlb:=zaS hl
 refine Fn.enter (Tryz.func12) rfl rfl (fun w0 R=>?_)
 refine sA (xB 1 rfl (fun bk1=>(xaf rfl (dB (xL5 1 zif rfl rfl (TL.callD [] [] zg7 ⟨rfl,trivial⟩ trivial zo0 rfl rfl rfl rfl rfl trivial ?_))))))
 rw [decide_eq_true hok]
 refine xnt rfl (xmf rfl (xmi rfl (TL.lss rfl rfl rfl rfl (fun q1=>?_) (fun q1=>?_))))
 refine xpH rfl (xmt rfl (xo rfl (xo rfl (xpT rfl (xmt rfl (xo rfl (xo rfl (xo rfl ?_))))))))
 refine xo rfl (xo rfl (xpT rfl (xmt rfl (xo rfl (xo rfl (xo rfl (xo rfl (xo rfl ?_))))))))
 refine xpT rfl (xmt rfl (xo rfl (xo rfl (xo rfl (xpT rfl (dT rfl (TL.callD [] [] zbS trivial trivial zfi rfl rfl rfl rfl rfl trivial (xat rfl ?_))))))))
 refine dRR ?_
 refine FQ.ret1 (v:=(.bool true)) (Bs:=[_]) [0] rfl rfl rfl ⟨rfl,trivial⟩ ?_
 exact ⟨rfl,rfl⟩
 refine xpF rfl (xmf rfl (xmi rfl (TL.lss rfl rfl rfl rfl (fun q2=>?_) (fun q2=>?_))))
 refine xpH rfl (xmt rfl (xo rfl (xo rfl (xo rfl (xo rfl (xo rfl (xpT rfl (xmt rfl ?_))))))))
 refine xo rfl (xo rfl (xo rfl (xo rfl (xo rfl (xpT rfl (xmt rfl (xo rfl (xo rfl ?_))))))))
 refine xo rfl (xpT rfl (dT rfl (TL.callD [] [] zbS trivial trivial zfi rfl rfl rfl rfl rfl trivial (xat rfl (dRR ?_)))))
 refine FQ.ret1 (v:=(.bool true)) (Bs:=[_]) [0] rfl rfl rfl ⟨rfl,trivial⟩ ?_
 exact ⟨rfl,rfl⟩
 refine xpF rfl (xmf rfl (xmi rfl (xf 0 zcP rfl (xf 0 zap rfl (xli 1 zaa rfl rfl (TL.geq rfl rfl rfl rfl (fun q3=>?_) (fun q3=>?_)))))))
 refine xpH rfl (xmt rfl (xo rfl (xo rfl (xo rfl (xo rfl (xo rfl (xpT rfl (xmt rfl ?_))))))))
 refine xo rfl (xo rfl (xo rfl (xpT rfl (dT rfl (TL.callD [] [] zbS trivial trivial zfi rfl rfl rfl rfl rfl trivial (xat rfl (dRR ?_)))))))
 refine FQ.ret1 (v:=(.bool true)) (Bs:=[_]) [0] rfl rfl rfl ⟨rfl,trivial⟩ ?_
 exact ⟨rfl,rfl⟩
 refine xpF rfl (xmf rfl (xmi rfl (xf 0 zcP rfl (xf 0 zap rfl (xli 1 zaa rfl rfl (TL.geq rfl rfl rfl rfl (fun q4=>?_) (fun q4=>?_)))))))
 refine xpH rfl (xmt rfl (xo rfl (xo rfl (xo rfl (xpT rfl (dT rfl (TL.callD [] [] zbS trivial trivial zfi rfl rfl rfl rfl rfl trivial (xat rfl ?_))))))))
 refine dRR ?_
 refine FQ.ret1 (v:=(.bool true)) (Bs:=[_]) [0] rfl rfl rfl ⟨rfl,trivial⟩ ?_
 exact ⟨rfl,rfl⟩
 refine xpF rfl (xmf rfl (xmi rfl (xmi rfl (TL.eql rfl rfl rfl rfl (fun q5=>?_) (fun q5=>?_)))))
 refine xpH rfl (dT rfl (TL.callD [] [] zbS trivial trivial zfi rfl rfl rfl rfl rfl trivial (xat rfl (dRR ?_))))
 refine FQ.ret1 (v:=(.bool true)) (Bs:=[_]) [0] rfl rfl rfl ⟨rfl,trivial⟩ ?_
 exact ⟨rfl,rfl⟩
 refine xpF rfl (dF rfl (xL5 1 zif rfl rfl (TL.call [0] [0,2,3,4] (zhp hl hda hAd hfd (by omega)) ⟨rfl,trivial⟩ ⟨rfl,trivial⟩ zoZ rfl rfl rfl rfl ?_)))
 rintro x Bs ⟨pb,ab,mb,rfl,rfl⟩
 refine ⟨rfl,trivial,?_⟩
 refine xap rfl (dB (xmp rfl (TL.nilP false rfl rfl zoL rfl rfl rfl (TL.done (TQ.then (TC.condF rfl (TC.skip (TQ.then ?_))))))))
 refine sB (xf 4 zhd rfl (xls 1 zoJ rfl rfl (xz zeL rfl (xmi rfl (dK ?_)))))
 refine TC.loopK (X:=Nat×M×Value×Array EdR×G) [1,2,7,52,53] [0,1] (fun ⟨i,σ,sv,d,g⟩=>[(54,.int .i64 ((i:Nat):Int))]) (fun ⟨i,σ,sv,d,g⟩=>[(2,pt pb (.cells #[.int .i64 l.V,.int .i64 l.S,.int .i64 l.T,.pointer (some ⟨ab,0,none⟩),.int .i64 l.V,.int .i64 l.S,.int .i64 l.T,.iface 107 (.agg #[.pointer (some ⟨ab,0,none⟩)]),.int .i64 1,.int .i64 0,.int .i64 l.V,.int .i64 l.S,.int .i64 l.T,.iface 107 (.agg #[.pointer (some ⟨ab,0,none⟩)]),sv] 90)),(3,zaA ab mb 149 110 (σ)),(4,ownA encE 5 65 sv d)]) (fun ⟨i,σ,sv,d,g⟩=>i≤on∧R14 l (fun x=>if dn=0 then 0 else fd (x.toNat % dn)) σ g d) (fun ⟨i,σ,sv,d,g⟩=>on - i) ((0,_,_,#[],G0)) ⟨Nat.zero_le _,R14.born hl hfd (by have:=zaT hl; have:=zay hl; have:=zdw hl; omega)⟩ ⟨rfl,trivial⟩ ⟨rfl,rfl,rfl,trivial⟩ (fun y hI=>?_)
 obtain ⟨i,σ,sv,d,g⟩:=y
 obtain ⟨hi,hR⟩:=hI
 replace hi:i≤on:=hi
 replace hR:R14 l (fun x=>if dn=0 then 0 else fd (x.toNat % dn)) σ g d:=hR
 refine TC.sub (env':=[(54,_),(1,_),(2,_),(7,_),(52,_),(53,_)]) (L':=[(2,_),(3,_),(4,_),(0,_),(1,_)]) ⟨rfl,rfl,rfl,rfl,rfl,rfl,trivial⟩ ⟨rfl,rfl,rfl,rfl,rfl,trivial⟩ (sA (TL.lss rfl rfl rfl rfl (fun q6=>?_) (fun q6=>?_)))
 refine dS (TC.condT rfl (TC.skip (TQ.then (TC.seq (TC.block (sA (TL.iaO rfl hoa rfl zeL (by omega) rfl rfl (TL.ldRx 0 [_,_,_] rfl rfl hAo (by omega) rfl zie rfl rfl ?_))))))))
 refine TL.alloc 5 (cs:=#[.int .i64 0,.int .i64 0,.int .i64 0]) zqK rfl rfl rfl (fun _=>trivial) (fun bk5=>(TL.stW 5 3 [_,_,_] rfl rfl rfl rfl rfl rfl zie rfl rfl trivial (dA (xmp rfl (xL3 5 zie rfl rfl (TL.call [2,3,4] [2,3,4] (zlw hl hR) ⟨rfl,rfl,trivial⟩ ⟨rfl,rfl,rfl,trivial⟩ zrk rfl rfl rfl rfl ?_))))))
 rintro x Bs ⟨rfl,σ2,v2,d2,g2,rfl,hR2,hLv,hIns⟩
 refine ⟨rfl,trivial,?_⟩
 refine xnt rfl (TL.done (TQ.then (TC.condF rfl (TC.skip (TQ.inBlock (TQ.then (TC.region (TL.add (((i+1:Nat):Int)) rfl rfl (wrN (by omega)) rfl rfl ?_))))))))
 refine xmi rfl (TL.done (TQ.roundK ((i+1,_,_,_,_)) ⟨⟨(show i+1≤on by omega),hR2⟩,(show on - (i+1)<on - i by omega)⟩ ⟨rfl,trivial⟩ ⟨rfl,rfl,rfl,trivial⟩ (kE5 rfl rfl rfl rfl rfl trivial) (kL2 rfl rfl trivial)))
 refine dS (TC.condF rfl (TC.exit (TQ.thenExit (TQ.thenExit (TQ.blockHere (TQ.then (TC.seq ?_)))))))
 have hsz:=hR.size hl
 have hd:d.size≤100:=by omega
 refine TC.region (xmp rfl (TL.callD [2,4] [2,4] (zbW hl hd) ⟨rfl,trivial⟩ ⟨rfl,rfl,trivial⟩ zez rfl rfl rfl rfl rfl trivial (xai rfl (dB (xmp rfl (xmi rfl (xmi rfl (TL.callD [2,4] [2,4] (zbp hl hd) ⟨rfl,rfl,rfl,trivial⟩ ⟨rfl,rfl,trivial⟩ zd3 rfl rfl rfl rfl rfl trivial ?_))))))))
 refine TL.geq rfl rfl rfl rfl (fun q7=>?_) (fun q7=>?_)
 refine xmt rfl (xo rfl (xo rfl (xpT rfl (dT rfl (TL.callD [] [] zbS trivial trivial zfi rfl rfl rfl rfl rfl trivial (xat rfl (dRR ?_)))))))
 refine FQ.ret1 (v:=(.bool true)) (Bs:=[_]) [0] rfl rfl rfl ⟨rfl,trivial⟩ ?_
 exact ⟨rfl,rfl⟩
 refine xmf rfl (xmi rfl (TL.lss rfl rfl rfl rfl (fun q8=>?_) (fun q8=>?_)))
 refine xpH rfl (dT rfl (TL.callD [] [] zbS trivial trivial zfi rfl rfl rfl rfl rfl trivial (xat rfl (dRR ?_))))
 refine FQ.ret1 (v:=(.bool true)) (Bs:=[_]) [0] rfl rfl rfl ⟨rfl,trivial⟩ ?_
 exact ⟨rfl,rfl⟩
 refine xpF rfl (TL.done (TQ.then (TC.condF rfl (TC.skip (TQ.then (TC.seq ?_))))))
 obtain ⟨s,hs,es,hs2⟩:∃ s:Nat,s<l.S∧fsN (noS d) l.S=(s:Int)∧noS d s=true:=by rcases zdp (P:=noS d) (n:=l.S) with ⟨h1,_⟩ | ⟨s,h1,h2,h3,_⟩; exact absurd (by omega) ‹¬fsN (noS d) l.S<0›; exact ⟨s,h1,h2,h3⟩
 have hbw:∀ j,j<d.size→bwB d u v j=false:=by rcases zdp (P:=bwB d u v) (n:=d.size) with ⟨_,h2⟩ | ⟨s,h1,h2,h3,_⟩; exact h2; exact absurd (by omega) ‹¬0≤fsN (bwB d u v) d.size›
 obtain ⟨σ1,σ2,g2,e1,e2,e3,hRb⟩:=hR.back hl (s:=s) (u:=u) (v:=v) ⟨by omega,by omega⟩ ⟨by omega,by omega⟩ ⟨by omega,by omega⟩ (by omega) (of_decide_eq_true hs2) hbw
 rw [es]
 refine TC.region (xmp rfl (xN0 rfl (xf 4 zaZ rfl (xL10 2 zaU rfl rfl (xmi rfl (xmi rfl (TL.callD [3] [3] (zdm (p:=P1) zcd hl (hR.joined hl (u:=u) (v:=v) (by omega) (by omega))) ⟨rfl,rfl,rfl,trivial⟩ ⟨rfl,trivial⟩ zhj rfl rfl rfl rfl rfl trivial (xab rfl ?_))))))))
 refine dA (xmp rfl (xN0 rfl (xf 4 zaZ rfl (xL10 2 zaU rfl rfl (xmi rfl (xmi rfl (xmi rfl (TL.callD [3] [3] (zdn (p:=P1) zcd hl e1) ⟨rfl,rfl,rfl,rfl,trivial⟩ ⟨rfl,trivial⟩ zi0 rfl rfl rfl rfl rfl trivial ?_))))))))
 refine xab rfl (dB (xmb rfl (xmb rfl (TL.eqlB rfl rfl zfX rfl rfl ?_))))
 rw [(show ((!jdB d u v) == jdB d u v)=false by cases jdB d u v<;>rfl)]
 refine xmf rfl (xmp rfl (xN0 rfl (xf 4 zaZ rfl (xL10 2 zaU rfl rfl (xmi rfl (xmi rfl (TL.callD [3] [3] (zdm (p:=P1) zcd hl e2) ⟨rfl,rfl,rfl,trivial⟩ ⟨rfl,trivial⟩ zhj rfl rfl rfl rfl rfl trivial (xnt rfl ?_))))))))
 refine xpF rfl (dF rfl (xmp rfl (xN0 rfl (xf 4 zaZ rfl (xL10 2 zaU rfl rfl (xmi rfl (TL.callD [3] [3] (zdo (p:=P1) zcd hl e3) ⟨rfl,rfl,trivial⟩ ⟨rfl,trivial⟩ ziZ rfl rfl rfl rfl rfl trivial (xmu rfl ?_))))))))
 refine TL.ext (.bool _) rfl rfl rfl rfl (xei rfl rfl (TL.ext (.bool false) rfl rfl rfl rfl (xab rfl (xai rfl (xaf rfl (dB (xmb rfl (xmb rfl ?_))))))))
 refine TL.neqB rfl rfl zfX rfl rfl ?_
 rw [(show (!((!jdB d u v) == (!jdB d u v)))=false by simp)]
 refine xmf rfl (xmf rfl (xpF rfl (xmf rfl (xmi rfl (TL.neqF rfl rfl (by omega) rfl rfl (xpF rfl (xmf rfl (xmp rfl ?_))))))))
 refine xN0 rfl (xf 4 zaZ rfl (xL10 2 zaU rfl rfl (xmi rfl (xmi rfl (TL.callD [3] [3] (zdm (p:=P1) zcd hl (hRb.joined hl (u:=u) (v:=v) (by omega) (by omega))) ⟨rfl,rfl,rfl,trivial⟩ ⟨rfl,trivial⟩ zhj rfl rfl rfl rfl rfl trivial (xmb rfl (TL.neqB rfl rfl zfX rfl rfl ?_)))))))
 rw [(show (!(jdB d u v == jdB d u v))=false by simp)]
 refine xpF rfl (xmf rfl (xmp rfl (TL.callD [2,3,4] [2,3,4] (zpA hl hRb) ⟨rfl,trivial⟩ ⟨rfl,rfl,rfl,trivial⟩ zrj rfl rfl rfl rfl rfl trivial (xnt rfl (xpF rfl (xmf rfl (xmp rfl (TL.call [2,3] [2,3,6,7,8] (zc3 hl) ⟨rfl,trivial⟩ ⟨rfl,rfl,trivial⟩ zgE rfl rfl rfl rfl ?_))))))))
 rintro xb Bs ⟨na,nn,nc,ca,xa,mr,bc,offc,cn,cc,bx,offx,xn,xc,Acl,Ax,fc,fx,ps,rfl,rfl,hB⟩
 refine ⟨rfl,trivial,?_⟩
 refine TL.callD [6,7,8] [6,7,8] (zi5 hl hB hRb.rt (fun _=>hRb.hd.strict)) ⟨rfl,rfl,trivial⟩ ⟨rfl,rfl,rfl,trivial⟩ zo4 rfl rfl rfl rfl rfl trivial (xnt rfl (xpF rfl (dF rfl (TL.callD [] [] zbS trivial trivial zfi rfl rfl rfl rfl rfl trivial (xat rfl (dR ?_))))))
 refine FQ.ret1 (v:=(.bool true)) (Bs:=[_]) [0] rfl rfl rfl ⟨rfl,trivial⟩ ?_
 exact ⟨rfl,rfl⟩
end Go.Proofs.YtfmjfdbmpkcndaaGreat
