import Derived.Test.YtjnpjkfliochbaaGreatConC
set_option linter.unusedVariables false
set_option linter.unusedSimpArgs false
set_option maxRecDepth 20000
namespace Go.Proofs.YtjnpjkfliochbaaGreat
open Go.Eng Go.Tm
set_option maxHeartbeats 2000000 in
theorem zmK {l:Lay} (hl:l.Ok) {da oa ua:Option Addr} {dn dc on oc un uc:Nat} {Ad:Assn} {bd offd bo offo bu offu:Nat} {fd:Nat→Int} {fo fu:Nat→Op4} (hda:0<dn→da=some ⟨bd,offd,none⟩) (hAd:zbB Ad encU 1 bd offd dn fd) (hfd:∀ i,i<dn→0≤fd i∧fd i<18446744073709551616) (hoa:0<on→oa=some ⟨bo,offo,none⟩) (hAo:zbB Ad zjy 4 bo offo on fo) (hoc:on≤oc) (hua:0<un→ua=some ⟨bu,offu,none⟩) (hAu:zbB Ad zjy 4 bu offu un fu) (huc:un≤uc) {u v:Int} (hok:(okL l.V l.S l.T∧(l.V:Int)≤8∧(l.S:Int)≤12∧dn≤60∧on≤40∧un≤12)):FnD Tryz.prog 12 [.agg #[.int .i64 l.V,.int .i64 l.S,.int .i64 l.T,.slice da dn dc,.slice oa on oc,.slice ua un uc],.int .i64 u,.int .i64 v] [Ad] (.bool true) [Ad]:=by
 obtain ⟨hk1,hk2,hk3,hk4,hk5,hk6⟩:=hok
 have hok:(okL l.V l.S l.T∧(l.V:Int)≤8∧(l.S:Int)≤12∧dn≤60∧on≤40∧un≤12):=⟨hk1,hk2,hk3,hk4,hk5,hk6⟩
 have hdn:dn≤60:=by omega
 have hon:on≤40:=by omega
 have hun:un≤12:=by omega
 have hnb:=za0 hl
 have hcb:=ze9 hl
 have hlb:=zcv hl
 have hob:=zcc hl
 have hlk:=zeX hl
 have hhd:l.heads=l.T+1+l.S * 7:=rfl
 have ht1:=zi4 hl
 refine Fn.enter (Tryz.func12) rfl rfl (fun w0 R=>?_)
 refine sA (xB 1 rfl (fun bk1=>(TL.box1 2 (.int _ _) rfl rfl rfl rfl (fun _=>trivial) (fun bk2=>(TL.box1 3 (.int _ _) rfl rfl rfl rfl (fun _=>trivial) (fun bk3=>(xaf rfl (dB (xL6 1 zhk rfl rfl (TL.callD [] [] zhI ⟨rfl,trivial⟩ trivial zpX rfl rfl rfl rfl rfl trivial ?_))))))))))
 rw [decide_eq_true hok]
 refine xnt rfl (xmf rfl (xli 2 zac rfl rfl (TL.lss rfl rfl rfl rfl (fun q1=>?_) (fun q1=>?_))))
 refine xpH rfl (xmt rfl (xo rfl (xo rfl (xo rfl (xo rfl (xo rfl (xpT rfl (xmt rfl ?_))))))))
 refine xo rfl (xo rfl (xpT rfl (xmt rfl (xo rfl (xo rfl (xo rfl (xo rfl (xo rfl ?_))))))))
 refine xpT rfl (dT rfl (TL.callD [] [] zda trivial trivial zh1 rfl rfl rfl rfl rfl trivial (xat rfl (dRR ?_))))
 refine FQ.ret1 (v:=(.bool true)) (Bs:=[_]) [0] rfl rfl rfl ⟨rfl,trivial⟩ ?_
 exact ⟨rfl,rfl⟩
 refine xpF rfl (xmf rfl (xli 2 zac rfl rfl (xf 0 zbl rfl (xf 0 zaJ rfl (xli 1 zac rfl rfl (TL.geq rfl rfl rfl rfl (fun q2=>?_) (fun q2=>?_)))))))
 refine xpH rfl (xmt rfl (xo rfl (xo rfl (xpT rfl (xmt rfl (xo rfl (xo rfl (xo rfl ?_))))))))
 refine xo rfl (xo rfl (xpT rfl (dT rfl (TL.callD [] [] zda trivial trivial zh1 rfl rfl rfl rfl rfl trivial (xat rfl (dRR ?_))))))
 refine FQ.ret1 (v:=(.bool true)) (Bs:=[_]) [0] rfl rfl rfl ⟨rfl,trivial⟩ ?_
 exact ⟨rfl,rfl⟩
 refine xpF rfl (xmf rfl (xli 3 zac rfl rfl (TL.lss rfl rfl rfl rfl (fun q3=>?_) (fun q3=>?_))))
 refine xpH rfl (xmt rfl (xo rfl (xo rfl (xo rfl (xo rfl (xo rfl (xpT rfl (dT rfl ?_))))))))
 refine TL.callD [] [] zda trivial trivial zh1 rfl rfl rfl rfl rfl trivial (xat rfl (dRR ?_))
 refine FQ.ret1 (v:=(.bool true)) (Bs:=[_]) [0] rfl rfl rfl ⟨rfl,trivial⟩ ?_
 exact ⟨rfl,rfl⟩
 refine xpF rfl (xmf rfl (xli 3 zac rfl rfl (xf 0 zbl rfl (xf 0 zaJ rfl (xli 1 zac rfl rfl (TL.geq rfl rfl rfl rfl (fun q4=>?_) (fun q4=>?_)))))))
 refine xpH rfl (dT rfl (TL.callD [] [] zda trivial trivial zh1 rfl rfl rfl rfl rfl trivial (xat rfl (dRR ?_))))
 refine FQ.ret1 (v:=(.bool true)) (Bs:=[_]) [0] rfl rfl rfl ⟨rfl,trivial⟩ ?_
 exact ⟨rfl,rfl⟩
 refine xpF rfl (dF rfl (xL6 1 zhk rfl rfl (TL.call [0] [0,4,5] (zl6 hl hda hAd hfd (by omega) hoa hAo hoc (by omega) hua hAu huc (by omega)) ⟨rfl,trivial⟩ ⟨rfl,trivial⟩ zsk rfl rfl rfl rfl ?_)))
 rintro x Bs ⟨pb,ab,mb,rfl,rfl⟩
 refine ⟨rfl,trivial,?_⟩
 have hBn:=(zok hl hfd (N:=l.cells.toNat) (by omega)).calm0 hl
 refine TL.alloc 6 (cs:=#[.pointer none]) zqT rfl rfl rfl (fun _=>trivial) (fun bk6=>(TL.st 6 #[_] (.pointer (some ⟨_,_,none⟩)) rfl rfl rfl rfl rfl rfl zd6 rfl rfl trivial (dB (xlp 6 zd6 rfl rfl (TL.nilP false rfl rfl zq1 rfl rfl rfl (TL.done (TQ.then (TC.condF rfl (TC.skip ?_)))))))))
 refine TQ.then (sB (xf 4 zg9 rfl (xls 1 ziF rfl rfl (xz zb6 rfl (xmi rfl (dK ?_))))))
 refine TC.loopK (X:=Nat×Int×M×G) [3,4,5,6,7,50,51] [0,1,2,3,6] (fun ⟨i,k,σ,g⟩=>[(52,.int .i64 ((i:Nat):Int))]) (fun ⟨i,k,σ,g⟩=>[(4,pt pb (.cells #[.int .i64 l.V,.int .i64 l.S,.int .i64 l.T,.pointer (some ⟨ab,0,none⟩),.int .i64 k] 117)),(5,zaj ab mb 140 71 (σ))]) (fun ⟨i,k,σ,g⟩=>i≤on∧(0≤k∧k≤i)∧Go.Tm.Calm l (fun x=>if dn=0 then 0 else fd (x.toNat % dn)) ⟨1,k⟩ (fun _=>k) σ g) (fun ⟨i,k,σ,g⟩=>on - i) ((0,0,zhq l dn fd (Array.replicate l.cells.toNat 0),G0)) ⟨Nat.zero_le _,⟨Int.le_refl _,(by show (0:Int)≤((0:Nat):Int); omega)⟩,hBn⟩ ⟨rfl,trivial⟩ ⟨rfl,rfl,trivial⟩ (fun y hI=>?_)
 obtain ⟨i,k,σ,g⟩:=y
 obtain ⟨hi,hk,hC⟩:=hI
 replace hi:i≤on:=hi
 replace hk:0≤k∧k≤i:=hk
 replace hC:Go.Tm.Calm l (fun x=>if dn=0 then 0 else fd (x.toNat % dn)) ⟨1,k⟩ (fun _=>k) σ g:=hC
 refine TC.sub (env':=[(52,_),(3,_),(4,_),(5,_),(6,_),(7,_),(50,_),(51,_)]) (L':=[(4,_),(5,_),(0,_),(1,_),(2,_),(3,_),(6,_)]) ⟨rfl,rfl,rfl,rfl,rfl,rfl,rfl,rfl,trivial⟩ ⟨rfl,rfl,rfl,rfl,rfl,rfl,rfl,trivial⟩ (sA (TL.lss rfl rfl rfl rfl (fun q5=>?_) (fun q5=>?_)))
 refine dS (TC.condT rfl (TC.skip (TQ.then (TC.seq (TC.block (sA (TL.iaO rfl hoa rfl zb6 (by omega) rfl rfl (TL.ldRx 0 [_,_,_,_] rfl rfl hAo (by omega) rfl zdU rfl rfl ?_))))))))
 refine TL.alloc 7 (cs:=#[.int .i64 0,.int .i64 0,.int .i64 0,.int .i64 0]) zno rfl rfl rfl (fun _=>trivial) (fun bk7=>(TL.stW 7 4 [_,_,_,_] rfl rfl rfl rfl rfl rfl zdU rfl rfl trivial (dA (xlp 6 zd6 rfl rfl (xL4 7 zdU rfl rfl (TL.call [4,5] [4,5] (zlr (o:=(fo i).o3) (w:=(fo i).wait) hl (by omega) hC) ⟨rfl,rfl,trivial⟩ ⟨rfl,rfl,trivial⟩ zpW rfl rfl rfl rfl ?_))))))
 rintro x Bs ⟨b,σ2,rfl,rfl,hWr⟩
 refine ⟨rfl,trivial,?_⟩
 refine TL.cases rfl (fun q6=>?_) (fun q6=>?_)
 refine TL.done (TQ.then (TC.condT rfl (TC.region (xlp 6 zd6 rfl rfl ?_))))
 obtain ⟨g2,hUp⟩:=hWr.elim (fun h=>absurd (h.1.symm.trans (by assumption)) (by decide)) (fun h=>h.2)
 refine TL.callD [4,5] [4,5] (zhn hl (by omega)) ⟨rfl,trivial⟩ ⟨rfl,rfl,trivial⟩ zpV rfl rfl rfl rfl rfl trivial (dI (TL.add (((i+1:Nat):Int)) rfl rfl (wrN (by omega)) rfl rfl (xmi rfl (TL.done (TQ.roundK ((i+1,k+1,_,g2)) ⟨⟨(show i+1≤on by omega),(show 0≤k+1∧k+1≤((i+1:Nat):Int) by omega),(hUp.commit hl (zmN (by omega)) ht1 (show k+1≤16777215 by omega)).1⟩,(show on - (i+1)<on - i by omega)⟩ ⟨rfl,trivial⟩ ⟨rfl,rfl,trivial⟩ (kE7 rfl rfl rfl rfl rfl rfl rfl trivial) (kL5 rfl rfl rfl rfl rfl trivial))))))
 refine TL.done (TQ.then (TC.condF rfl (TC.skip (TQ.inBlock (TQ.then (TC.region (TL.add (((i+1:Nat):Int)) rfl rfl (wrN (by omega)) rfl rfl (xmi rfl ?_))))))))
 refine TL.done (TQ.roundK ((i+1,k,σ2,g)) ⟨⟨(show i+1≤on by omega),(show 0≤k∧k≤((i+1:Nat):Int) by omega),(hWr.elim (fun h=>h.2▸hC) (fun h=>absurd (h.1.symm.trans (by assumption)) (by decide)))⟩,(show on - (i+1)<on - i by omega)⟩ ⟨rfl,trivial⟩ ⟨rfl,rfl,trivial⟩ (kE7 rfl rfl rfl rfl rfl rfl rfl trivial) (kL5 rfl rfl rfl rfl rfl trivial))
 refine dS (TC.condF rfl (TC.exit (TQ.thenExit (TQ.thenExit (TQ.blockHere (TQ.then (TC.seq ?_)))))))
 obtain ⟨K0,hK0⟩:∃ z,z=k:=⟨_,rfl⟩
 subst hK0
 obtain ⟨rt0,hS0⟩:=hC.seen_ hl
 have hP0:=PIv.start hl hS0 (u:=u) (v:=v) ⟨by omega,by omega⟩ ⟨by omega,by omega⟩ (kv:=K0) (by omega)
 refine TC.region (xf 0 zbl rfl (xL3 1 zaa rfl rfl (xli 2 zac rfl rfl (xli 3 zac rfl rfl (TL.call [] [8] (zm5 hl) ⟨rfl,rfl,rfl,trivial⟩ trivial zpU rfl rfl rfl rfl ?_)))))
 rintro x Bs ⟨kb,rfl,rfl⟩
 refine ⟨rfl,trivial,?_⟩
 refine TL.alloc 9 (cs:=#[.pointer none]) zqS rfl rfl rfl (fun _=>trivial) (fun bk9=>(TL.st 9 #[_] (.pointer (some ⟨_,_,none⟩)) rfl rfl rfl rfl rfl rfl zd5 rfl rfl trivial (dB (xlp 9 zd5 rfl rfl (TL.nilP false rfl rfl zns rfl rfl rfl (dF rfl (TL.alloc 10 (cs:=#[.int .i64 0]) zr4 rfl rfl rfl (fun _=>trivial) (fun bk10=>(TL.st 10 #[_] (.int _ _) rfl rfl rfl rfl rfl rfl zac rfl rfl trivial (xai rfl ?_))))))))))
 refine dA (TL.bs0 11 encB zcH rfl rfl (fun bk11=>⟨trivial,?_⟩))
 refine TL.alloc 12 (cs:=#[.slice none 0 0]) zrZ rfl rfl rfl (fun _=>trivial) (fun bk12=>(TL.st 12 #[_] _ rfl rfl rfl rfl rfl rfl zju rfl rfl trivial (dS (TC.close 12 11 (jbA 54 4 bk12 #[]) (by decide) rfl rfl (fun _ _ _ s1 s2 hd h1 h2=>zrU s1 s2 hd h1 h2) (TC.region (TL.mf (xs:=[]) (ys:=[_,_,_,_,_,_]) [] [_,_,_,_,_,_] trivial ⟨rfl,rfl,rfl,rfl,rfl,rfl,trivial⟩ rfl rfl (TL.asg (.func _ _ _) rfl rfl rfl (dB (xf 5 zg8 rfl ?_)))))))))
 refine xls 1 ziF rfl rfl (xz zb6 rfl (xmi rfl (dK ?_)))
 refine TC.loopK (X:=Nat×Nat×Int×Nat×M×G×CollectS×Array Bool) [3,6,7,10,13,14,72,73] [0,1,2,3,6,9,11] (fun ⟨j,cm,k,now,σ,g,c,d⟩=>[(74,.int .i64 ((j:Nat):Int)),(12,.int .i64 ((cm:Nat):Int))]) (fun ⟨j,cm,k,now,σ,g,c,d⟩=>[(10,pt bk10 (.cells #[.int .i64 ((now:Nat):Int)] 3)),(8,zal 168 157 189 kb l (c)),(12,jbA 54 4 bk12 (d)),(4,pt pb (.cells #[.int .i64 l.V,.int .i64 l.S,.int .i64 l.T,.pointer (some ⟨ab,0,none⟩),.int .i64 k] 117)),(5,zaj ab mb 140 71 (σ))]) (fun ⟨j,cm,k,now,σ,g,c,d⟩=>j≤un∧(cm≤j∧k=K0+cm)∧(now≤21 * j∧(d).size≤now)∧Go.Tm.Calm l (fun x=>if dn=0 then 0 else fd (x.toNat % dn)) ⟨1,k⟩ (fun _=>k) σ g∧∃ rt,SeenF l σ (parent l σ) rt∧PIv l σ (parent l σ) rt k K0 u v now c d) (fun ⟨j,cm,k,now,σ,g,c,d⟩=>un - j) ((0,0,K0,0,σ,g,za8 l u v,#[])) ⟨Nat.zero_le _,⟨Nat.le_refl _,(show K0=K0+((0:Nat):Int) by omega)⟩,⟨Nat.zero_le _,Nat.zero_le _⟩,hC,rt0,hS0,hP0⟩ ⟨rfl,rfl,trivial⟩ ⟨rfl,rfl,rfl,rfl,rfl,trivial⟩ (fun y hI=>?_)
 obtain ⟨j,cm,k,now,σ,g,c,d⟩:=y
 replace hI:j≤un∧(cm≤j∧k=K0+cm)∧(now≤21 * j∧(d).size≤now)∧Go.Tm.Calm l (fun x=>if dn=0 then 0 else fd (x.toNat % dn)) ⟨1,k⟩ (fun _=>k) σ g∧∃ rt,SeenF l σ (parent l σ) rt∧PIv l σ (parent l σ) rt k K0 u v now c d:=hI
 obtain ⟨hj,⟨hcm,hkc⟩,⟨hnw,hds⟩,hC,rt,hS,hPv⟩:=hI
 refine TC.sub (env':=[(74,_),(12,_),(3,_),(6,_),(7,_),(10,_),(13,_),(14,_),(72,_),(73,_)]) (L':=[(10,_),(8,_),(12,_),(4,_),(5,_),(0,_),(1,_),(2,_),(3,_),(6,_),(9,_),(11,_)]) ⟨rfl,rfl,rfl,rfl,rfl,rfl,rfl,rfl,rfl,rfl,trivial⟩ ⟨rfl,rfl,rfl,rfl,rfl,rfl,rfl,rfl,rfl,rfl,rfl,rfl,trivial⟩ (sA (TL.lss rfl rfl rfl rfl (fun q6=>?_) (fun q6=>?_)))
 refine dS (TC.condT rfl (TC.skip (TQ.then (TC.seq (TC.block (sA (TL.iaO rfl hua rfl zb6 (by omega) rfl rfl (TL.ldRx 0 [_,_,_,_] rfl rfl hAu (by omega) rfl zdU rfl rfl ?_))))))))
 refine TL.alloc 13 (cs:=#[.int .i64 0,.int .i64 0,.int .i64 0,.int .i64 0]) zno rfl rfl rfl (fun _=>trivial) (fun bk13=>(TL.stW 13 4 [_,_,_,_] rfl rfl rfl rfl rfl rfl zdU rfl rfl trivial (dS (TC.seq ?_))))
 obtain ⟨wn,hwn,hw20⟩:∃ z:Nat,min (max (fu j).wait 0) 20=(z:Int)∧z≤20:=⟨(min (max (fu j).wait 0) 20).toNat,by omega,by omega⟩
 refine TC.region (xf 3 zko rfl (xli 13 zac rfl rfl (TL.max2 rfl rfl rfl rfl (TL.min2 rfl rfl rfl rfl ?_))))
 try rw [hwn]
 refine xmi rfl (dK (TC.loopK (X:=Nat×CollectS×Array Bool) [3,6,7,10,12,13,14,16,72,73,74,81] [0,1,2,3,4,5,6,9,11,13] (fun ⟨q,c1,d1⟩=>[(82,.int .i64 ((q:Nat):Int))]) (fun ⟨q,c1,d1⟩=>[(10,pt bk10 (.cells #[.int .i64 (((now+q):Nat):Int)] 3)),(8,zal 168 157 189 kb l (c1)),(12,jbA 54 4 bk12 (d1))]) (fun ⟨q,c1,d1⟩=>(q≤wn∧(d1).size≤now+q)∧PIv l σ (parent l σ) rt k K0 u v (now+q) c1 d1) (fun ⟨q,c1,d1⟩=>wn - q) ((0,c,d)) ⟨⟨Nat.zero_le _,hds⟩,hPv⟩ ⟨rfl,trivial⟩ ⟨rfl,rfl,rfl,trivial⟩ (fun y hI=>?_)))
 obtain ⟨q,c1,d1⟩:=y
 replace hI:(q≤wn∧(d1).size≤now+q)∧PIv l σ (parent l σ) rt k K0 u v (now+q) c1 d1:=hI
 obtain ⟨⟨hq,hds1⟩,hP1⟩:=hI
 refine TC.sub (env':=[(82,_),(3,_),(6,_),(7,_),(10,_),(12,_),(13,_),(14,_),(16,_),(72,_),(73,_),(74,_),(81,_)]) (L':=[(10,_),(8,_),(12,_),(0,_),(1,_),(2,_),(3,_),(4,_),(5,_),(6,_),(9,_),(11,_),(13,_)]) ⟨rfl,rfl,rfl,rfl,rfl,rfl,rfl,rfl,rfl,rfl,rfl,rfl,rfl,trivial⟩ ⟨rfl,rfl,rfl,rfl,rfl,rfl,rfl,rfl,rfl,rfl,rfl,rfl,rfl,trivial⟩ (sA (TL.lss rfl rfl rfl rfl (fun q7=>?_) (fun q7=>?_)))
 refine dS (TC.condT rfl (TC.skip (TQ.then (TC.seq (TC.block (TC.region (TL.mv (.func _ _ _) rfl rfl rfl (TL.callC (c1:=[]) (c2:=[_,_,_,_,_,_]) (vs:=[]) [12,10,9,6,2,3,8,4,5] [12,10,9,6,2,3,8,4,5] rfl (zgG hl (by omega) hS ⟨by omega,by omega⟩ ⟨by omega,by omega⟩ (by omega)) trivial ⟨rfl,rfl,rfl,rfl,rfl,rfl,rfl,rfl,rfl,trivial⟩ znt rfl rfl rfl rfl rfl trivial ?_))))))))
 refine dI (TL.add (((q+1:Nat):Int)) rfl rfl (wrN (by omega)) rfl rfl ?_)
 try rw [hwn]
 refine xmi rfl (TL.done (TQ.roundK ((q+1,_,_)) ⟨⟨⟨(show q+1≤wn by omega),(show (zeY c1 d1 _).size≤now+(q+1) by have:=zix (c:=c1) (d:=d1) (b:=decide (rt (l.vertex 0 u)=rt (l.vertex 0 v))); omega)⟩,(hP1.step hl hS (fun x hx=>hC.ver_ hl hx) (by omega)).1⟩,(show wn - (q+1)<wn - q by omega)⟩ ⟨rfl,trivial⟩ ⟨rfl,rfl,rfl,trivial⟩ (kE8 rfl rfl rfl rfl rfl rfl rfl rfl (kE4 rfl rfl rfl rfl trivial)) (kL8 rfl rfl rfl rfl rfl rfl rfl rfl (kL2 rfl rfl trivial))))
 refine dS (TC.condF rfl (TC.exit (TQ.thenExit (TQ.thenExit (TQ.blockHere (TQ.then (sA (xlp 6 zd6 rfl rfl ?_))))))))
 refine xL4 13 zdU rfl rfl (TL.call [4,5] [4,5] (zgz (o:=(fu j).o3) (w:=(fu j).wait) hl (by omega) hC) ⟨rfl,rfl,trivial⟩ ⟨rfl,rfl,trivial⟩ zpW rfl rfl rfl rfl ?_)
 rintro x Bs ⟨b,σ2,rfl,rfl,hWr⟩
 refine ⟨rfl,trivial,?_⟩
 refine TL.cases rfl (fun q8=>?_) (fun q8=>?_)
 refine dT rfl (TL.mv (.func _ _ _) rfl rfl rfl ?_)
 obtain ⟨hst,g2,hUp⟩:=hWr.elim (fun h=>absurd (h.1.symm.trans (by assumption)) (by decide)) (fun h=>h.2)
 obtain ⟨hS2,hv2,hP2⟩:=PIv.write hl ⟨by omega,by omega⟩ hC hUp hst hS hP1
 refine TL.callC (c1:=[]) (c2:=[_,_,_,_,_,_]) (vs:=[]) [12,10,9,6,2,3,8,4,5] [12,10,9,6,2,3,8,4,5] rfl (zgG hl (by omega) hS2 ⟨by omega,by omega⟩ ⟨by omega,by omega⟩ (by omega)) trivial ⟨rfl,rfl,rfl,rfl,rfl,rfl,rfl,rfl,rfl,trivial⟩ znt rfl rfl rfl rfl rfl trivial (dA (xlp 6 zd6 rfl rfl ?_))
 obtain ⟨hP3,hF3⟩:=hP2.step hl hS2 hv2 (by omega)
 obtain ⟨hC5,rt5,hS5,hP5⟩:=PIv.comm hl ⟨by omega,by omega⟩ hUp hP3 hF3
 refine TL.callD [4,5] [4,5] (zhn hl (by omega)) ⟨rfl,trivial⟩ ⟨rfl,rfl,trivial⟩ zpV rfl rfl rfl rfl rfl trivial (dG (xmi rfl (TL.add (((cm+1:Nat):Int)) rfl rfl (wrN (by omega)) rfl rfl (xai rfl (TL.done (TQ.inBlock (TQ.then ?_)))))))
 try have hE2:σ2=σ:=hWr.elim (fun h=>h.2) (fun h=>absurd (h.1.symm.trans (by assumption)) (by decide))
 refine TC.region (TL.add (((j+1:Nat):Int)) rfl rfl (wrN (by omega)) rfl rfl (xmi rfl (TL.done (TQ.roundK ((j+1,cm+1,k+1,now+q+1,_,g2,_,_)) ⟨⟨(show j+1≤un by omega),⟨(show cm+1≤j+1 by omega),(show k+1=K0+((cm+1:Nat):Int) by omega)⟩,⟨(show now+q+1≤21 * (j+1) by omega),(show (zeY c1 d1 _).size≤now+q+1 by have:=zix (c:=c1) (d:=d1) (b:=decide (rt (l.vertex 0 u)=rt (l.vertex 0 v))); omega)⟩,hC5,rt5,hS5,hP5⟩,(show un - (j+1)<un - j by omega)⟩ ⟨rfl,rfl,trivial⟩ ⟨rfl,rfl,rfl,rfl,rfl,trivial⟩ (kE8 rfl rfl rfl rfl rfl rfl rfl rfl trivial) (kL7 rfl rfl rfl rfl rfl rfl rfl trivial)))))
 refine TL.done (TQ.then (TC.condF rfl (TC.skip (TQ.inBlock (TQ.then ?_)))))
 try have hE2:σ2=σ:=hWr.elim (fun h=>h.2) (fun h=>absurd (h.1.symm.trans (by assumption)) (by decide))
 refine TC.region (TL.add (((j+1:Nat):Int)) rfl rfl (wrN (by omega)) rfl rfl (xmi rfl (TL.done (TQ.roundK ((j+1,cm,k,now+q,σ2,g,c1,d1)) ⟨⟨(show j+1≤un by omega),⟨(show cm≤j+1 by omega),hkc⟩,⟨(show now+q≤21 * (j+1) by omega),(show d1.size≤now+q by omega)⟩,hE2▸⟨hC,rt,hS,hP1⟩⟩,(show un - (j+1)<un - j by omega)⟩ ⟨rfl,rfl,trivial⟩ ⟨rfl,rfl,rfl,rfl,rfl,trivial⟩ (kE8 rfl rfl rfl rfl rfl rfl rfl rfl trivial) (kL7 rfl rfl rfl rfl rfl rfl rfl trivial)))))
 refine dS (TC.condF rfl (TC.exit (TQ.thenExit (TQ.thenExit (TQ.blockHere (TQ.then (sB (xai rfl ?_))))))))
 refine dK (TC.loopK (X:=Nat×Nat×CollectS×Array Bool) [3,10,12,13,14] [0,1,2,3,4,5,6,9,11] (fun ⟨n,nw,c9,d9⟩=>[(17,.int .i64 ((n:Nat):Int))]) (fun ⟨n,nw,c9,d9⟩=>[(10,pt bk10 (.cells #[.int .i64 ((nw:Nat):Int)] 3)),(8,zal 168 157 189 kb l (c9)),(12,jbA 54 4 bk12 (d9))]) (fun ⟨n,nw,c9,d9⟩=>((d9).size≤nw∧nw≤300+n∧n≤12 * l.nodes.toNat+12)∧PIf l σ (parent l σ) rt k K0 u v (12 * l.nodes.toNat+12) n nw c9 d9) (fun ⟨n,nw,c9,d9⟩=>12 * l.nodes.toNat+12 - n) ((0,now,c,d)) ⟨⟨hds,by omega,Nat.zero_le _⟩,hPv.fin hl hS⟩ ⟨rfl,trivial⟩ ⟨rfl,rfl,rfl,trivial⟩ (fun y hI=>?_))
 obtain ⟨n,nw,c9,d9⟩:=y
 replace hI:((d9).size≤nw∧nw≤300+n∧n≤12 * l.nodes.toNat+12)∧PIf l σ (parent l σ) rt k K0 u v (12 * l.nodes.toNat+12) n nw c9 d9:=hI
 obtain ⟨⟨hds9,hnw9,hnB⟩,hF9⟩:=hI
 refine TC.sub (env':=[(17,_),(3,_),(10,_),(12,_),(13,_),(14,_)]) (L':=[(10,_),(8,_),(12,_),(0,_),(1,_),(2,_),(3,_),(4,_),(5,_),(6,_),(9,_),(11,_)]) ⟨rfl,rfl,rfl,rfl,rfl,rfl,trivial⟩ ⟨rfl,rfl,rfl,rfl,rfl,rfl,rfl,rfl,rfl,rfl,rfl,rfl,trivial⟩ (sB (xlp 9 zd5 rfl rfl (TL.callD [8] [8] zgv ⟨rfl,trivial⟩ ⟨rfl,trivial⟩ zlc rfl rfl rfl rfl rfl trivial (TL.cases rfl (fun q7=>?_) (fun q7=>?_)))))
 refine xnt rfl (dE rfl (TC.seq ?_))
 have hov:=hF9.over (by first | assumption | simp_all)
 obtain ⟨pn,hpn⟩:∃ z:Nat,c9.point=((z+1:Nat):Int):=⟨(c9.point - 1).toNat,by omega⟩
 refine TC.region (xlp 9 zd5 rfl rfl (TL.callD [8] [8] zjo ⟨rfl,trivial⟩ ⟨rfl,trivial⟩ zpR rfl rfl rfl rfl rfl trivial ?_))
 rw [hpn]
 refine xai rfl (dS (TC.openE 12 rfl (fun jv=>(TC.openS 12 14 rfl (by decide) (TC.ownW 14 rfl (fun a8 g8 c8 hv8 hc8 ha8=>?_))))))
 subst hv8
 refine TC.draw [(0,true),(1,true),(2,true),(3,true),(4,true),(5,true),(6,true),(7,true),(8,true),(9,true),(11,true),(12,true),(13,true),(14,true),(15,true),(10,false),(16,true),(17,true),(18,true),(19,true),(21,true),(22,true),(23,true),(20,false),(24,true),(25,true),(26,true),(27,false),(28,true),(29,true)] [9,12,14] fc_m (by kernel_rfl) (xmi rfl (TL.geqT rfl rfl (by omega) rfl rfl (xmt rfl (xmi rfl (xls 12 zju rfl rfl (xz zcH rfl (TL.leqT rfl rfl (by omega) rfl rfl (xpT rfl ?_))))))))
 refine xmt rfl (xlp 9 zd5 rfl rfl (xls 12 zju rfl rfl (xmi rfl (TL.sub (((pn:Nat):Int)) rfl rfl (wrN (by omega)) rfl rfl (TL.iaO rfl ha8 rfl zcH (by omega) rfl rfl (TL.ldRS 14 (.bool _) rfl rfl (zgQ ha8) (by omega) (rfl) zbq rfl rfl (TL.callD [8] [8] zhQ ⟨rfl,trivial⟩ ⟨rfl,trivial⟩ zpT rfl rfl rfl rfl rfl (kL3 rfl rfl rfl trivial) (TL.eqlB rfl rfl zsp rfl rfl ?_))))))))
 rw [show (c9.joined == d9[pn]!)=true from by rw [hov.2.1]; unfold jf; rw [hpn,show (((pn+1:Nat):Int) - 1).toNat=pn by omega]; simp]
 refine xpT rfl (xmt rfl (xlp 9 zd5 rfl rfl (xmi rfl (TL.mul (((2 * cm:Nat):Int)) rfl rfl (wrN (by omega)) rfl rfl (TL.add (((2 * cm+2:Nat):Int)) rfl rfl (wrN (by omega)) rfl rfl (TL.callD [8] [8] zhP ⟨rfl,trivial⟩ ⟨rfl,trivial⟩ zpQ rfl rfl rfl rfl rfl (kL3 rfl rfl rfl trivial) (TL.leqT rfl rfl (by have:=hov.2.2.1; omega) rfl rfl (xpT rfl ?_))))))))
 refine xmt rfl (TL.callD [] [] zda trivial trivial zh1 rfl rfl rfl rfl rfl (kL3 rfl rfl rfl trivial) (xpT rfl (xat rfl (dR ?_))))
 refine FQ.ret1 (v:=(.bool true)) (Bs:=[_]) [0] rfl rfl rfl ⟨rfl,trivial⟩ ?_
 exact ⟨rfl,rfl⟩
 refine xnf rfl (TL.done (TQ.then (TC.condT rfl (TC.skip (TQ.then (TC.seq (TC.block (TC.seq ?_))))))))
 refine TC.seq ?_
 have hrf:=hF9.run (by first | assumption | simp_all)
 refine TC.region (xmi rfl (xf 0 zbl rfl (xL3 1 zaa rfl rfl (TL.callD [] [] (zaV hl) ⟨rfl,trivial⟩ trivial zbE rfl rfl rfl rfl rfl trivial (TL.mul _ rfl rfl (wr64 (by omega)) rfl rfl (TL.add _ rfl rfl (wr64 (by omega)) rfl rfl (TL.gtrF rfl rfl (by omega) rfl rfl (TL.done ?_))))))))
 refine TQ.then (TC.condF rfl (TC.skip (TQ.then (TC.region (TL.mv (.func _ _ _) rfl rfl rfl (TL.callC (c1:=[]) (c2:=[_,_,_,_,_,_]) (vs:=[]) [12,10,9,6,2,3,8,4,5] [12,10,9,6,2,3,8,4,5] rfl (zgG hl (by omega) hS ⟨by omega,by omega⟩ ⟨by omega,by omega⟩ (by omega)) trivial ⟨rfl,rfl,rfl,rfl,rfl,rfl,rfl,rfl,rfl,trivial⟩ znt rfl rfl rfl rfl rfl trivial (dI (xmi rfl ?_))))))))
 refine TL.add (((n+1:Nat):Int)) rfl rfl (wrN (by omega)) rfl rfl (xai rfl (TL.done (TQ.roundK ((n+1,nw+1,_,_)) ⟨⟨⟨(show (zeY c9 d9 _).size≤nw+1 by have:=zix (c:=c9) (d:=d9) (b:=decide (rt (l.vertex 0 u)=rt (l.vertex 0 v))); omega),(show nw+1≤300+(n+1) by omega),(show n+1≤12 * l.nodes.toNat+12 by omega)⟩,hF9.step hl hS (fun x hx=>hC.ver_ hl hx) (by omega) (by first | assumption | simp_all)⟩,(show 12 * l.nodes.toNat+12 - (n+1)<12 * l.nodes.toNat+12 - n by omega)⟩ ⟨rfl,trivial⟩ ⟨rfl,rfl,rfl,trivial⟩ (kE5 rfl rfl rfl rfl rfl trivial) (kL8 rfl rfl rfl rfl rfl rfl rfl rfl (kL1 rfl trivial)))))
end Go.Proofs.YtjnpjkfliochbaaGreat
