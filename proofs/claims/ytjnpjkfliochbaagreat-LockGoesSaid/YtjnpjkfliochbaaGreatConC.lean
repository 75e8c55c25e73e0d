import Derived.Test.YtjnpjkfliochbaaGreatConB
set_option linter.unusedVariables false
set_option linter.unusedSimpArgs false
set_option maxRecDepth 20000
namespace Go.Proofs.YtjnpjkfliochbaaGreat
open Go.Eng Go.Tm
set_option maxHeartbeats 4000000 in
theorem zoM {l:Lay} (hl:l.Ok)  {da ea na:Option Addr} {dn dc en ec nn nc:Nat} {Ad:Assn} {bd offd be offe bn offn:Nat} {fd:Nat→Int} {fe fn:Nat→Op2} (hda:0<dn→da=some ⟨bd,offd,none⟩) (hAd:zaU Ad encU 1 bd offd dn fd) (hfd:∀ i,i<dn→0≤fd i∧fd i<18446744073709551616) (hea:0<en→ea=some ⟨be,offe,none⟩) (hAe:zaU Ad zfN 2 be offe en fe) (hec:en≤ec) (hna:0<nn→na=some ⟨bn,offn,none⟩) (hAn:zaU Ad zfN 2 bn offn nn fn) (hnc:nn≤nc)  (hok:(okL l.V l.S l.T∧(l.V:Int)≤8∧(l.S:Int)≤12∧dn≤60∧en≤30∧1≤nn∧(nn:Int)≤l.T∧∀ i,i<nn→EndOk l.V (fn i))):FnD Tryz.prog 3 [.agg #[.int .i64 l.V,.int .i64 l.S,.int .i64 l.T,.slice da dn dc,.slice ea en ec,.slice na nn nc]] [Ad] (.bool true) [Ad]:=by
 obtain ⟨hk1,hk2,hk3,hk4,hk5,hk6,hk7,hEn⟩:=hok
 have hok:(okL l.V l.S l.T∧(l.V:Int)≤8∧(l.S:Int)≤12∧dn≤60∧en≤30∧1≤nn∧(nn:Int)≤l.T∧∀ i,i<nn→EndOk l.V (fn i)):=⟨hk1,hk2,hk3,hk4,hk5,hk6,hk7,hEn⟩
 have hT:nn≤l.T:=by omega
 have hvt:=zaX hl
 have hnb:=zaH hl
 have hcb:=zdW hl
 have hlb:=zbV hl
 have hob:=zbA hl
 have hlk:=zhS hl
 have hhd:l.heads=l.T+1+l.S * 7:=rfl
 refine Fn.enter (Tryz.func3) rfl rfl (fun w0 R=>?_)
 refine sA (xB 1 rfl (fun bk1=>(xaf rfl (dB (xL6 1 zh6 rfl rfl (TL.callD [0] [0] (zg2 hda hAd hfd hea hAe hec hna hAn hnc) ⟨rfl,trivial⟩ ⟨rfl,trivial⟩ zpR rfl rfl rfl rfl rfl trivial ?_))))))
 rw [decide_eq_true hok]
 refine xnt rfl (dF rfl (xL6 1 zh6 rfl rfl (TL.call [0] [0,2,3,4,5,6] (zlx hl hda hAd hfd hea hAe hec hna hAn hnc (by omega) (by omega) (by omega)) ⟨rfl,trivial⟩ ⟨rfl,trivial⟩ zsS rfl rfl rfl rfl ?_)))
 rintro x Bs ⟨pb,ab,mb,av,gv,bs,gos,σ,par,rt,g,rfl,rfl,hbs,hgo,hK,hlk0,hlkC⟩
 refine ⟨rfl,trivial,?_⟩
 have hG0:=GL.start hl hK hlk0 (n:=nn) (fe:=fn) hT hEn
 refine xap rfl (dB (xmp rfl (TL.nilP false rfl rfl zsA rfl rfl rfl (dF rfl (xf 0 zbb rfl (xL3 1 zaa rfl rfl (TL.callD [] [] (zcX hl) ⟨rfl,trivial⟩ trivial zfG rfl rfl rfl rfl rfl trivial (TL.mul _ rfl rfl (wr64 (by omega)) rfl rfl ?_))))))))
 refine TL.add _ rfl rfl (wr64 (by omega)) rfl rfl (TL.mul _ rfl rfl (wr64 (by omega)) rfl rfl (TL.add _ rfl rfl (wr64 (by omega)) rfl rfl (xai rfl (dS (TC.ownW 4 rfl (fun aA gA cA hvA hcA haA=>?_))))))
 subst hvA
 rw [hbs] at haA hcA ⊢
 refine TC.region (xmp rfl (xN0 rfl (xf 14 zb8 rfl (xlv 2 zg9 rfl rfl (xz zbJ rfl (xai rfl (dA (xmp rfl ?_))))))))
 refine xN0 rfl (xf 14 zb8 rfl (xlv 2 zg9 rfl rfl (xz zbJ rfl (TL.mkO 7 (enc:=encB) (N:=nn) (false) rfl rfl zll fc_z4 rfl (by decide) (by omega) rfl rfl (fun bk7=>⟨trivial,?_⟩)))))
 refine xas rfl (dS (TC.block ?_))
 refine TC.loopK (X:=Nat×M×(Nat→TakeS)×(Nat→TakeS)×Array Bool) [1,3,4,6] [0,1,2,4,5] (fun ⟨left,σ0,tsa,tra,D⟩=>[(5,.int .i64 ((left:Nat):Int))]) (fun ⟨left,σ0,tsa,tra,D⟩=>[(3,zaA ab mb 140 71 (σ0)),(6,bigA (zba 130 157 189 3 l (bs) (tra)) (nn)),(7,ownA encB 1 4 (.slice (some ⟨bk7,0,none⟩) nn nn) D)]) (fun ⟨left,σ0,tsa,tra,D⟩=>left≤nn∧left=cntU D nn∧GS l σ0 par rt nn tsa tra D (1+40000 * ((nn:Int) - (left:Int)))∧∀ j,j<nn→D[j]! =false→(tsa j).at_≠4) (fun ⟨left,σ0,tsa,tra,D⟩=>left) ((nn,σ,ts0 l fn,ts0 l fn,Array.replicate nn false)) ⟨Nat.le_refl _,(zo0 nn (Nat.le_refl _)).symm,(GS.start hG0).mono (show (1:Int)≤1+40000 * ((nn:Int) - (nn:Int)) by omega),fun j hj _ h4=>absurd (show (0:Int)=4 from h4) (by decide)⟩ ⟨rfl,trivial⟩ ⟨rfl,rfl,rfl,trivial⟩ (fun y hI=>?_)
 obtain ⟨left,σ0,tsa,tra,D⟩:=y
 obtain ⟨hle0,hL0,hGa,hNa⟩:=hI
 replace hle0:left≤nn:=hle0
 replace hL0:left=cntU D nn:=hL0
 replace hGa:GS l σ0 par rt nn tsa tra D (1+40000 * ((nn:Int) - (left:Int))):=hGa
 replace hNa:∀ j,j<nn→D[j]! =false→(tsa j).at_≠4:=hNa
 have hDz:=hGa.sz
 refine TC.sub (env':=[(5,_),(1,_),(3,_),(4,_),(6,_)]) (L':=[(3,_),(6,_),(7,_),(0,_),(1,_),(2,_),(4,_),(5,_)]) ⟨rfl,rfl,rfl,rfl,rfl,trivial⟩ ⟨rfl,rfl,rfl,rfl,rfl,rfl,rfl,rfl,trivial⟩ (sB (xmi rfl (TL.gtr rfl rfl rfl rfl (fun q1=>?_) (fun q1=>?_))))
 refine TL.done (TQ.then (TC.condT rfl (TC.skip (TQ.then (TC.block (sA (xai rfl (dB ?_))))))))
 refine xai rfl (dK ?_)
 refine TC.loopK (X:=Nat×Int×M×(Nat→TakeS)×(Nat→TakeS)) [1,3,4,5,6] [0,1,2,4,5,7] (fun ⟨r,got1,σ1,ts1,tr1⟩=>[(7,.int .i64 got1),(8,.int .i64 ((r:Nat):Int))]) (fun ⟨r,got1,σ1,ts1,tr1⟩=>[(3,zaA ab mb 140 71 (σ1)),(6,bigA (zba 130 157 189 3 l (bs) (tr1)) (nn))]) (fun ⟨r,got1,σ1,ts1,tr1⟩=>r≤(2 * (4 * l.nodes+6).toNat+6)∧GS l σ1 par rt nn ts1 tr1 D (1+40000 * ((nn:Int) - (left:Int))+8 * (r:Int))∧Srch l par rt nn r 0 got1 ts1 D) (fun ⟨r,got1,σ1,ts1,tr1⟩=>(2 * (4 * l.nodes+6).toNat+6) - r) ((0,-1,σ0,tsa,tra)) ⟨Nat.zero_le _,hGa.mono (show _≤1+40000 * ((nn:Int) - (left:Int))+8 * ((0:Nat):Int) by omega),Srch.start hl hGa hNa (zo1 nn (by omega))⟩ ⟨rfl,rfl,trivial⟩ ⟨rfl,rfl,trivial⟩ (fun y hI=>?_)
 obtain ⟨r,got1,σ1,ts1,tr1⟩:=y
 obtain ⟨hr,hG1,hSr⟩:=hI
 replace hr:r≤(2 * (4 * l.nodes+6).toNat+6):=hr
 replace hG1:GS l σ1 par rt nn ts1 tr1 D (1+40000 * ((nn:Int) - (left:Int))+8 * (r:Int)):=hG1
 replace hSr:Srch l par rt nn r 0 got1 ts1 D:=hSr
 refine TC.sub (env':=[(7,_),(8,_),(1,_),(3,_),(4,_),(5,_),(6,_)]) (L':=[(3,_),(6,_),(0,_),(1,_),(2,_),(4,_),(5,_),(7,_)]) ⟨rfl,rfl,rfl,rfl,rfl,rfl,rfl,trivial⟩ ⟨rfl,rfl,rfl,rfl,rfl,rfl,rfl,rfl,trivial⟩ (sB (xmi rfl (TL.lss rfl rfl rfl rfl (fun q2=>?_) (fun q2=>?_))))
 refine TL.done (TQ.then (TC.condT rfl (TC.skip (TQ.then (TC.seq (TC.block (sB (xmi rfl ?_))))))))
 refine xmi rfl (TL.gtrF rfl rfl (by have:=hSr.bound (by assumption); omega) rfl rfl (dF rfl (xmp rfl (xN0 rfl (xf 14 zb8 rfl (xlv 2 zg9 rfl rfl (xz zbJ rfl (xmi rfl ?_))))))))
 refine dK ?_
 have hSr1:=hSr
 refine TC.loopK (X:=Nat×Int×M×(Nat→TakeS)×(Nat→TakeS)) [1,3,4,5,6,8,52,53] [0,1,2,4,5,7] (fun ⟨p,got2,σ2,ts2,tr2⟩=>[(54,.int .i64 ((p:Nat):Int)),(7,.int .i64 got2)]) (fun ⟨p,got2,σ2,ts2,tr2⟩=>[(3,zaA ab mb 140 71 (σ2)),(6,bigA (zba 130 157 189 3 l (bs) (tr2)) (nn))]) (fun ⟨p,got2,σ2,ts2,tr2⟩=>p≤nn∧GS l σ2 par rt nn ts2 tr2 D (1+40000 * ((nn:Int) - (left:Int))+8 * (r:Int)+(p:Int))∧Srch l par rt nn r p got2 ts2 D) (fun ⟨p,got2,σ2,ts2,tr2⟩=>nn - p) ((0,got1,σ1,ts1,tr1)) ⟨Nat.zero_le _,hG1.mono (show _≤1+40000 * ((nn:Int) - (left:Int))+8 * (r:Int)+((0:Nat):Int) by omega),hSr⟩ ⟨rfl,rfl,trivial⟩ ⟨rfl,rfl,trivial⟩ (fun y hI=>?_)
 clear hSr
 obtain ⟨p,got2,σ2,ts2,tr2⟩:=y
 obtain ⟨hp,hG,hSr⟩:=hI
 replace hp:p≤nn:=hp
 replace hG:GS l σ2 par rt nn ts2 tr2 D (1+40000 * ((nn:Int) - (left:Int))+8 * (r:Int)+(p:Int)):=hG
 replace hSr:Srch l par rt nn r p got2 ts2 D:=hSr
 refine TC.sub (env':=[(54,_),(7,_),(1,_),(3,_),(4,_),(5,_),(6,_),(8,_),(52,_),(53,_)]) (L':=[(3,_),(6,_),(0,_),(1,_),(2,_),(4,_),(5,_),(7,_)]) ⟨rfl,rfl,rfl,rfl,rfl,rfl,rfl,rfl,rfl,rfl,trivial⟩ ⟨rfl,rfl,rfl,rfl,rfl,rfl,rfl,rfl,trivial⟩ (sA (TL.lss rfl rfl rfl rfl (fun q3=>?_) (fun q3=>?_)))
 refine dS (TC.condT rfl (TC.skip (TQ.then (TC.seq (TC.block (sA (xmi rfl (TL.iaO rfl haA rfl zbJ (by omega) rfl rfl ?_))))))))
 refine TL.ldRS 4 (.pointer (some ⟨bs[p]!,0,none⟩)) rfl rfl (zkf hbs haA) (by omega) (rfl) zpx rfl rfl (xai rfl (xap rfl (dB (xmp rfl (TL.nilP false rfl rfl zpA rfl rfl rfl (TL.done (TQ.then (TC.condF rfl ?_))))))))
 refine TC.skip (TQ.then (TC.seq (TC.bigO 6 8 p rfl (by omega) (by decide) (TC.region (xms rfl (xmi rfl (TL.iaO rfl (fun _=>rfl) rfl zfm (by omega) rfl rfl (TL.ldRS 7 (.bool _) rfl rfl (zdq (by omega)) (by omega) (rfl) zcn rfl rfl ?_))))))))
 refine TL.not _ _ rfl rfl rfl rfl (xmb rfl (TL.cases rfl (fun q4=>?_) (fun q4=>?_)))
 refine xmp rfl (xmp rfl (xN0 rfl (xf 3 zhh rfl (xlp 2 zkw rfl rfl ?_))))
 have hD0:D[p]! =false:=by first | assumption | simp_all
 have etr:=hG.tr p (by omega) hD0
 obtain ⟨⟨t9,σ9⟩,e9⟩:∃ q,(ts2 p).stp l σ2=q:=⟨_,rfl⟩
 obtain ⟨hG9,hs1,hs2⟩:=Srch.step hl hG hSr (by omega) hD0 (by omega) e9
 refine TL.callD [8,3] [8,3] (zih hl (by rw [etr]; exact TInv.takeOk hl hG.gl.seen hG.gl.size (hG.gl.ti p (by omega)) (hG.w p (by omega)).1)) ⟨rfl,rfl,trivial⟩ ⟨rfl,rfl,trivial⟩ zpP rfl rfl rfl rfl rfl trivial ?_
 rw [etr,e9]
 refine TL.cases rfl (fun q5=>?_) (fun q5=>?_)
 refine xpT rfl (xmt rfl (xmi rfl (TL.lss rfl rfl rfl rfl (fun q6=>?_) (fun q6=>?_))))
 refine xpT rfl (TL.done (TQ.then (TC.condT rfl (TC.region (xmi rfl (xai rfl (TL.done (TQ.inBlock ?_))))))))
 refine TQ.then ?_
 first | refine TC.bigC 6 8 p (zba 130 157 189 3 l (bs) (setT tr2 p t9)) rfl rfl (by decide) (zbP (b:=bs) (n:=nn) (by omega)).1 (zbP (b:=bs) (n:=nn) (by omega)).2 ?_ | refine TC.bigC 6 8 p (zba 130 157 189 3 l (bs) (tr2)) rfl rfl (by decide) (fun x h=>h) (fun j hj hne x h=>by unfold zfi at h; rwa [if_neg hne] at h) ?_
 refine TC.region (TL.add (((p+1:Nat):Int)) rfl rfl (wrN (by omega)) rfl rfl (xmi rfl (TL.done (TQ.roundK ((p+1,(p:Int),σ9,setT ts2 p t9,setT tr2 p t9)) ⟨⟨(show p+1≤nn by omega),hG9.mono (show _≤1+40000 * ((nn:Int) - (left:Int))+8 * (r:Int)+((p+1:Nat):Int) by omega),hs1 (of_decide_eq_true (by assumption)) (by assumption)⟩,(show nn - (p+1)<nn - p by omega)⟩ ⟨rfl,rfl,trivial⟩ ⟨rfl,rfl,trivial⟩ (kE8 rfl rfl rfl rfl rfl rfl rfl rfl trivial) (kL6 rfl rfl rfl rfl rfl rfl trivial)))))
 refine xpG rfl (TL.done (TQ.then (TC.condF rfl (TC.skip (TQ.inBlock (TQ.then ?_))))))
 first | refine TC.bigC 6 8 p (zba 130 157 189 3 l (bs) (setT tr2 p t9)) rfl rfl (by decide) (zbP (b:=bs) (n:=nn) (by omega)).1 (zbP (b:=bs) (n:=nn) (by omega)).2 ?_ | refine TC.bigC 6 8 p (zba 130 157 189 3 l (bs) (tr2)) rfl rfl (by decide) (fun x h=>h) (fun j hj hne x h=>by unfold zfi at h; rwa [if_neg hne] at h) ?_
 refine TC.region (TL.add (((p+1:Nat):Int)) rfl rfl (wrN (by omega)) rfl rfl (xmi rfl (TL.done (TQ.roundK ((p+1,got2,σ9,setT ts2 p t9,setT tr2 p t9)) ⟨⟨(show p+1≤nn by omega),hG9.mono (show _≤1+40000 * ((nn:Int) - (left:Int))+8 * (r:Int)+((p+1:Nat):Int) by omega),hs2 (fun h9=>absurd h9.2 (by assumption))⟩,(show nn - (p+1)<nn - p by omega)⟩ ⟨rfl,rfl,trivial⟩ ⟨rfl,rfl,trivial⟩ (kE8 rfl rfl rfl rfl rfl rfl rfl rfl trivial) (kL6 rfl rfl rfl rfl rfl rfl trivial)))))
 refine xpG rfl (xmf rfl (xo rfl (xo rfl (xpF rfl (TL.done (TQ.then (TC.condF rfl (TC.skip ?_))))))))
 refine TQ.inBlock (TQ.then ?_)
 first | refine TC.bigC 6 8 p (zba 130 157 189 3 l (bs) (setT tr2 p t9)) rfl rfl (by decide) (zbP (b:=bs) (n:=nn) (by omega)).1 (zbP (b:=bs) (n:=nn) (by omega)).2 ?_ | refine TC.bigC 6 8 p (zba 130 157 189 3 l (bs) (tr2)) rfl rfl (by decide) (fun x h=>h) (fun j hj hne x h=>by unfold zfi at h; rwa [if_neg hne] at h) ?_
 refine TC.region (TL.add (((p+1:Nat):Int)) rfl rfl (wrN (by omega)) rfl rfl (xmi rfl (TL.done (TQ.roundK ((p+1,got2,σ9,setT ts2 p t9,setT tr2 p t9)) ⟨⟨(show p+1≤nn by omega),hG9.mono (show _≤1+40000 * ((nn:Int) - (left:Int))+8 * (r:Int)+((p+1:Nat):Int) by omega),hs2 (fun h9=>absurd h9.1 (of_decide_eq_false (by assumption)))⟩,(show nn - (p+1)<nn - p by omega)⟩ ⟨rfl,rfl,trivial⟩ ⟨rfl,rfl,trivial⟩ (kE8 rfl rfl rfl rfl rfl rfl rfl rfl trivial) (kL6 rfl rfl rfl rfl rfl rfl trivial)))))
 refine xo rfl (xo rfl (xo rfl (xo rfl (xo rfl (xo rfl (xpF rfl (xmf rfl (xo rfl ?_))))))))
 refine xo rfl (xpF rfl (TL.done (TQ.then (TC.condF rfl (TC.skip (TQ.inBlock (TQ.then ?_)))))))
 first | refine TC.bigC 6 8 p (zba 130 157 189 3 l (bs) (setT tr2 p t9)) rfl rfl (by decide) (zbP (b:=bs) (n:=nn) (by omega)).1 (zbP (b:=bs) (n:=nn) (by omega)).2 ?_ | refine TC.bigC 6 8 p (zba 130 157 189 3 l (bs) (tr2)) rfl rfl (by decide) (fun x h=>h) (fun j hj hne x h=>by unfold zfi at h; rwa [if_neg hne] at h) ?_
 refine TC.region (TL.add (((p+1:Nat):Int)) rfl rfl (wrN (by omega)) rfl rfl (xmi rfl (TL.done (TQ.roundK ((p+1,got2,σ2,ts2,tr2)) ⟨⟨(show p+1≤nn by omega),hG.mono (show _≤1+40000 * ((nn:Int) - (left:Int))+8 * (r:Int)+((p+1:Nat):Int) by omega),hSr.skip (by first | assumption | simp_all)⟩,(show nn - (p+1)<nn - p by omega)⟩ ⟨rfl,rfl,trivial⟩ ⟨rfl,rfl,trivial⟩ (kE8 rfl rfl rfl rfl rfl rfl rfl rfl trivial) (kL6 rfl rfl rfl rfl rfl rfl trivial)))))
 refine dS (TC.condF rfl (TC.exit (TQ.thenExit (TQ.thenExit (TQ.blockHere (TQ.inBlock (TQ.then (TC.region ?_))))))))
 refine xmi rfl (TL.add (((r+1:Nat):Int)) rfl rfl (wrN (by omega)) rfl rfl (xai rfl (TL.done (TQ.roundK ((r+1,got2,σ2,ts2,tr2)) ⟨⟨(show r+1≤(2 * (4 * l.nodes+6).toNat+6) by have:=hSr1.bound (by assumption); omega),hG.mono (show _≤1+40000 * ((nn:Int) - (left:Int))+8 * ((r+1:Nat):Int) by omega),(show Srch l par rt nn r nn got2 ts2 D from (show p=nn by omega)▸hSr).round⟩,(show (2 * (4 * l.nodes+6).toNat+6) - (r+1)<(2 * (4 * l.nodes+6).toNat+6) - r by have:=hSr1.bound (by assumption); omega)⟩ ⟨rfl,rfl,trivial⟩ ⟨rfl,rfl,trivial⟩ (kE5 rfl rfl rfl rfl rfl trivial) (kL6 rfl rfl rfl rfl rfl rfl trivial)))))
 refine dE rfl (TC.seq ?_)
 obtain ⟨j9,hj9,hj90,hj94⟩:=hSr.found (by assumption)
 refine TC.region (xmp rfl (xN0 rfl (xf 14 zb8 rfl (xlv 2 zg9 rfl rfl (xz zbJ rfl (xmi rfl (dK ?_)))))))
 refine TC.loopK (X:=Nat×Nat×M×(Nat→TakeS)×Array Bool) [1,3,4,6,83,84] [0,1,2,4,5,6] (fun ⟨i,left3,σ3,ts3,D3⟩=>[(85,.int .i64 ((i:Nat):Int)),(5,.int .i64 ((left3:Nat):Int))]) (fun ⟨i,left3,σ3,ts3,D3⟩=>[(3,zaA ab mb 140 71 (σ3)),(7,ownA encB 1 4 (.slice (some ⟨bk7,0,none⟩) nn nn) D3)]) (fun ⟨i,left3,σ3,ts3,D3⟩=>i≤nn∧left3=cntU D3 nn∧GS l σ3 par rt nn ts3 tr1 D3 (1+40000 * ((nn:Int) - (left:Int))+8 * (r:Int))∧(∀ j,j<i→D3[j]! =false→(ts3 j).at_≠4)∧(left3<left∨(i≤j9∧D3[j9]! =false∧(ts3 j9).at_=4∧left3≤left))) (fun ⟨i,left3,σ3,ts3,D3⟩=>nn - i) ((0,left,σ1,ts1,D)) ⟨Nat.zero_le _,hL0,hG1,fun j hj=>absurd hj (Nat.not_lt_zero _),.inr ⟨Nat.zero_le _,hj90,hj94,Nat.le_refl _⟩⟩ ⟨rfl,rfl,trivial⟩ ⟨rfl,rfl,trivial⟩ (fun y hI=>?_)
 obtain ⟨i,left3,σ3,ts3,D3⟩:=y
 obtain ⟨hi,hL3,hG3,hN3,hF3⟩:=hI
 replace hi:i≤nn:=hi
 replace hL3:left3=cntU D3 nn:=hL3
 replace hG3:GS l σ3 par rt nn ts3 tr1 D3 (1+40000 * ((nn:Int) - (left:Int))+8 * (r:Int)):=hG3
 replace hN3:∀ j,j<i→D3[j]! =false→(ts3 j).at_≠4:=hN3
 replace hF3:left3<left∨(i≤j9∧D3[j9]! =false∧(ts3 j9).at_=4∧left3≤left):=hF3
 have hD3z:=hG3.sz
 have hrb:r≤(2 * (4 * l.nodes+6).toNat+6):=hr
 refine TC.sub (env':=[(85,_),(5,_),(1,_),(3,_),(4,_),(6,_),(83,_),(84,_)]) (L':=[(3,_),(7,_),(0,_),(1,_),(2,_),(4,_),(5,_),(6,_)]) ⟨rfl,rfl,rfl,rfl,rfl,rfl,rfl,rfl,trivial⟩ ⟨rfl,rfl,rfl,rfl,rfl,rfl,rfl,rfl,trivial⟩ (sA (TL.lss rfl rfl rfl rfl (fun q3=>?_) (fun q3=>?_)))
 refine dS (TC.condT rfl (TC.skip (TQ.then (TC.seq (TC.block (sA (xmi rfl (TL.iaO rfl haA rfl zbJ (by omega) rfl rfl ?_))))))))
 refine TL.ldRS 4 (.pointer (some ⟨bs[i]!,0,none⟩)) rfl rfl (zkf hbs haA) (by omega) (rfl) zpx rfl rfl (xai rfl (xap rfl (dS (TC.seq (TC.bigO 6 9 i rfl (by omega) (by decide) (TC.region (xms rfl (xmi rfl ?_))))))))
 refine TL.iaO rfl (fun _=>rfl) rfl zfm (by omega) rfl rfl (TL.ldRS 7 (.bool _) rfl rfl (zdq (by omega)) (by omega) (rfl) zcn rfl rfl (xmb rfl (TL.cases rfl (fun q4=>?_) (fun q4=>?_))))
 refine xo rfl (xo rfl (xo rfl (xpT rfl (TL.done (TQ.then (TC.condT rfl (TC.exit (TQ.thenExit ?_))))))))
 refine TQ.blockHere (TQ.then (TC.bigC 6 9 i (zba 130 157 189 3 l (bs) (tr1)) rfl rfl (by decide) (fun x h=>h) (fun j hj hne x h=>by unfold zfi at h; rwa [if_neg hne] at h) (TC.region (TL.add (((i+1:Nat):Int)) rfl rfl (wrN (by omega)) rfl rfl (xmi rfl (TL.done ?_))))))
 refine TQ.roundK ((i+1,left3,σ3,ts3,D3)) ⟨⟨(show i+1≤nn by omega),hL3,hG3,fun j hj hj0=>by by_cases he:j=i; (subst he; exact absurd hj0 (by simp_all)); exact hN3 j (by omega) hj0,hF3.imp id (fun ⟨f1,f2,f3,f4⟩=>⟨by have h7:j9≠i:=(fun e=>by subst e; exact absurd f2 (by simp_all)); omega,f2,f3,f4⟩)⟩,(show nn - (i+1)<nn - i by omega)⟩ ⟨rfl,rfl,trivial⟩ ⟨rfl,rfl,trivial⟩ (kE6 rfl rfl rfl rfl rfl rfl trivial) (kL6 rfl rfl rfl rfl rfl rfl trivial)
 refine xmp rfl (TL.callD [9] [9] zlL ⟨rfl,trivial⟩ ⟨rfl,trivial⟩ zdT rfl rfl rfl rfl rfl trivial (TL.cases rfl (fun q5=>?_) (fun q5=>?_)))
 refine xnt rfl (xpF rfl (TL.done (TQ.then (TC.condF rfl (TC.skip (TQ.then (TC.seq (TC.seq ?_))))))))
 refine TC.draw [(0,true),(1,true),(2,true),(3,false),(4,false),(5,true)] [1] fc_m (by kernel_rfl) (xf 0 zbb rfl (xL3 1 zaa rfl rfl (xmp rfl ?_)))
 have hD0:D3[i]! =false:=by first | assumption | simp_all
 have etr:=hG3.tr i (by omega) hD0
 have h40:(ts3 i).at_=4:=by rw [←etr]; exact of_decide_eq_true (by assumption)
 have hh4:=(hG3.gl.ti i (by omega)).held4 h40
 refine TL.call [9] [9,10] (zii (by rw [etr]; exact ⟨(hG3.w i (by omega)).1,hh4.2.1⟩)) ⟨rfl,trivial⟩ ⟨rfl,trivial⟩ zpN rfl rfl rfl rfl ?_
 rintro x Bs ⟨_,rfl⟩
 refine ⟨rfl,(kL1 rfl trivial),?_⟩
 rw [show (tr1 i).roots=(ts3 i).held by rw [etr]; exact hh4.1]
 refine TL.rowS 10 rfl (fun a7 b7 o7 c7 hv7 hc7 ha7=>⟨(kL1 rfl trivial),?_⟩)
 cases hv7
 refine TL.call [10] [10,11] (zmI (l:=l) (d:=(ts3 i).held) ha7 hh4.2.1) ⟨rfl,rfl,trivial⟩ ⟨rfl,trivial⟩ zpO rfl rfl rfl rfl ?_
 rintro x Bs ⟨gb,rfl,rfl⟩
 refine ⟨rfl,(kL1 rfl trivial),?_⟩
 refine xap rfl (dK (TC.loopK (X:=Nat) [1,3,4,5,6,11,13,83,84,85] [0,1,2,4,5,6,7,9,10] (fun k=>[]) (fun k=>[(11,zdH 138 gb l (gvD (ts3 i).held k)),(3,zaA ab mb 140 71 (gvM l σ3 (ts3 i).held k))]) (fun k=>k≤(ts3 i).held.size) (fun k=>(ts3 i).held.size - k) (0) (Nat.zero_le _) trivial ⟨rfl,rfl,trivial⟩ (fun k hI=>(TC.sub (env':=[(1,_),(3,_),(4,_),(5,_),(6,_),(11,_),(13,_),(83,_),(84,_),(85,_)]) (L':=[(11,_),(3,_),(0,_),(1,_),(2,_),(4,_),(5,_),(6,_),(7,_),(9,_),(10,_)]) ⟨rfl,rfl,rfl,rfl,rfl,rfl,rfl,rfl,rfl,rfl,trivial⟩ ⟨rfl,rfl,rfl,rfl,rfl,rfl,rfl,rfl,rfl,rfl,rfl,trivial⟩ (sB (xmp rfl ?_))))))
 refine TL.callD [11] [11] ziI ⟨rfl,trivial⟩ ⟨rfl,trivial⟩ zhn rfl rfl rfl rfl rfl trivial (TL.cases rfl (fun q6=>?_) (fun q6=>?_))
 refine xnt rfl (dE rfl (TC.seq ?_))
 have hkd:k=(ts3 i).held.size:=by have h1:=(zd4 (d:=(ts3 i).held) k).1; have h2:=of_decide_eq_true (by assumption); omega
 subst hkd
 rw [zsf _ (Nat.le_refl _)]
 have hG5:=hG3.give hl (show i<nn by omega) hD0 h40 (by omega)
 have hL5:=(zoZ (D:=D3) (i:=i) (by rw [hG3.sz]; omega) hD0 nn).1 (by omega)
 refine TC.region (xms rfl (xmi rfl (TL.iaO rfl (fun _=>rfl) rfl zfm (by omega) rfl rfl (TL.stOF 7 (o:=0) (i:=i) (cur:=D3[i]!) (u:=true) (by exact hG3.sz) rfl rfl rfl rfl (by rw [hG3.sz]; omega) (rfl) ⟨rfl,rfl⟩ rfl zcn rfl rfl trivial (dG (xmi rfl (TL.sub (((left3 - 1:Nat):Int)) rfl rfl (wrN (by omega)) rfl rfl (xai rfl ?_))))))))
 refine TL.done (TQ.inBlock (TQ.then (TC.bigC 6 9 i (zba 130 157 189 3 l (bs) (tr1)) rfl rfl (by decide) (fun x h=>h) (fun j hj hne x h=>by unfold zfi at h; rwa [if_neg hne] at h) (TC.region (TL.add (((i+1:Nat):Int)) rfl rfl (wrN (by omega)) rfl rfl (xmi rfl (TL.done (TQ.roundK ((i+1,left3 - 1,_,_,_)) ⟨⟨(show i+1≤nn by omega),(show left3 - 1=cntU (D3.setIfInBounds i true) nn by omega),hG5,zqS (by rw [hG3.sz]; omega) hN3,.inl (show left3 - 1<left by omega)⟩,(show nn - (i+1)<nn - i by omega)⟩ ⟨rfl,rfl,trivial⟩ ⟨rfl,rfl,trivial⟩ (kE6 rfl rfl rfl rfl rfl rfl trivial) (kL6 rfl rfl rfl rfl rfl rfl trivial)))))))))
 refine xnf rfl (TL.done (TQ.then (TC.condT rfl (TC.skip (TQ.then (TC.block (TC.region (xmp rfl ?_))))))))
 refine xmp rfl (xN0 rfl (xf 3 zhh rfl (xlp 2 zkw rfl rfl (TL.callD [11,3] [11,3] (zgn hl (by rw [(zd4 k).1]; have:=hh4.2.1; omega)) ⟨rfl,rfl,trivial⟩ ⟨rfl,rfl,trivial⟩ zm4 rfl rfl rfl rfl rfl trivial (TL.done (TQ.inBlock (TQ.roundK (k+1) ⟨(by have h1:=(zd4 (d:=(ts3 i).held) k).1; have h2:=of_decide_eq_false (by assumption); omega),(by have h1:=(zd4 (d:=(ts3 i).held) k).1; have h2:=of_decide_eq_false (by assumption); omega)⟩ trivial ⟨rfl,rfl,trivial⟩ (kE8 rfl rfl rfl rfl rfl rfl rfl rfl (kE2 rfl rfl trivial)) (kL8 rfl rfl rfl rfl rfl rfl rfl rfl (kL1 rfl trivial)))))))))
 refine xnf rfl (xpH rfl (TL.done (TQ.then (TC.condT rfl (TC.exit (TQ.thenExit (TQ.blockHere (TQ.then ?_))))))))
 refine TC.bigC 6 9 i (zba 130 157 189 3 l (bs) (tr1)) rfl rfl (by decide) (fun x h=>h) (fun j hj hne x h=>by unfold zfi at h; rwa [if_neg hne] at h) (TC.region (TL.add (((i+1:Nat):Int)) rfl rfl (wrN (by omega)) rfl rfl (xmi rfl (TL.done ?_))))
 refine TQ.roundK ((i+1,left3,σ3,ts3,D3)) ⟨⟨(show i+1≤nn by omega),hL3,hG3,fun j hj hj0=>by by_cases he:j=i; (subst he; rw [←hG3.tr j (by omega) hj0]; exact of_decide_eq_false (by assumption)); exact hN3 j (by omega) hj0,hF3.imp id (fun ⟨f1,f2,f3,f4⟩=>⟨by have h7:j9≠i:=(fun e=>by subst e; exact (of_decide_eq_false (by assumption)) ((congrArg TakeS.at_ (hG3.tr j9 (by omega) f2)).trans f3)); omega,f2,f3,f4⟩)⟩,(show nn - (i+1)<nn - i by omega)⟩ ⟨rfl,rfl,trivial⟩ ⟨rfl,rfl,trivial⟩ (kE6 rfl rfl rfl rfl rfl rfl trivial) (kL6 rfl rfl rfl rfl rfl rfl trivial)
 refine dS (TC.condF rfl (TC.exit (TQ.thenExit (TQ.thenExit (TQ.blockHere (TQ.inBlock (TQ.roundK ((left3,σ3,ts3,tr1,D3)) ⟨⟨(show left3≤nn by omega),hL3,hG3.mono (show _≤1+40000 * ((nn:Int) - (left3:Int)) by omega),fun j hj=>hN3 j (by omega)⟩,(show left3<left by omega)⟩ ⟨rfl,trivial⟩ ⟨rfl,rfl,rfl,trivial⟩ (kE4 rfl rfl rfl rfl trivial) (kL5 rfl rfl rfl rfl rfl trivial))))))))
 refine dE rfl (sA (TL.callD [] [] zhr trivial trivial zpQ rfl rfl rfl rfl rfl trivial (xat rfl (dR ?_))))
 refine FQ.ret1 (v:=(.bool true)) (Bs:=[_]) [0] rfl rfl rfl ⟨rfl,trivial⟩ ?_
 exact ⟨rfl,rfl⟩
end Go.Proofs.YtjnpjkfliochbaaGreat
