import Derived.Test.YtfmjfdbmpkcndaaGreatConA
set_option linter.unusedVariables false
set_option linter.unusedSimpArgs false
set_option maxRecDepth 20000
namespace Go.Proofs.YtfmjfdbmpkcndaaGreat
open Go.Eng Go.Tm
theorem zjl {V S T:Int}:FnD Tryz.prog 48 [.agg #[.int .i64 V,.int .i64 S,.int .i64 T]] [] (.bool (decide (okL V S T))) []:=by
 refine Fn.enter (Tryz.func48) rfl rfl (fun w0 R=>?_)
 refine sA (xB 0 rfl (fun bk0=>(xaf rfl (dA (xf 0 zbn rfl (xli 0 zaa rfl rfl (TL.geq rfl rfl rfl rfl (fun q1=>?_) (fun q1=>?_))))))))
 refine xmt rfl (xf 0 zbn rfl (xli 0 zaa rfl rfl (TL.leq rfl rfl rfl rfl (fun q2=>?_) (fun q2=>?_))))
 refine xpT rfl (xmt rfl (xf 1 zbO rfl (xli 0 zaa rfl rfl (TL.geq rfl rfl rfl rfl (fun q3=>?_) (fun q3=>?_)))))
 refine xpT rfl (xmt rfl (xf 1 zbO rfl (xli 0 zaa rfl rfl (TL.leq rfl rfl rfl rfl (fun q4=>?_) (fun q4=>?_)))))
 refine xpT rfl (xmt rfl (xf 2 zfD rfl (xli 0 zaa rfl rfl (TL.geq rfl rfl rfl rfl (fun q5=>?_) (fun q5=>?_)))))
 refine xpT rfl (xmt rfl (xf 2 zfD rfl (xli 0 zaa rfl rfl (TL.leqV rfl rfl rfl rfl (TL.pickT (.bool _) rfl rfl rfl rfl (xab rfl (dR ?_)))))))
 refine FQ.ret1 (v:=(.bool _)) (Bs:=[]) [] rfl rfl rfl trivial ?_
 first | exact ⟨congrArg Value.bool (by unfold okL; first | (simp [*]; done) | (simp [*]; omega) | (rw [eq_comm,decide_eq_false_iff_not]; omega) | (rw [eq_comm,decide_eq_true_iff]; omega) | (rw [decide_eq_decide]; omega)),rfl⟩
 refine xpG rfl (xmf rfl (xo rfl (xo rfl (xo rfl (xpF rfl (xaf rfl (dR ?_)))))))
 refine FQ.ret1 (v:=(.bool false)) (Bs:=[]) [] rfl rfl rfl trivial ?_
 first | exact ⟨congrArg Value.bool (by unfold okL; first | (simp [*]; done) | (simp [*]; omega) | (rw [eq_comm,decide_eq_false_iff_not]; omega) | (rw [eq_comm,decide_eq_true_iff]; omega) | (rw [decide_eq_decide]; omega)),rfl⟩
 refine xpG rfl (xmf rfl (xo rfl (xo rfl (xo rfl (xpF rfl (xmf rfl (xo rfl (xo rfl ?_))))))))
 refine xo rfl (xpF rfl (xaf rfl (dR ?_)))
 refine FQ.ret1 (v:=(.bool false)) (Bs:=[]) [] rfl rfl rfl trivial ?_
 first | exact ⟨congrArg Value.bool (by unfold okL; first | (simp [*]; done) | (simp [*]; omega) | (rw [eq_comm,decide_eq_false_iff_not]; omega) | (rw [eq_comm,decide_eq_true_iff]; omega) | (rw [decide_eq_decide]; omega)),rfl⟩
 refine xpG rfl (xmf rfl (xo rfl (xo rfl (xo rfl (xpF rfl (xmf rfl (xo rfl (xo rfl ?_))))))))
 refine xo rfl (xpF rfl (xmf rfl (xo rfl (xo rfl (xo rfl (xpF rfl (xaf rfl (dR ?_))))))))
 refine FQ.ret1 (v:=(.bool false)) (Bs:=[]) [] rfl rfl rfl trivial ?_
 first | exact ⟨congrArg Value.bool (by unfold okL; first | (simp [*]; done) | (simp [*]; omega) | (rw [eq_comm,decide_eq_false_iff_not]; omega) | (rw [eq_comm,decide_eq_true_iff]; omega) | (rw [decide_eq_decide]; omega)),rfl⟩
 refine xpG rfl (xmf rfl (xo rfl (xo rfl (xo rfl (xpF rfl (xmf rfl (xo rfl (xo rfl ?_))))))))
 refine xo rfl (xpF rfl (xmf rfl (xo rfl (xo rfl (xo rfl (xpF rfl (xmf rfl (xo rfl ?_))))))))
 refine xo rfl (xo rfl (xpF rfl (xaf rfl (dR ?_))))
 refine FQ.ret1 (v:=(.bool false)) (Bs:=[]) [] rfl rfl rfl trivial ?_
 first | exact ⟨congrArg Value.bool (by unfold okL; first | (simp [*]; done) | (simp [*]; omega) | (rw [eq_comm,decide_eq_false_iff_not]; omega) | (rw [eq_comm,decide_eq_true_iff]; omega) | (rw [decide_eq_decide]; omega)),rfl⟩
 refine xmf rfl (xo rfl (xo rfl (xo rfl (xpF rfl (xmf rfl (xo rfl (xo rfl (xo rfl ?_))))))))
 refine xpF rfl (xmf rfl (xo rfl (xo rfl (xo rfl (xpF rfl (xmf rfl (xo rfl (xo rfl ?_))))))))
 refine xo rfl (xpF rfl (xmf rfl (xo rfl (xo rfl (xo rfl (xpF rfl (xaf rfl (dR ?_))))))))
 refine FQ.ret1 (v:=(.bool false)) (Bs:=[]) [] rfl rfl rfl trivial ?_
 first | exact ⟨congrArg Value.bool (by unfold okL; first | (simp [*]; done) | (simp [*]; omega) | (rw [eq_comm,decide_eq_false_iff_not]; omega) | (rw [eq_comm,decide_eq_true_iff]; omega) | (rw [decide_eq_decide]; omega)),rfl⟩
theorem zb2 {l:Lay} (hl:l.Ok):FnD Tryz.prog 68 [layV l] [] (.int .i64 l.lev) []:=by
 refine Fn.enter (Tryz.func68) rfl rfl (fun w0 R=>?_)
 refine sA (xB 0 rfl (fun bk0=>(xai rfl (dA (xai rfl (dB (xai rfl (dK (TC.loopK (X:=Nat) [1,2] [0] (fun x=>[(3,.int .i64 ((x:Nat):Int)),(4,.int .i64 (pw x))]) (fun x=>[]) (fun x=>x≤5∧1≤pw x∧pw x≤32∧(x=0∨pw x≤2 * (l.V:Int))) (fun x=>6 - x) (0) ⟨by omega,by decide,by decide,.inl rfl⟩ ⟨rfl,rfl,trivial⟩ trivial (fun x hI=>?_))))))))))
 refine TC.sub (env':=[(3,_),(4,_),(1,_),(2,_)]) (L':=[(0,_)]) ⟨rfl,rfl,rfl,rfl,trivial⟩ ⟨rfl,trivial⟩ (sB (xmi rfl (xf 0 zbn rfl (xli 0 zaa rfl rfl (TL.leq rfl rfl rfl rfl (fun q1=>?_) (fun q1=>?_))))))
 refine TL.done (TQ.then (TC.condT rfl (TC.skip (TQ.then (TC.seq (TC.block (TC.region (xmi rfl ?_))))))))
 refine TL.add _ rfl rfl (wr64 (by omega)) rfl rfl (xai rfl (dI (xmi rfl (TL.mul _ rfl rfl (wr64 (by omega)) rfl rfl (xai rfl (TL.done (TQ.roundK (x+1) ⟨zn6 hI.1 (by have:=hl.2.1; omega) (by assumption),by omega⟩ ⟨rfl,rfl,trivial⟩ trivial (kE2 rfl rfl trivial) (kL1 rfl trivial))))))))
 refine dE rfl (sA (xmi rfl (xai rfl (dR ?_))))
 refine FQ.ret1 (v:=(.int _ _)) (Bs:=[]) [] rfl rfl rfl trivial ?_
 exact ⟨iE (zpC hI.1 (by assumption) hI.2.2.2),rfl⟩
theorem zbu {l:Lay} (hl:l.Ok):Go.Eng.Fn Tryz.prog 108 [layV l] [] (fun x Bs=>∃ d:Array Nm,Bs=[ownA encN 4 132 x d]∧NN l d∧(d.size:Int)=l.nodes):=by
 have lb:=zb9 hl
 have hb:=zaU hl
 refine Fn.enter (Tryz.func108) rfl rfl (fun w0 R=>?_)
 refine sA (xB 0 rfl (fun bk0=>(TL.asg (.slice none 0 0) rfl rfl rfl (dA (TL.asg (.slice none 0 0) rfl rfl rfl (dS (TC.seq (TC.nilA 1 (A:=ownA encN 4 132 (.slice none 0 0) #[]) (.inl ⟨rfl,rfl⟩) (TC.region ?_)))))))))
 refine xai rfl (dK (TC.loopK (X:=Nat×Value×Array Nm) [1,2] [0] (fun ⟨i,w,d⟩=>[(4,.int .i64 ((i:Nat):Int)),(3,w)]) (fun ⟨i,w,d⟩=>[(1,ownA encN 4 132 w d)]) (fun ⟨i,w,d⟩=>((i:Int)≤l.lev∧(d.size:Int)=i * l.V)∧NN l d) (fun ⟨i,w,d⟩=>l.lev.toNat - i) ((0,_,#[])) ⟨⟨by omega,by simp⟩,NN.nil⟩ ⟨rfl,rfl,trivial⟩ ⟨rfl,trivial⟩ (fun y hI=>?_)))
 obtain ⟨i,w,d⟩:=y
 obtain ⟨⟨hi,hsz⟩,hN⟩:=hI
 replace hi:(i:Int)≤l.lev:=hi
 replace hsz:(d.size:Int)=i * l.V:=hsz
 replace hN:NN l d:=hN
 refine TC.sub (env':=[(4,_),(3,_),(1,_),(2,_)]) (L':=[(1,_),(0,_)]) ⟨rfl,rfl,rfl,rfl,trivial⟩ ⟨rfl,rfl,trivial⟩ (sB (xmi rfl (xL3 0 zbX rfl rfl (TL.callD [] [] (zb2 hl) ⟨rfl,trivial⟩ trivial zhn rfl rfl rfl rfl rfl trivial (TL.lss rfl rfl rfl rfl (fun q1=>?_) (fun q1=>?_))))))
 refine TL.done (TQ.then (TC.condT rfl (TC.skip (TQ.then (TC.seq (TC.block (sA (xai rfl ?_))))))))
 refine dK (TC.loopK (X:=Nat×Value×Array Nm) [1,2,4] [0] (fun ⟨v,w,d⟩=>[(5,.int .i64 ((v:Nat):Int)),(3,w)]) (fun ⟨v,w,d⟩=>[(1,ownA encN 4 132 w d)]) (fun ⟨v,w,d⟩=>(v≤l.V∧(d.size:Int)=i * l.V+v)∧NN l d) (fun ⟨v,w,d⟩=>l.V - v) ((0,_,d)) ⟨⟨by omega,by simp; omega⟩,hN⟩ ⟨rfl,rfl,trivial⟩ ⟨rfl,trivial⟩ (fun y hI=>?_))
 obtain ⟨v,w,d⟩:=y
 obtain ⟨⟨hv,hsz⟩,hN⟩:=hI
 replace hv:v≤l.V:=hv
 replace hsz:(d.size:Int)=i * l.V+v:=hsz
 replace hN:NN l d:=hN
 refine TC.sub (env':=[(5,_),(3,_),(1,_),(2,_),(4,_)]) (L':=[(1,_),(0,_)]) ⟨rfl,rfl,rfl,rfl,rfl,trivial⟩ ⟨rfl,rfl,trivial⟩ (sB (xmi rfl (xf 0 zbn rfl (xli 0 zaa rfl rfl (TL.lss rfl rfl rfl rfl (fun q2=>?_) (fun q2=>?_))))))
 refine TL.done (TQ.then (TC.condT rfl (TC.skip (TQ.then (TC.seq (TC.block (TC.region (xmv rfl ?_))))))))
 refine xmi rfl (xmi rfl (TL.bld [.int .i64 0,.int .i64 0,.int .i64 0,.int .i64 0] [(.int _ _),(.int _ _),(.int _ _),(.int _ _)] [_,_,_,_] zaK zbf ⟨rfl,rfl,rfl,rfl,trivial⟩ ⟨rfl,rfl⟩ rfl rfl (TL.bsN 2 [_] (encN ⟨1,i,v,0⟩) zaf zaK ⟨rfl,trivial⟩ rfl (lit1 rfl) rfl rfl (fun bk2=>⟨trivial,?_⟩))))
 replace hN:=hN
 refine TL.appS 1 2 (d2:=#[⟨1,i,v,0⟩]) rfl (rfl) rfl (fun _=>rfl) rfl rfl (row1 rfl) zdf (by decide) zbr (by have:=NN.le hl hN; have:=zaz hl; simp; omega) rfl rfl (fun v3=>⟨trivial,?_⟩)
 refine xav rfl (dI (xmi rfl (TL.add (((v+1:Nat):Int)) rfl rfl (wrN (by omega)) rfl rfl (xai rfl (TL.done (TQ.roundK ((v+1,_,_)) ⟨⟨⟨(show v+1≤l.V by omega),(show ((d++#[_]).size:Int)=_+((v+1:Nat):Int) by simp; omega)⟩,hN.vertex hl ⟨⟨by omega,by omega⟩,by omega,by omega⟩ (by omega)⟩,(show l.V - (v+1)<l.V - v by omega)⟩ ⟨rfl,rfl,trivial⟩ ⟨rfl,trivial⟩ (kE3 rfl rfl rfl trivial) (kL1 rfl trivial)))))))
 refine TL.done (TQ.then (TC.condF rfl (TC.exit (TQ.thenExit (TQ.thenExit (TQ.blockHere (TQ.inBlock (TQ.then ?_))))))))
 refine TC.region (xmi rfl (TL.add (((i+1:Nat):Int)) rfl rfl (wrN (by omega)) rfl rfl (xai rfl (TL.done (TQ.roundK ((i+1,_,_)) ⟨⟨⟨(show ((i+1:Nat):Int)≤l.lev by omega),(show _=((i+1:Nat):Int) * _ by rw [mulS]; omega)⟩,hN⟩,(show l.lev.toNat - (i+1)<l.lev.toNat - i by omega)⟩ ⟨rfl,rfl,trivial⟩ ⟨rfl,trivial⟩ (kE2 rfl rfl trivial) (kL1 rfl trivial))))))
 refine dE rfl (sB (xai rfl (dK (TC.loopK (X:=Nat×Value×Array Nm) [1,2] [0] (fun ⟨s,w,d⟩=>[(6,.int .i64 ((s:Nat):Int)),(3,w)]) (fun ⟨s,w,d⟩=>[(1,ownA encN 4 132 w d)]) (fun ⟨s,w,d⟩=>(s≤l.S∧(d.size:Int)=l.lev * l.V+s * l.arcs)∧NN l d) (fun ⟨s,w,d⟩=>l.S - s) ((0,_,d)) ⟨⟨by omega,by have:(i:Int)=l.lev:=(by omega); rw [hsz,this]; simp⟩,hN⟩ ⟨rfl,rfl,trivial⟩ ⟨rfl,trivial⟩ (fun y hI=>?_)))))
 obtain ⟨s,w,d⟩:=y
 obtain ⟨⟨hs,hsz⟩,hN⟩:=hI
 replace hs:s≤l.S:=hs
 replace hsz:(d.size:Int)=l.lev * l.V+s * l.arcs:=hsz
 replace hN:NN l d:=hN
 refine TC.sub (env':=[(6,_),(3,_),(1,_),(2,_)]) (L':=[(1,_),(0,_)]) ⟨rfl,rfl,rfl,rfl,trivial⟩ ⟨rfl,rfl,trivial⟩ (sB (xmi rfl (xf 1 zbO rfl (xli 0 zaa rfl rfl (TL.lss rfl rfl rfl rfl (fun q2=>?_) (fun q2=>?_))))))
 refine TL.done (TQ.then (TC.condT rfl (TC.skip (TQ.then (TC.seq (TC.block (sA (xai rfl ?_))))))))
 refine dK (TC.loopK (X:=Nat×Value×Array Nm) [1,2,6] [0] (fun ⟨i,w,d⟩=>[(7,.int .i64 ((i:Nat):Int)),(3,w)]) (fun ⟨i,w,d⟩=>[(1,ownA encN 4 132 w d)]) (fun ⟨i,w,d⟩=>((i:Int)≤l.lev∧(d.size:Int)=l.lev * l.V+s * l.arcs+2 * i)∧NN l d) (fun ⟨i,w,d⟩=>l.lev.toNat - i) ((0,_,d)) ⟨⟨by omega,by simp; omega⟩,hN⟩ ⟨rfl,rfl,trivial⟩ ⟨rfl,trivial⟩ (fun y hI=>?_))
 obtain ⟨i,w,d⟩:=y
 obtain ⟨⟨hi,hsz⟩,hN⟩:=hI
 replace hi:(i:Int)≤l.lev:=hi
 replace hsz:(d.size:Int)=l.lev * l.V+s * l.arcs+2 * i:=hsz
 replace hN:NN l d:=hN
 refine TC.sub (env':=[(7,_),(3,_),(1,_),(2,_),(6,_)]) (L':=[(1,_),(0,_)]) ⟨rfl,rfl,rfl,rfl,rfl,trivial⟩ ⟨rfl,rfl,trivial⟩ (sB (xmi rfl (xL3 0 zbX rfl rfl (TL.callD [] [] (zb2 hl) ⟨rfl,trivial⟩ trivial zhn rfl rfl rfl rfl rfl trivial (TL.lss rfl rfl rfl rfl (fun q3=>?_) (fun q3=>?_))))))
 refine TL.done (TQ.then (TC.condT rfl (TC.skip (TQ.then (TC.seq (TC.block (TC.region (xmv rfl ?_))))))))
 refine xmi rfl (xmi rfl (TL.bld [.int .i64 0,.int .i64 0,.int .i64 0,.int .i64 0] [(.int _ _),(.int _ _),(.int _ _),(.int _ _)] [_,_,_,_] zaK zbf ⟨rfl,rfl,rfl,rfl,trivial⟩ ⟨rfl,rfl⟩ rfl rfl (xmi rfl (xmi rfl (TL.bld [.int .i64 0,.int .i64 0,.int .i64 0,.int .i64 0] [(.int _ _),(.int _ _),(.int _ _),(.int _ _)] [_,_,_,_] zaK zbf ⟨rfl,rfl,rfl,rfl,trivial⟩ ⟨rfl,rfl⟩ rfl rfl (TL.bsN 4 [_,_] (([(⟨2,s,i,0⟩:Nm),⟨2,s,i,1⟩].map encN).flatten) zaf zaK ⟨rfl,rfl,trivial⟩ rfl (litN [(⟨2,s,i,0⟩:Nm),⟨2,s,i,1⟩] (fun x=>(zeS x).1)) rfl rfl (fun bk4=>⟨trivial,?_⟩)))))))
 refine TL.appS 1 4 (d2:=#[⟨2,s,i,0⟩,⟨2,s,i,1⟩]) rfl (rfl) rfl (fun _=>rfl) rfl rfl (zqA #[(⟨2,s,i,0⟩:Nm),⟨2,s,i,1⟩] (fun x=>(zeS x).1)) zdf (by decide) zbr (by have:=NN.le hl hN; have:=zaz hl; simp; omega) rfl rfl (fun v5=>⟨trivial,?_⟩)
 refine xav rfl (dI (xmi rfl (TL.add (((i+1:Nat):Int)) rfl rfl (wrN (by omega)) rfl rfl (xai rfl (TL.done (TQ.roundK ((i+1,_,_)) ⟨⟨⟨(show ((i+1:Nat):Int)≤l.lev by omega),(show ((d++#[_,_]).size:Int)=_+2 * ((i+1:Nat):Int) by simp; omega)⟩,hN.arcs hl (by omega) (by omega) (by omega)⟩,(show l.lev.toNat - (i+1)<l.lev.toNat - i by omega)⟩ ⟨rfl,rfl,trivial⟩ ⟨rfl,trivial⟩ (kE3 rfl rfl rfl trivial) (kL1 rfl trivial)))))))
 refine TL.done (TQ.then (TC.condF rfl (TC.exit (TQ.thenExit (TQ.thenExit (TQ.blockHere (TQ.inBlock (TQ.then ?_))))))))
 refine TC.region (xmi rfl (TL.add (((s+1:Nat):Int)) rfl rfl (wrN (by omega)) rfl rfl (xai rfl (TL.done (TQ.roundK ((s+1,_,_)) ⟨⟨⟨(show s+1≤l.S by omega),(show _=_+((s+1:Nat):Int) * _ by rw [mulS]; have:l.arcs=2 * l.lev:=rfl; omega)⟩,hN⟩,(show l.S - (s+1)<l.S - s by omega)⟩ ⟨rfl,rfl,trivial⟩ ⟨rfl,trivial⟩ (kE2 rfl rfl trivial) (kL1 rfl trivial))))))
 refine dE rfl (sA (xmv rfl (xav rfl (dR ?_))))
 refine FQ.ret1 (v:=_) (Bs:=[_]) [1] rfl rfl rfl ⟨rfl,trivial⟩ ?_
 obtain rfl:s=l.S:=by omega
 exact ⟨d,rfl,hN,by rw [hsz]; rfl⟩
set_option maxHeartbeats 1000000 in
theorem zdV {l:Lay} (hl:l.Ok):Go.Eng.Fn Tryz.prog 107 [layV l] [] (fun x Bs=>∃ d:Array Nm,Bs=[ownA encN 4 132 x d]∧NI l d∧(d.size:Int)=l.cells):=by
 have lb:=zb9 hl
 have hb:=zaU hl
 have hnb:=zaz hl
 have hh:l.heads=l.T+1+l.S * 7:=rfl
 have he:l.edges=l.heads+l.V * l.lev:=rfl
 have hbs:l.base=l.edges+(l.V:Int) * (l.V - 1) / 2:=rfl
 have hcl:l.cells=l.base+l.nodes * 7:=rfl
 have ht0:tri l.V 0=0:=by unfold tri; simp
 have htV:=zpj hl
 refine Fn.enter (Tryz.func107) rfl rfl (fun w0 R=>?_)
 refine sA (xB 0 rfl (fun bk0=>(TL.asg (.slice none 0 0) rfl rfl rfl (dA (TL.asg (.slice none 0 0) rfl rfl rfl (dS (TC.seq (TC.nilA 1 (A:=ownA encN 4 132 (.slice none 0 0) #[]) (.inl ⟨rfl,rfl⟩) (TC.region ?_)))))))))
 refine xai rfl (dK (TC.loopK (X:=Nat×Value×Array Nm) [1,2] [0] (fun ⟨i,w,d⟩=>[(4,.int .i64 ((i+1:Nat):Int)),(3,w)]) (fun ⟨i,w,d⟩=>[(1,ownA encN 4 132 w d)]) (fun ⟨i,w,d⟩=>((i≤l.T)∧(d.size:Int)=i)∧NI l d) (fun ⟨i,w,d⟩=>l.T - i) ((0,_,#[])) ⟨⟨by omega,by simp⟩,NI.nil⟩ ⟨rfl,rfl,trivial⟩ ⟨rfl,trivial⟩ (fun y hI=>?_)))
 obtain ⟨i,w,d⟩:=y
 obtain ⟨⟨hi,hsz⟩,hN⟩:=hI
 replace hi:i≤l.T:=hi
 replace hsz:(d.size:Int)=i:=hsz
 replace hN:NI l d:=hN
 refine TC.sub (env':=[(4,_),(3,_),(1,_),(2,_)]) (L':=[(1,_),(0,_)]) ⟨rfl,rfl,rfl,rfl,trivial⟩ ⟨rfl,rfl,trivial⟩ (sB (xmi rfl (xf 2 zfD rfl (xli 0 zaa rfl rfl (TL.leq rfl rfl rfl rfl (fun q1=>?_) (fun q1=>?_))))))
 refine TL.done (TQ.then (TC.condT rfl (TC.skip (TQ.then (TC.seq (TC.block (TC.region (xmv rfl ?_))))))))
 refine xmi rfl (TL.bld [.int .i64 0,.int .i64 0,.int .i64 0,.int .i64 0] [(.int _ _),(.int _ _),(.int _ _),(.int _ _)] [_,_,_,_] zaK zbf ⟨rfl,rfl,rfl,rfl,trivial⟩ ⟨rfl,rfl⟩ rfl rfl (TL.bsN 2 [_] (encN ⟨1,((i+1:Nat):Int),0,0⟩) zaf zaK ⟨rfl,trivial⟩ rfl (lit1 rfl) rfl rfl (fun bk2=>⟨trivial,?_⟩)))
 refine TL.appS 1 2 (d2:=#[⟨1,((i+1:Nat):Int),0,0⟩]) rfl (rfl) rfl (fun _=>rfl) rfl rfl (row1 rfl) zdf (by decide) zbr (by have:=NI.le hl hN; have:=zaO hl; simp; omega) rfl rfl (fun v3=>⟨trivial,?_⟩)
 refine xav rfl (dI (xmi rfl (TL.add (((i+2:Nat):Int)) rfl rfl (wrN (by omega)) rfl rfl (xai rfl (TL.done (TQ.roundK ((i+1,_,_)) ⟨⟨⟨(show i+1≤l.T by omega),(show ((d++#[_]).size:Int)=((i+1:Nat):Int) by simp; omega)⟩,hN.push (by rw [zl1 hl (by omega)]; omega)⟩,(show l.T - (i+1)<l.T - i by omega)⟩ ⟨rfl,rfl,trivial⟩ ⟨rfl,trivial⟩ (kE2 rfl rfl trivial) (kL1 rfl trivial)))))))
 refine dE rfl (TC.seq ?_)
 obtain rfl:i=l.T:=by omega
 refine TC.region (xmv rfl (TL.bld [.int .i64 0,.int .i64 0,.int .i64 0,.int .i64 0] [(.int _ _),(.int _ _),(.int _ _),(.int _ _)] [_,_,_,_] zaK zbf ⟨rfl,rfl,rfl,rfl,trivial⟩ ⟨rfl,rfl⟩ rfl rfl (TL.bsN 4 [_] (encN ⟨2,0,0,0⟩) zaf zaK ⟨rfl,trivial⟩ rfl (lit1 rfl) rfl rfl (fun bk4=>⟨trivial,?_⟩))))
 refine TL.appS 1 4 (d2:=#[⟨2,0,0,0⟩]) rfl (rfl) rfl (fun _=>rfl) rfl rfl (row1 rfl) zdf (by decide) zbr (by have:=NI.le hl hN; have:=zaO hl; simp; omega) rfl rfl (fun v5=>⟨trivial,?_⟩)
 refine xav rfl (dS (TC.seq ?_))
 replace hN:=hN.push (n:=⟨2,0,0,0⟩) (by rw [znQ hl,hsz])
 refine TC.region (xai rfl (dK (TC.loopK (X:=Nat×Value×Array Nm) [1,2] [0] (fun ⟨s,w,d⟩=>[(5,.int .i64 ((s:Nat):Int)),(3,w)]) (fun ⟨s,w,d⟩=>[(1,ownA encN 4 132 w d)]) (fun ⟨s,w,d⟩=>((s≤l.S)∧(d.size:Int)=l.T+1+s * 7)∧NI l d) (fun ⟨s,w,d⟩=>l.S - s) ((0,_,d++#[⟨2,0,0,0⟩])) ⟨⟨by omega,by simp; omega⟩,hN⟩ ⟨rfl,rfl,trivial⟩ ⟨rfl,trivial⟩ (fun y hI=>?_))))
 obtain ⟨s,w,d⟩:=y
 obtain ⟨⟨hs,hsz⟩,hN⟩:=hI
 replace hs:s≤l.S:=hs
 replace hsz:(d.size:Int)=l.T+1+s * 7:=hsz
 replace hN:NI l d:=hN
 refine TC.sub (env':=[(5,_),(3,_),(1,_),(2,_)]) (L':=[(1,_),(0,_)]) ⟨rfl,rfl,rfl,rfl,trivial⟩ ⟨rfl,rfl,trivial⟩ (sB (xmi rfl (xf 1 zbO rfl (xli 0 zaa rfl rfl (TL.lss rfl rfl rfl rfl (fun q2=>?_) (fun q2=>?_))))))
 refine TL.done (TQ.then (TC.condT rfl (TC.skip (TQ.then (TC.seq (TC.block (TC.region (xmv rfl ?_))))))))
 refine xmi rfl (TL.bld [.int .i64 0,.int .i64 0,.int .i64 0,.int .i64 0] [(.int _ _),(.int _ _),(.int _ _),(.int _ _)] [_,_,_,_] zaK zbf ⟨rfl,rfl,rfl,rfl,trivial⟩ ⟨rfl,rfl⟩ rfl rfl (xmi rfl (TL.bld [.int .i64 0,.int .i64 0,.int .i64 0,.int .i64 0] [(.int _ _),(.int _ _),(.int _ _),(.int _ _)] [_,_,_,_] zaK zbf ⟨rfl,rfl,rfl,rfl,trivial⟩ ⟨rfl,rfl⟩ rfl rfl (xmi rfl (TL.bld [.int .i64 0,.int .i64 0,.int .i64 0,.int .i64 0] [(.int _ _),(.int _ _),(.int _ _),(.int _ _)] [_,_,_,_] zaK zbf ⟨rfl,rfl,rfl,rfl,trivial⟩ ⟨rfl,rfl⟩ rfl rfl (xmi rfl ?_))))))
 refine TL.bld [.int .i64 0,.int .i64 0,.int .i64 0,.int .i64 0] [(.int _ _),(.int _ _),(.int _ _),(.int _ _)] [_,_,_,_] zaK zbf ⟨rfl,rfl,rfl,rfl,trivial⟩ ⟨rfl,rfl⟩ rfl rfl (xmi rfl (TL.bld [.int .i64 0,.int .i64 0,.int .i64 0,.int .i64 0] [(.int _ _),(.int _ _),(.int _ _),(.int _ _)] [_,_,_,_] zaK zbf ⟨rfl,rfl,rfl,rfl,trivial⟩ ⟨rfl,rfl⟩ rfl rfl (xmi rfl (TL.bld [.int .i64 0,.int .i64 0,.int .i64 0,.int .i64 0] [(.int _ _),(.int _ _),(.int _ _),(.int _ _)] [_,_,_,_] zaK zbf ⟨rfl,rfl,rfl,rfl,trivial⟩ ⟨rfl,rfl⟩ rfl rfl (xmi rfl ?_)))))
 refine TL.bld [.int .i64 0,.int .i64 0,.int .i64 0,.int .i64 0] [(.int _ _),(.int _ _),(.int _ _),(.int _ _)] [_,_,_,_] zaK zbf ⟨rfl,rfl,rfl,rfl,trivial⟩ ⟨rfl,rfl⟩ rfl rfl (TL.bsN 6 [_,_,_,_,_,_,_] (([(⟨3,s,0,0⟩:Nm),(⟨4,s,0,0⟩:Nm),(⟨5,s,0,0⟩:Nm),(⟨6,s,0,0⟩:Nm),(⟨6,s,1,0⟩:Nm),(⟨7,s,0,0⟩:Nm),(⟨7,s,1,0⟩:Nm)].map encN).flatten) zaf zaK ⟨rfl,rfl,rfl,rfl,rfl,rfl,rfl,trivial⟩ rfl (litN [(⟨3,s,0,0⟩:Nm),(⟨4,s,0,0⟩:Nm),(⟨5,s,0,0⟩:Nm),(⟨6,s,0,0⟩:Nm),(⟨6,s,1,0⟩:Nm),(⟨7,s,0,0⟩:Nm),(⟨7,s,1,0⟩:Nm)] (fun x=>(zeS x).1)) rfl rfl (fun bk6=>⟨trivial,?_⟩))
 refine TL.appS 1 6 (d2:=#[⟨3,s,0,0⟩,⟨4,s,0,0⟩,⟨5,s,0,0⟩,⟨6,s,0,0⟩,⟨6,s,1,0⟩,⟨7,s,0,0⟩,⟨7,s,1,0⟩]) rfl (rfl) rfl (fun _=>rfl) rfl rfl (zqA #[(⟨3,s,0,0⟩:Nm),(⟨4,s,0,0⟩:Nm),(⟨5,s,0,0⟩:Nm),(⟨6,s,0,0⟩:Nm),(⟨6,s,1,0⟩:Nm),(⟨7,s,0,0⟩:Nm),(⟨7,s,1,0⟩:Nm)] (fun x=>(zeS x).1)) zdf (by decide) zbr (by have:=NI.le hl hN; have:=zaO hl; simp; omega) rfl rfl (fun v7=>⟨trivial,?_⟩)
 refine xav rfl (dI (xmi rfl (TL.add (((s+1:Nat):Int)) rfl rfl (wrN (by omega)) rfl rfl (xai rfl (TL.done (TQ.roundK ((s+1,_,_)) ⟨⟨⟨(show s+1≤l.S by omega),(show ((d++#[_,_,_,_,_,_,_]).size:Int)=_+((s+1:Nat):Int) * 7 by simp; omega)⟩,hN.slot hl (by omega) hsz⟩,(show l.S - (s+1)<l.S - s by omega)⟩ ⟨rfl,rfl,trivial⟩ ⟨rfl,trivial⟩ (kE2 rfl rfl trivial) (kL1 rfl trivial)))))))
 refine dE rfl (TC.seq (TC.seq ?_))
 obtain rfl:s=l.S:=by omega
 refine TC.region (xai rfl (dK (TC.loopK (X:=Nat×Value×Array Nm) [1,2] [0] (fun ⟨v,w,d⟩=>[(6,.int .i64 ((v:Nat):Int)),(3,w)]) (fun ⟨v,w,d⟩=>[(1,ownA encN 4 132 w d)]) (fun ⟨v,w,d⟩=>((v≤l.V)∧(d.size:Int)=l.heads+v * l.lev)∧NI l d) (fun ⟨v,w,d⟩=>l.V - v) ((0,_,d)) ⟨⟨by omega,by simp; omega⟩,hN⟩ ⟨rfl,rfl,trivial⟩ ⟨rfl,trivial⟩ (fun y hI=>?_))))
 obtain ⟨v,w,d⟩:=y
 obtain ⟨⟨hv,hsz⟩,hN⟩:=hI
 replace hv:v≤l.V:=hv
 replace hsz:(d.size:Int)=l.heads+v * l.lev:=hsz
 replace hN:NI l d:=hN
 refine TC.sub (env':=[(6,_),(3,_),(1,_),(2,_)]) (L':=[(1,_),(0,_)]) ⟨rfl,rfl,rfl,rfl,trivial⟩ ⟨rfl,rfl,trivial⟩ (sB (xmi rfl (xf 0 zbn rfl (xli 0 zaa rfl rfl (TL.lss rfl rfl rfl rfl (fun q3=>?_) (fun q3=>?_))))))
 refine TL.done (TQ.then (TC.condT rfl (TC.skip (TQ.then (TC.seq (TC.block (sA (xai rfl ?_))))))))
 refine dK (TC.loopK (X:=Nat×Value×Array Nm) [1,2,6] [0] (fun ⟨i,w,d⟩=>[(7,.int .i64 ((i:Nat):Int)),(3,w)]) (fun ⟨i,w,d⟩=>[(1,ownA encN 4 132 w d)]) (fun ⟨i,w,d⟩=>(((i:Int)≤l.lev)∧(d.size:Int)=l.heads+v * l.lev+i)∧NI l d) (fun ⟨i,w,d⟩=>l.lev.toNat - i) ((0,_,d)) ⟨⟨by omega,by simp; omega⟩,hN⟩ ⟨rfl,rfl,trivial⟩ ⟨rfl,trivial⟩ (fun y hI=>?_))
 obtain ⟨i,w,d⟩:=y
 obtain ⟨⟨hi,hsz⟩,hN⟩:=hI
 replace hi:(i:Int)≤l.lev:=hi
 replace hsz:(d.size:Int)=l.heads+v * l.lev+i:=hsz
 replace hN:NI l d:=hN
 refine TC.sub (env':=[(7,_),(3,_),(1,_),(2,_),(6,_)]) (L':=[(1,_),(0,_)]) ⟨rfl,rfl,rfl,rfl,rfl,trivial⟩ ⟨rfl,rfl,trivial⟩ (sB (xmi rfl (xL3 0 zbX rfl rfl (TL.callD [] [] (zb2 hl) ⟨rfl,trivial⟩ trivial zhn rfl rfl rfl rfl rfl trivial (TL.lss rfl rfl rfl rfl (fun q4=>?_) (fun q4=>?_))))))
 refine TL.done (TQ.then (TC.condT rfl (TC.skip (TQ.then (TC.seq (TC.block (TC.region (xmv rfl ?_))))))))
 refine xmi rfl (xmi rfl (TL.bld [.int .i64 0,.int .i64 0,.int .i64 0,.int .i64 0] [(.int _ _),(.int _ _),(.int _ _),(.int _ _)] [_,_,_,_] zaK zbf ⟨rfl,rfl,rfl,rfl,trivial⟩ ⟨rfl,rfl⟩ rfl rfl (TL.bsN 8 [_] (encN ⟨8,v,i,0⟩) zaf zaK ⟨rfl,trivial⟩ rfl (lit1 rfl) rfl rfl (fun bk8=>⟨trivial,?_⟩))))
 refine TL.appS 1 8 (d2:=#[⟨8,v,i,0⟩]) rfl (rfl) rfl (fun _=>rfl) rfl rfl (row1 rfl) zdf (by decide) zbr (by have:=NI.le hl hN; have:=zaO hl; simp; omega) rfl rfl (fun v9=>⟨trivial,?_⟩)
 refine xav rfl (dI (xmi rfl (TL.add (((i+1:Nat):Int)) rfl rfl (wrN (by omega)) rfl rfl (xai rfl (TL.done (TQ.roundK ((i+1,_,_)) ⟨⟨⟨(show ((i+1:Nat):Int)≤l.lev by omega),(show ((d++#[_]).size:Int)=_+((i+1:Nat):Int) by simp; omega)⟩,hN.push (by rw [zke hl (by omega) (by omega),zhY hl (by omega) (by omega)]; omega)⟩,(show l.lev.toNat - (i+1)<l.lev.toNat - i by omega)⟩ ⟨rfl,rfl,trivial⟩ ⟨rfl,trivial⟩ (kE3 rfl rfl rfl trivial) (kL1 rfl trivial)))))))
 refine TL.done (TQ.then (TC.condF rfl (TC.exit (TQ.thenExit (TQ.thenExit (TQ.blockHere (TQ.inBlock (TQ.then ?_))))))))
 refine TC.region (xmi rfl (TL.add (((v+1:Nat):Int)) rfl rfl (wrN (by omega)) rfl rfl (xai rfl (TL.done (TQ.roundK ((v+1,_,_)) ⟨⟨⟨(show v+1≤l.V by omega),(show _=_+((v+1:Nat):Int) * _ by rw [mulS]; omega)⟩,hN⟩,(show l.V - (v+1)<l.V - v by omega)⟩ ⟨rfl,rfl,trivial⟩ ⟨rfl,trivial⟩ (kE2 rfl rfl trivial) (kL1 rfl trivial))))))
 refine dE rfl (TC.seq (TC.seq ?_))
 obtain rfl:v=l.V:=by omega
 refine TC.region (xai rfl (dK (TC.loopK (X:=Nat×Value×Array Nm) [1,2] [0] (fun ⟨a,w,d⟩=>[(8,.int .i64 ((a:Nat):Int)),(3,w)]) (fun ⟨a,w,d⟩=>[(1,ownA encN 4 132 w d)]) (fun ⟨a,w,d⟩=>((a≤l.V)∧(d.size:Int)=l.edges+tri l.V a)∧NI l d) (fun ⟨a,w,d⟩=>l.V - a) ((0,_,d)) ⟨⟨by omega,by simp; omega⟩,hN⟩ ⟨rfl,rfl,trivial⟩ ⟨rfl,trivial⟩ (fun y hI=>?_))))
 obtain ⟨a,w,d⟩:=y
 obtain ⟨⟨ha,hsz⟩,hN⟩:=hI
 replace ha:a≤l.V:=ha
 replace hsz:(d.size:Int)=l.edges+tri l.V a:=hsz
 replace hN:NI l d:=hN
 refine TC.sub (env':=[(8,_),(3,_),(1,_),(2,_)]) (L':=[(1,_),(0,_)]) ⟨rfl,rfl,rfl,rfl,trivial⟩ ⟨rfl,rfl,trivial⟩ (sB (xmi rfl (xf 0 zbn rfl (xli 0 zaa rfl rfl (TL.lss rfl rfl rfl rfl (fun q4=>?_) (fun q4=>?_))))))
 refine TL.done (TQ.then (TC.condT rfl (TC.skip (TQ.then (TC.seq (TC.block (sA (xmi rfl ?_))))))))
 refine TL.add (((a+1:Nat):Int)) rfl rfl (wrN (by omega)) rfl rfl (xai rfl (dK (TC.loopK (X:=Nat×Value×Array Nm) [1,2,8] [0] (fun ⟨b,w,d⟩=>[(9,.int .i64 ((b:Nat):Int)),(3,w)]) (fun ⟨b,w,d⟩=>[(1,ownA encN 4 132 w d)]) (fun ⟨b,w,d⟩=>((a+1≤b∧b≤l.V)∧(d.size:Int)=l.edges+tri l.V a+b - a - 1)∧NI l d) (fun ⟨b,w,d⟩=>l.V - b) ((a+1,_,d)) ⟨⟨⟨Nat.le_refl _,by omega⟩,by simp; omega⟩,hN⟩ ⟨rfl,rfl,trivial⟩ ⟨rfl,trivial⟩ (fun y hI=>?_))))
 obtain ⟨b,w,d⟩:=y
 obtain ⟨⟨hb,hsz⟩,hN⟩:=hI
 replace hb:a+1≤b∧b≤l.V:=hb
 replace hsz:(d.size:Int)=l.edges+tri l.V a+b - a - 1:=hsz
 replace hN:NI l d:=hN
 refine TC.sub (env':=[(9,_),(3,_),(1,_),(2,_),(8,_)]) (L':=[(1,_),(0,_)]) ⟨rfl,rfl,rfl,rfl,rfl,trivial⟩ ⟨rfl,rfl,trivial⟩ (sB (xmi rfl (xf 0 zbn rfl (xli 0 zaa rfl rfl (TL.lss rfl rfl rfl rfl (fun q5=>?_) (fun q5=>?_))))))
 refine TL.done (TQ.then (TC.condT rfl (TC.skip (TQ.then (TC.seq (TC.block (TC.region (xmv rfl ?_))))))))
 refine xmi rfl (xmi rfl (TL.bld [.int .i64 0,.int .i64 0,.int .i64 0,.int .i64 0] [(.int _ _),(.int _ _),(.int _ _),(.int _ _)] [_,_,_,_] zaK zbf ⟨rfl,rfl,rfl,rfl,trivial⟩ ⟨rfl,rfl⟩ rfl rfl (TL.bsN 10 [_] (encN ⟨9,a,b,0⟩) zaf zaK ⟨rfl,trivial⟩ rfl (lit1 rfl) rfl rfl (fun bk10=>⟨trivial,?_⟩))))
 refine TL.appS 1 10 (d2:=#[⟨9,a,b,0⟩]) rfl (rfl) rfl (fun _=>rfl) rfl rfl (row1 rfl) zdf (by decide) zbr (by have:=NI.le hl hN; have:=zaO hl; simp; omega) rfl rfl (fun v11=>⟨trivial,?_⟩)
 refine xav rfl (dI (xmi rfl (TL.add (((b+1:Nat):Int)) rfl rfl (wrN (by omega)) rfl rfl (xai rfl (TL.done (TQ.roundK ((b+1,_,_)) ⟨⟨⟨(show a+1≤b+1∧b+1≤l.V by omega),(show ((d++#[_]).size:Int)=_+((b+1:Nat):Int) - _ - 1 by simp; omega)⟩,hN.push (by rw [zf3 hl (by omega) (by omega),(zim hl (by omega) (by omega)).1]; omega)⟩,(show l.V - (b+1)<l.V - b by omega)⟩ ⟨rfl,rfl,trivial⟩ ⟨rfl,trivial⟩ (kE3 rfl rfl rfl trivial) (kL1 rfl trivial)))))))
 refine TL.done (TQ.then (TC.condF rfl (TC.exit (TQ.thenExit (TQ.thenExit (TQ.blockHere (TQ.inBlock (TQ.then ?_))))))))
 refine TC.region (xmi rfl (TL.add (((a+1:Nat):Int)) rfl rfl (wrN (by omega)) rfl rfl (xai rfl (TL.done (TQ.roundK ((a+1,_,_)) ⟨⟨⟨(show a+1≤l.V by omega),(show _=_+tri _ ((a+1:Nat):Int) by rw [Int.natCast_succ,zf1]; omega)⟩,hN⟩,(show l.V - (a+1)<l.V - a by omega)⟩ ⟨rfl,rfl,trivial⟩ ⟨rfl,trivial⟩ (kE2 rfl rfl trivial) (kL1 rfl trivial))))))
 refine dE rfl (TC.seq (TC.seq ?_))
 obtain rfl:a=l.V:=by omega
 refine TC.region (xai rfl (dK (TC.loopK (X:=Nat×Value×Array Nm) [1,2] [0] (fun ⟨x,w,d⟩=>[(10,.int .i64 ((x+1:Nat):Int)),(3,w)]) (fun ⟨x,w,d⟩=>[(1,ownA encN 4 132 w d)]) (fun ⟨x,w,d⟩=>(((x:Int)≤l.nodes)∧(d.size:Int)=l.base+x * 7)∧NI l d) (fun ⟨x,w,d⟩=>l.nodes.toNat - x) ((0,_,d)) ⟨⟨by omega,by simp; omega⟩,hN⟩ ⟨rfl,rfl,trivial⟩ ⟨rfl,trivial⟩ (fun y hI=>?_))))
 obtain ⟨x,w,d⟩:=y
 obtain ⟨⟨hx,hsz⟩,hN⟩:=hI
 replace hx:(x:Int)≤l.nodes:=hx
 replace hsz:(d.size:Int)=l.base+x * 7:=hsz
 replace hN:NI l d:=hN
 refine TC.sub (env':=[(10,_),(3,_),(1,_),(2,_)]) (L':=[(1,_),(0,_)]) ⟨rfl,rfl,rfl,rfl,trivial⟩ ⟨rfl,rfl,trivial⟩ (sB (xmi rfl (xL3 0 zbX rfl rfl (TL.call [] [12] (zbu hl) ⟨rfl,trivial⟩ trivial zcH rfl rfl rfl rfl ?_))))
 rintro x9 Bs ⟨dn,rfl,hNn,hszn⟩
 refine ⟨rfl,trivial,?_⟩
 refine TL.ownV 12 rfl (fun a9 c9 hv9=>?_)
 subst hv9
 refine xz zaf rfl (TL.leq rfl rfl rfl rfl (fun q5=>?_) (fun q5=>?_))
 refine TL.done (TQ.then (TC.condT rfl (TC.skip (TQ.then (TC.seq (TC.block (sA (xai rfl ?_))))))))
 refine dK (TC.loopK (X:=Nat×Value×Array Nm) [1,2,10] [0,12] (fun ⟨f,w,d⟩=>[(11,.int .i64 ((f:Nat):Int)),(3,w)]) (fun ⟨f,w,d⟩=>[(1,ownA encN 4 132 w d)]) (fun ⟨f,w,d⟩=>((f≤7)∧(d.size:Int)=l.base+x * 7+f)∧NI l d) (fun ⟨f,w,d⟩=>7 - f) ((0,_,d)) ⟨⟨by omega,by simp; omega⟩,hN⟩ ⟨rfl,rfl,trivial⟩ ⟨rfl,trivial⟩ (fun y hI=>?_))
 obtain ⟨f,w,d⟩:=y
 obtain ⟨⟨hf,hsz⟩,hN⟩:=hI
 replace hf:f≤7:=hf
 replace hsz:(d.size:Int)=l.base+x * 7+f:=hsz
 replace hN:NI l d:=hN
 refine TC.sub (env':=[(11,_),(3,_),(1,_),(2,_),(10,_)]) (L':=[(1,_),(0,_),(12,_)]) ⟨rfl,rfl,rfl,rfl,rfl,trivial⟩ ⟨rfl,rfl,rfl,trivial⟩ (sB (xmi rfl (TL.lss rfl rfl rfl rfl (fun q6=>?_) (fun q6=>?_))))
 refine TL.done (TQ.then (TC.condT rfl (TC.skip (TQ.then (TC.seq (TC.block (TC.region (xmv rfl ?_))))))))
 refine xmi rfl (xmi rfl (TL.bld [.int .i64 0,.int .i64 0,.int .i64 0,.int .i64 0] [(.int _ _),(.int _ _),(.int _ _),(.int _ _)] [_,_,_,_] zaK zbf ⟨rfl,rfl,rfl,rfl,trivial⟩ ⟨rfl,rfl⟩ rfl rfl (TL.bsN 13 [_] (encN ⟨10,((x+1:Nat):Int),f,0⟩) zaf zaK ⟨rfl,trivial⟩ rfl (lit1 rfl) rfl rfl (fun bk13=>⟨trivial,?_⟩))))
 refine TL.appS 1 13 (d2:=#[⟨10,((x+1:Nat):Int),f,0⟩]) rfl (rfl) rfl (fun _=>rfl) rfl rfl (row1 rfl) zdf (by decide) zbr (by have:=NI.le hl hN; have:=zaO hl; simp; omega) rfl rfl (fun v14=>⟨trivial,?_⟩)
 refine xav rfl (dI (xmi rfl (TL.add (((f+1:Nat):Int)) rfl rfl (wrN (by omega)) rfl rfl (xai rfl (TL.done (TQ.roundK ((f+1,_,_)) ⟨⟨⟨(show f+1≤7 by omega),(show ((d++#[_]).size:Int)=_+((f+1:Nat):Int) by simp; omega)⟩,hN.push (by rw [ziE hl ⟨by omega,by omega⟩ (by omega),zf5 hl ⟨by omega,by omega⟩ (by omega)]; omega)⟩,(show 7 - (f+1)<7 - f by omega)⟩ ⟨rfl,rfl,trivial⟩ ⟨rfl,trivial⟩ (kE3 rfl rfl rfl trivial) (kL2 rfl rfl trivial)))))))
 refine TL.done (TQ.then (TC.condF rfl (TC.exit (TQ.thenExit (TQ.thenExit (TQ.blockHere (TQ.inBlock (TQ.then ?_))))))))
 refine TC.region (xmi rfl (TL.add (((x+2:Nat):Int)) rfl rfl (wrN (by omega)) rfl rfl (xai rfl (TL.done (TQ.roundK ((x+1,_,_)) ⟨⟨⟨(show ((x+1:Nat):Int)≤l.nodes by omega),(show _=_+((x+1:Nat):Int) * 7 by omega)⟩,hN⟩,(show l.nodes.toNat - (x+1)<l.nodes.toNat - x by omega)⟩ ⟨rfl,rfl,trivial⟩ ⟨rfl,trivial⟩ (kE2 rfl rfl trivial) (kL1 rfl trivial))))))
 refine dE rfl (sA (xmv rfl (xav rfl (dR ?_))))
 refine FQ.ret1 (v:=_) (Bs:=[_]) [1] rfl rfl rfl ⟨rfl,trivial⟩ ?_
 obtain hx:(x:Int)=l.nodes:=by omega
 exact ⟨d,rfl,hN,by omega⟩
theorem zfk:KeyOk Tryz.prog 132 nmV:=zqF (by kernel_rfl)
theorem bat_s {l:Lay} (hl:l.Ok) {σ:M} {nv:Value} {ca xa:Option Addr} {mr bc offc cn cc bx offx xn xc:Nat} {Acl Ax:Assn} {fc:Nat→Int} {fx:Nat→Nm} {ps:List (Nm×Nat)} (hB:BookOk l σ ca bc offc cn Acl fc xa bx offx xn Ax fx ps) {k x y:Int} {j:Nat} (hg:mget ps ⟨k,x,y,0⟩=some j) (hj:j<cn) (hv:fc j=zcj l σ ⟨k,x,y,0⟩):FnD Tryz.prog 67 [.agg #[.int .i64 l.V,.int .i64 l.S,.int .i64 l.T,nv,.slice ca cn cc,.map (some mr),.slice xa xn xc],.int .i64 k,.int .i64 x,.int .i64 y] [Acl,mapA mr nmV natV ps,Ax] (.int .u64 (zcj l σ ⟨k,x,y,0⟩)) [Acl,mapA mr nmV natV ps,Ax]:=by
 have hcn:=hB.hcn
 have hxn:=hB.hxn
 have hnb:=zaz hl
 have hcb:=zaO hl
 refine Fn.enter (Tryz.func67) rfl rfl (fun w0 R=>?_)
 refine sA (xB 3 rfl (fun bk3=>(xai rfl (dA (xf 5 za4 rfl (TL.ld 3 (.map _) rfl rfl rfl zdb rfl rfl (xmi rfl (xmi rfl (xmi rfl ?_)))))))))
 refine TL.bld [.int .i64 0,.int .i64 0,.int .i64 0,.int .i64 0] [(.int _ _),(.int _ _),(.int _ _)] [_,_,_,_] zaK zbf ⟨rfl,rfl,rfl,trivial⟩ ⟨rfl,rfl⟩ rfl rfl (TL.lkS2 1 (q:=⟨k,x,y,0⟩) hg rfl rfl rfl zaM (zfk) zeL rfl rfl trivial (xmu rfl (xei rfl rfl (xet rfl rfl (xai rfl (xat rfl (dB (xmt rfl ?_))))))))
 refine xnt rfl (xmf rfl (xmi rfl (xf 4 zhj rfl (xls 3 zbB rfl rfl (xz zax rfl (TL.geqF rfl rfl (by omega) rfl rfl (xpF rfl (dF rfl ?_))))))))
 refine xf 4 zhj rfl (xls 3 zbB rfl rfl (xmi rfl (TL.iaO rfl hB.ha rfl zax (by omega) rfl rfl (TL.ldRS 0 (.int _ _) rfl rfl hB.hA (by omega) (rfl) zeM rfl rfl (xai rfl (dR ?_))))))
 refine FQ.ret1 (v:=(.int _ _)) (Bs:=[_,_,_]) [0,1,2] rfl rfl rfl ⟨rfl,rfl,rfl,trivial⟩ ?_
 exact ⟨congrArg (Value.int .u64) hv,rfl⟩
theorem bat_n {l:Lay} (hl:l.Ok) {σ:M} {nv:Value} {ca xa:Option Addr} {mr bc offc cn cc bx offx xn xc:Nat} {Acl Ax:Assn} {fc:Nat→Int} {fx:Nat→Nm} {ps:List (Nm×Nat)} (hB:BookOk l σ ca bc offc cn Acl fc xa bx offx xn Ax fx ps) {k x y:Int} (hg:mget ps ⟨k,x,y,0⟩=none) (hv:zcj l σ ⟨k,x,y,0⟩=0):FnD Tryz.prog 67 [.agg #[.int .i64 l.V,.int .i64 l.S,.int .i64 l.T,nv,.slice ca cn cc,.map (some mr),.slice xa xn xc],.int .i64 k,.int .i64 x,.int .i64 y] [Acl,mapA mr nmV natV ps,Ax] (.int .u64 (zcj l σ ⟨k,x,y,0⟩)) [Acl,mapA mr nmV natV ps,Ax]:=by
 have hcn:=hB.hcn
 have hxn:=hB.hxn
 have hnb:=zaz hl
 have hcb:=zaO hl
 refine Fn.enter (Tryz.func67) rfl rfl (fun w0 R=>?_)
 refine sA (xB 3 rfl (fun bk3=>(xai rfl (dA (xf 5 za4 rfl (TL.ld 3 (.map _) rfl rfl rfl zdb rfl rfl (xmi rfl (xmi rfl (xmi rfl ?_)))))))))
 refine TL.bld [.int .i64 0,.int .i64 0,.int .i64 0,.int .i64 0] [(.int _ _),(.int _ _),(.int _ _)] [_,_,_,_] zaK zbf ⟨rfl,rfl,rfl,trivial⟩ ⟨rfl,rfl⟩ rfl rfl (TL.lkN2 1 (q:=⟨k,x,y,0⟩) hg rfl rfl rfl zaM (zfk) zeL rfl rfl trivial (xmu rfl (xei rfl rfl (TL.ext (.bool false) rfl rfl rfl rfl (xai rfl (xaf rfl (dB (xmf rfl ?_))))))))
 refine xnf rfl (xmt rfl (xo rfl (xo rfl (xo rfl (xo rfl (xo rfl (xpT rfl (dT rfl ?_))))))))
 refine xai rfl (dRR ?_)
 refine FQ.ret1 (v:=(.int _ _)) (Bs:=[_,_,_]) [0,1,2] rfl rfl rfl ⟨rfl,rfl,rfl,trivial⟩ ?_
 exact ⟨congrArg (Value.int .u64) hv.symm,rfl⟩
theorem zdh {l:Lay} (hl:l.Ok) {σ:M} {nv:Value} {ca xa:Option Addr} {mr bc offc cn cc bx offx xn xc:Nat} {Acl Ax:Assn} {fc:Nat→Int} {fx:Nat→Nm} {ps:List (Nm×Nat)} (hB:BookOk l σ ca bc offc cn Acl fc xa bx offx xn Ax fx ps)  {k x y:Int}:FnD Tryz.prog 67 [.agg #[.int .i64 l.V,.int .i64 l.S,.int .i64 l.T,nv,.slice ca cn cc,.map (some mr),.slice xa xn xc],.int .i64 k,.int .i64 x,.int .i64 y] [Acl,mapA mr nmV natV ps,Ax] (.int .u64 (zcj l σ ⟨k,x,y,0⟩)) [Acl,mapA mr nmV natV ps,Ax]:=by
 rcases hB.get hl ⟨k,x,y,0⟩ with ⟨j,hg,hj,hv⟩ | ⟨hg,hv⟩
 ·exact bat_s hl hB hg hj hv
 ·exact bat_n hl hB hg hv
theorem zpx {l:Lay} (hl:l.Ok) {ca:Option Addr} {bc offc cn cc:Nat} {Acl:Assn} {fc:Nat→Int} (hca:0<cn→ca=some ⟨bc,offc,none⟩) (hAc:zaW Acl encU 1 bc offc cn fc)  : Go.Eng.Fn Tryz.prog 66 [layV l,.slice ca cn cc] [Acl] (fun x Bs=>∃ na nn nc xv mr ps d,x=.agg #[.int .i64 l.V,.int .i64 l.S,.int .i64 l.T,.slice na nn nc,.slice ca cn cc,.map (some mr),xv]∧Bs=[Acl,mapA mr nmV natV ps,ownA encN 4 132 xv d]∧PI l ps l.cells∧NN l d∧(d.size:Int)=l.nodes):=by
 have hcb:=zaO hl
 refine Fn.enter (Tryz.func66) rfl rfl (fun w0 R=>?_)
 refine sA (xB 1 rfl (fun bk1=>(TL.alloc 2 (cs:=#[.int .i64 0,.int .i64 0,.int .i64 0,.slice none 0 0,.slice none 0 0,.map none,.slice none 0 0]) zbF rfl rfl rfl (fun _=>trivial) (fun bk2=>(dS ?_)))))
 refine TC.drawT (.br3 [(0,true),(1,true),(3,true),(5,true)] 2 4 8 (.br3 [] 4 6 8 (.br [] 6 8 (.fin [(7,true),(8,false),(9,false)]) (.fin [(6,false),(7,true),(9,false)])) (.br [] 4 8 (.fin [(7,true),(8,false),(9,false)]) (.fin [(4,false),(7,true),(9,false)])) (.br [] 4 6 (.fin [(6,false),(7,true),(9,false)]) (.fin [(4,false),(7,true),(9,false)]))) (.br [] 2 8 (.br [] 6 8 (.fin [(7,true),(8,false),(9,false)]) (.fin [(6,false),(7,true),(9,false)])) (.fin [(2,false),(6,false),(7,true),(9,false)])) (.br [] 2 4 (.br [] 4 6 (.fin [(6,false),(7,true),(9,false)]) (.fin [(4,false),(7,true),(9,false)])) (.fin [(2,false),(6,false),(7,true),(9,false)]))) [1] fc_m (by kernel_rfl) (TT.br3 ?_)
 refine xL3 1 zbX rfl rfl (xL3 1 zbX rfl rfl (xms rfl (xL3 1 zbX rfl rfl (TL.both3 ?_ ?_ ?_))))
 refine TL.call [] [3] (zdV hl) ⟨rfl,trivial⟩ trivial zgO rfl rfl rfl rfl ?_
 rintro x8 Bs ⟨dn,rfl,hNc,hszc⟩
 refine ⟨rfl,(kL1 rfl trivial),?_⟩
 refine TL.ownW 3 rfl (fun a8 g8 c8 hv8 hc8 ha8=>?_)
 subst hv8
 refine TL.tree (TT.br3 (TL.both3 ?_ ?_ ?_))
 refine TL.mkMA 4 (nmV) (natV) rfl rfl (fun bk4=>⟨(kL1 rfl trivial),?_⟩)
 refine TL.tree (TT.br (TL.both ?_ ?_))
 refine TL.call [] [5] (zbu hl) ⟨rfl,trivial⟩ trivial zcH rfl rfl rfl rfl ?_
 rintro x9 Bs ⟨d,rfl,hN,hsz⟩
 refine ⟨rfl,(kL1 rfl trivial),?_⟩
 refine TL.ownV 5 rfl (fun a9 c9 hv9=>?_)
 subst hv9
 refine TL.tree (TT.fin (TL.bld [.int .i64 0,.int .i64 0,.int .i64 0,.slice none 0 0,.slice none 0 0,.map none,.slice none 0 0] [(.agg _),(.slice _ _ _),(.slice _ _ _),(.map _),_] [_,_,_,_,_,_,_] zbF zdK ⟨rfl,rfl,rfl,rfl,rfl,trivial⟩ ⟨rfl,rfl⟩ rfl rfl (TL.alloc 6 (cs:=#[.int .i64 0,.int .i64 0,.int .i64 0,.slice none 0 0,.slice none 0 0,.map none,.slice none 0 0]) zbF rfl rfl rfl (fun _=>(kL1 rfl trivial)) (fun bk6=>(TL.stW 6 7 [_,_,_,_,_,_,_] rfl rfl rfl rfl rfl rfl zai rfl rfl (kL1 rfl trivial) (dB (xai rfl (dK ?_))))))))
 refine TC.loopK (X:=Nat×List (Nm×Nat)) [4,5] [0,1,2,3,5,6] (fun ⟨i,ps⟩=>[(6,.int .i64 ((i:Nat):Int))]) (fun ⟨i,ps⟩=>[(4,mapA bk4 nmV natV ps)]) (fun ⟨i,ps⟩=>i≤dn.size∧PI l ps i) (fun ⟨i,ps⟩=>dn.size - i) ((0,[])) ⟨Nat.zero_le _,PI.nil⟩ ⟨rfl,trivial⟩ ⟨rfl,trivial⟩ (fun y hI=>?_)
 obtain ⟨i,ps⟩:=y
 obtain ⟨hi,hps⟩:=hI
 replace hi:i≤dn.size:=hi
 replace hps:PI l ps i:=hps
 refine TC.sub (env':=[(6,_),(4,_),(5,_)]) (L':=[(4,_),(0,_),(1,_),(2,_),(3,_),(5,_),(6,_)]) ⟨rfl,rfl,rfl,trivial⟩ ⟨rfl,rfl,rfl,rfl,rfl,rfl,rfl,trivial⟩ (sB (xmi rfl (xf 3 zaD rfl (xls 6 za1 rfl rfl (xz zaf rfl (TL.lss rfl rfl rfl rfl (fun q1=>?_) (fun q1=>?_)))))))
 refine TL.done (TQ.then (TC.condT rfl (TC.skip (TQ.then (TC.seq (TC.block (TC.draw [(0,true),(1,true),(2,true),(3,true),(4,true),(5,true),(6,true),(7,true),(8,false)] [3,6] fc_m (by kernel_rfl) (xf 5 za4 rfl ?_))))))))
 refine TL.ld 6 (.map _) rfl rfl rfl zdb rfl rfl (xf 3 zaD rfl (xls 6 za1 rfl rfl (xmi rfl (TL.iaO rfl ha8 rfl zaf (by omega) rfl rfl (TL.ldRx 3 [_,_,_,_] rfl rfl (zab ha8) (by omega) rfl zaG rfl rfl (xmi rfl (TL.muA 4 (q:=dn[i]!) (b:=i) rfl rfl rfl rfl zaM (zfk) rfl rfl (kL2 rfl rfl trivial) (dI ?_))))))))
 refine xmi rfl (TL.add (((i+1:Nat):Int)) rfl rfl (wrN (by omega)) rfl rfl (xai rfl (TL.done (TQ.roundK ((i+1,_)) ⟨⟨(show i+1≤dn.size by omega),hps.put hl hNc (by omega)⟩,(show dn.size - (i+1)<dn.size - i by omega)⟩ ⟨rfl,trivial⟩ ⟨rfl,trivial⟩ (kE2 rfl rfl trivial) (kL6 rfl rfl rfl rfl rfl rfl trivial)))))
 refine dE rfl (sA (xL7 6 zai rfl rfl (TL.stW 2 7 [_,_,_,_,_,_,_] rfl rfl rfl rfl rfl rfl zai rfl rfl trivial (dR ?_))))
 refine FQ.retG (rs:=[.cell 4 61]) [(.agg _)] (Bs:=[_,_,_]) [0,4,5] rfl ⟨⟨_,_,_,_,_,2,rfl,rfl,.inr ⟨7,[_,_,_,_,_,_,_],zai,rfl,rfl⟩⟩,trivial⟩ rfl rfl ⟨rfl,rfl,rfl,trivial⟩ ?_
 have hi2:(i:Int)=l.cells:=by omega
 rw [hi2] at hps
 exact ⟨_,_,_,_,_,_,_,rfl,rfl,hps,hN,hsz⟩
 refine TL.alloc 7 (cs:=#[.int .i64 0,.int .i64 0,.int .i64 0,.slice none 0 0,.slice none 0 0,.map none,.slice none 0 0]) zbF rfl rfl rfl (fun _=>(kL1 rfl trivial)) (fun bk7=>(TL.tree (TT.fin (TL.call [] [8] (zbu hl) ⟨rfl,trivial⟩ trivial zcH rfl rfl rfl rfl ?_))))
 rintro x9 Bs ⟨d,rfl,hN,hsz⟩
 refine ⟨rfl,(kL1 rfl trivial),?_⟩
 refine TL.ownV 8 rfl (fun a9 c9 hv9=>?_)
 subst hv9
 refine TL.bld [.int .i64 0,.int .i64 0,.int .i64 0,.slice none 0 0,.slice none 0 0,.map none,.slice none 0 0] [(.agg _),(.slice _ _ _),(.slice _ _ _),(.map _),_] [_,_,_,_,_,_,_] zbF zdK ⟨rfl,rfl,rfl,rfl,rfl,trivial⟩ ⟨rfl,rfl⟩ rfl rfl (TL.stW 7 7 [_,_,_,_,_,_,_] rfl rfl rfl rfl rfl rfl zai rfl rfl (kL1 rfl trivial) (dB (xai rfl (dK (TC.loopK (X:=Nat×List (Nm×Nat)) [4,5] [0,1,2,3,7,8] (fun ⟨i,ps⟩=>[(6,.int .i64 ((i:Nat):Int))]) (fun ⟨i,ps⟩=>[(4,mapA bk4 nmV natV ps)]) (fun ⟨i,ps⟩=>i≤dn.size∧PI l ps i) (fun ⟨i,ps⟩=>dn.size - i) ((0,[])) ⟨Nat.zero_le _,PI.nil⟩ ⟨rfl,trivial⟩ ⟨rfl,trivial⟩ (fun y hI=>?_))))))
 obtain ⟨i,ps⟩:=y
 obtain ⟨hi,hps⟩:=hI
 replace hi:i≤dn.size:=hi
 replace hps:PI l ps i:=hps
 refine TC.sub (env':=[(6,_),(4,_),(5,_)]) (L':=[(4,_),(0,_),(1,_),(2,_),(3,_),(7,_),(8,_)]) ⟨rfl,rfl,rfl,trivial⟩ ⟨rfl,rfl,rfl,rfl,rfl,rfl,rfl,trivial⟩ (sB (xmi rfl (xf 3 zaD rfl (xls 7 za1 rfl rfl (xz zaf rfl (TL.lss rfl rfl rfl rfl (fun q1=>?_) (fun q1=>?_)))))))
 refine TL.done (TQ.then (TC.condT rfl (TC.skip (TQ.then (TC.seq (TC.block (TC.draw [(0,true),(1,true),(2,true),(3,true),(4,true),(5,true),(6,true),(7,true),(8,false)] [3,7] fc_m (by kernel_rfl) (xf 5 za4 rfl ?_))))))))
 refine TL.ld 7 (.map _) rfl rfl rfl zdb rfl rfl (xf 3 zaD rfl (xls 7 za1 rfl rfl (xmi rfl (TL.iaO rfl ha8 rfl zaf (by omega) rfl rfl (TL.ldRx 3 [_,_,_,_] rfl rfl (zab ha8) (by omega) rfl zaG rfl rfl (xmi rfl (TL.muA 4 (q:=dn[i]!) (b:=i) rfl rfl rfl rfl zaM (zfk) rfl rfl (kL2 rfl rfl trivial) (dI ?_))))))))
 refine xmi rfl (TL.add (((i+1:Nat):Int)) rfl rfl (wrN (by omega)) rfl rfl (xai rfl (TL.done (TQ.roundK ((i+1,_)) ⟨⟨(show i+1≤dn.size by omega),hps.put hl hNc (by omega)⟩,(show dn.size - (i+1)<dn.size - i by omega)⟩ ⟨rfl,trivial⟩ ⟨rfl,trivial⟩ (kE2 rfl rfl trivial) (kL6 rfl rfl rfl rfl rfl rfl trivial)))))
 refine dE rfl (sA (xL7 7 zai rfl rfl (TL.stW 2 7 [_,_,_,_,_,_,_] rfl rfl rfl rfl rfl rfl zai rfl rfl trivial (dR ?_))))
 refine FQ.retG (rs:=[.cell 4 61]) [(.agg _)] (Bs:=[_,_,_]) [0,4,8] rfl ⟨⟨_,_,_,_,_,2,rfl,rfl,.inr ⟨7,[_,_,_,_,_,_,_],zai,rfl,rfl⟩⟩,trivial⟩ rfl rfl ⟨rfl,rfl,rfl,trivial⟩ ?_
 have hi2:(i:Int)=l.cells:=by omega
 rw [hi2] at hps
 exact ⟨_,_,_,_,_,_,_,rfl,rfl,hps,hN,hsz⟩
 refine TL.call [] [9] (zbu hl) ⟨rfl,trivial⟩ trivial zcH rfl rfl rfl rfl ?_
 rintro x9 Bs ⟨d,rfl,hN,hsz⟩
 refine ⟨rfl,(kL1 rfl trivial),?_⟩
 refine TL.ownV 9 rfl (fun a9 c9 hv9=>?_)
 subst hv9
 refine TL.tree (TT.br (TL.both ?_ ?_))
 refine TL.mkMA 10 (nmV) (natV) rfl rfl (fun bk10=>⟨(kL1 rfl trivial),?_⟩)
 refine TL.tree (TT.fin (TL.bld [.int .i64 0,.int .i64 0,.int .i64 0,.slice none 0 0,.slice none 0 0,.map none,.slice none 0 0] [(.agg _),(.slice _ _ _),(.slice _ _ _),(.map _),_] [_,_,_,_,_,_,_] zbF zdK ⟨rfl,rfl,rfl,rfl,rfl,trivial⟩ ⟨rfl,rfl⟩ rfl rfl (TL.alloc 11 (cs:=#[.int .i64 0,.int .i64 0,.int .i64 0,.slice none 0 0,.slice none 0 0,.map none,.slice none 0 0]) zbF rfl rfl rfl (fun _=>(kL1 rfl trivial)) (fun bk11=>(TL.stW 11 7 [_,_,_,_,_,_,_] rfl rfl rfl rfl rfl rfl zai rfl rfl (kL1 rfl trivial) (dB (xai rfl (dK ?_))))))))
 refine TC.loopK (X:=Nat×List (Nm×Nat)) [4,5] [0,1,2,3,9,11] (fun ⟨i,ps⟩=>[(6,.int .i64 ((i:Nat):Int))]) (fun ⟨i,ps⟩=>[(10,mapA bk10 nmV natV ps)]) (fun ⟨i,ps⟩=>i≤dn.size∧PI l ps i) (fun ⟨i,ps⟩=>dn.size - i) ((0,[])) ⟨Nat.zero_le _,PI.nil⟩ ⟨rfl,trivial⟩ ⟨rfl,trivial⟩ (fun y hI=>?_)
 obtain ⟨i,ps⟩:=y
 obtain ⟨hi,hps⟩:=hI
 replace hi:i≤dn.size:=hi
 replace hps:PI l ps i:=hps
 refine TC.sub (env':=[(6,_),(4,_),(5,_)]) (L':=[(10,_),(0,_),(1,_),(2,_),(3,_),(9,_),(11,_)]) ⟨rfl,rfl,rfl,trivial⟩ ⟨rfl,rfl,rfl,rfl,rfl,rfl,rfl,trivial⟩ (sB (xmi rfl (xf 3 zaD rfl (xls 11 za1 rfl rfl (xz zaf rfl (TL.lss rfl rfl rfl rfl (fun q1=>?_) (fun q1=>?_)))))))
 refine TL.done (TQ.then (TC.condT rfl (TC.skip (TQ.then (TC.seq (TC.block (TC.draw [(0,true),(1,true),(2,true),(3,true),(4,true),(5,true),(6,true),(7,true),(8,false)] [3,11] fc_m (by kernel_rfl) (xf 5 za4 rfl ?_))))))))
 refine TL.ld 11 (.map _) rfl rfl rfl zdb rfl rfl (xf 3 zaD rfl (xls 11 za1 rfl rfl (xmi rfl (TL.iaO rfl ha8 rfl zaf (by omega) rfl rfl (TL.ldRx 3 [_,_,_,_] rfl rfl (zab ha8) (by omega) rfl zaG rfl rfl (xmi rfl (TL.muA 10 (q:=dn[i]!) (b:=i) rfl rfl rfl rfl zaM (zfk) rfl rfl (kL2 rfl rfl trivial) (dI ?_))))))))
 refine xmi rfl (TL.add (((i+1:Nat):Int)) rfl rfl (wrN (by omega)) rfl rfl (xai rfl (TL.done (TQ.roundK ((i+1,_)) ⟨⟨(show i+1≤dn.size by omega),hps.put hl hNc (by omega)⟩,(show dn.size - (i+1)<dn.size - i by omega)⟩ ⟨rfl,trivial⟩ ⟨rfl,trivial⟩ (kE2 rfl rfl trivial) (kL6 rfl rfl rfl rfl rfl rfl trivial)))))
 refine dE rfl (sA (xL7 11 zai rfl rfl (TL.stW 2 7 [_,_,_,_,_,_,_] rfl rfl rfl rfl rfl rfl zai rfl rfl trivial (dR ?_))))
 refine FQ.retG (rs:=[.cell 4 61]) [(.agg _)] (Bs:=[_,_,_]) [0,10,9] rfl ⟨⟨_,_,_,_,_,2,rfl,rfl,.inr ⟨7,[_,_,_,_,_,_,_],zai,rfl,rfl⟩⟩,trivial⟩ rfl rfl ⟨rfl,rfl,rfl,trivial⟩ ?_
 have hi2:(i:Int)=l.cells:=by omega
 rw [hi2] at hps
 exact ⟨_,_,_,_,_,_,_,rfl,rfl,hps,hN,hsz⟩
 refine TL.alloc 12 (cs:=#[.int .i64 0,.int .i64 0,.int .i64 0,.slice none 0 0,.slice none 0 0,.map none,.slice none 0 0]) zbF rfl rfl rfl (fun _=>(kL1 rfl trivial)) (fun bk12=>(TL.tree (TT.fin (TL.mkMA 13 (nmV) (natV) rfl rfl (fun bk13=>⟨(kL1 rfl trivial),?_⟩)))))
 refine TL.bld [.int .i64 0,.int .i64 0,.int .i64 0,.slice none 0 0,.slice none 0 0,.map none,.slice none 0 0] [(.agg _),(.slice _ _ _),(.slice _ _ _),(.map _),_] [_,_,_,_,_,_,_] zbF zdK ⟨rfl,rfl,rfl,rfl,rfl,trivial⟩ ⟨rfl,rfl⟩ rfl rfl (TL.stW 12 7 [_,_,_,_,_,_,_] rfl rfl rfl rfl rfl rfl zai rfl rfl (kL1 rfl trivial) (dB (xai rfl (dK (TC.loopK (X:=Nat×List (Nm×Nat)) [4,5] [0,1,2,3,9,12] (fun ⟨i,ps⟩=>[(6,.int .i64 ((i:Nat):Int))]) (fun ⟨i,ps⟩=>[(13,mapA bk13 nmV natV ps)]) (fun ⟨i,ps⟩=>i≤dn.size∧PI l ps i) (fun ⟨i,ps⟩=>dn.size - i) ((0,[])) ⟨Nat.zero_le _,PI.nil⟩ ⟨rfl,trivial⟩ ⟨rfl,trivial⟩ (fun y hI=>?_))))))
 obtain ⟨i,ps⟩:=y
 obtain ⟨hi,hps⟩:=hI
 replace hi:i≤dn.size:=hi
 replace hps:PI l ps i:=hps
 refine TC.sub (env':=[(6,_),(4,_),(5,_)]) (L':=[(13,_),(0,_),(1,_),(2,_),(3,_),(9,_),(12,_)]) ⟨rfl,rfl,rfl,trivial⟩ ⟨rfl,rfl,rfl,rfl,rfl,rfl,rfl,trivial⟩ (sB (xmi rfl (xf 3 zaD rfl (xls 12 za1 rfl rfl (xz zaf rfl (TL.lss rfl rfl rfl rfl (fun q1=>?_) (fun q1=>?_)))))))
 refine TL.done (TQ.then (TC.condT rfl (TC.skip (TQ.then (TC.seq (TC.block (TC.draw [(0,true),(1,true),(2,true),(3,true),(4,true),(5,true),(6,true),(7,true),(8,false)] [3,12] fc_m (by kernel_rfl) (xf 5 za4 rfl ?_))))))))
 refine TL.ld 12 (.map _) rfl rfl rfl zdb rfl rfl (xf 3 zaD rfl (xls 12 za1 rfl rfl (xmi rfl (TL.iaO rfl ha8 rfl zaf (by omega) rfl rfl (TL.ldRx 3 [_,_,_,_] rfl rfl (zab ha8) (by omega) rfl zaG rfl rfl (xmi rfl (TL.muA 13 (q:=dn[i]!) (b:=i) rfl rfl rfl rfl zaM (zfk) rfl rfl (kL2 rfl rfl trivial) (dI ?_))))))))
 refine xmi rfl (TL.add (((i+1:Nat):Int)) rfl rfl (wrN (by omega)) rfl rfl (xai rfl (TL.done (TQ.roundK ((i+1,_)) ⟨⟨(show i+1≤dn.size by omega),hps.put hl hNc (by omega)⟩,(show dn.size - (i+1)<dn.size - i by omega)⟩ ⟨rfl,trivial⟩ ⟨rfl,trivial⟩ (kE2 rfl rfl trivial) (kL6 rfl rfl rfl rfl rfl rfl trivial)))))
 refine dE rfl (sA (xL7 12 zai rfl rfl (TL.stW 2 7 [_,_,_,_,_,_,_] rfl rfl rfl rfl rfl rfl zai rfl rfl trivial (dR ?_))))
 refine FQ.retG (rs:=[.cell 4 61]) [(.agg _)] (Bs:=[_,_,_]) [0,13,9] rfl ⟨⟨_,_,_,_,_,2,rfl,rfl,.inr ⟨7,[_,_,_,_,_,_,_],zai,rfl,rfl⟩⟩,trivial⟩ rfl rfl ⟨rfl,rfl,rfl,trivial⟩ ?_
 have hi2:(i:Int)=l.cells:=by omega
 rw [hi2] at hps
 exact ⟨_,_,_,_,_,_,_,rfl,rfl,hps,hN,hsz⟩
 refine TL.alloc 14 (cs:=#[.int .i64 0,.int .i64 0,.int .i64 0,.slice none 0 0,.slice none 0 0,.map none,.slice none 0 0]) zbF rfl rfl rfl (fun _=>(kL1 rfl trivial)) (fun bk14=>(TL.tree (TT.br (TL.both ?_ ?_))))
 refine TL.mkMA 15 (nmV) (natV) rfl rfl (fun bk15=>⟨(kL1 rfl trivial),?_⟩)
 refine TL.tree (TT.fin (TL.call [] [16] (zbu hl) ⟨rfl,trivial⟩ trivial zcH rfl rfl rfl rfl ?_))
 rintro x9 Bs ⟨d,rfl,hN,hsz⟩
 refine ⟨rfl,(kL1 rfl trivial),?_⟩
 refine TL.ownV 16 rfl (fun a9 c9 hv9=>?_)
 subst hv9
 refine TL.bld [.int .i64 0,.int .i64 0,.int .i64 0,.slice none 0 0,.slice none 0 0,.map none,.slice none 0 0] [(.agg _),(.slice _ _ _),(.slice _ _ _),(.map _),_] [_,_,_,_,_,_,_] zbF zdK ⟨rfl,rfl,rfl,rfl,rfl,trivial⟩ ⟨rfl,rfl⟩ rfl rfl (TL.stW 14 7 [_,_,_,_,_,_,_] rfl rfl rfl rfl rfl rfl zai rfl rfl (kL1 rfl trivial) (dB (xai rfl (dK (TC.loopK (X:=Nat×List (Nm×Nat)) [4,5] [0,1,2,3,14,16] (fun ⟨i,ps⟩=>[(6,.int .i64 ((i:Nat):Int))]) (fun ⟨i,ps⟩=>[(15,mapA bk15 nmV natV ps)]) (fun ⟨i,ps⟩=>i≤dn.size∧PI l ps i) (fun ⟨i,ps⟩=>dn.size - i) ((0,[])) ⟨Nat.zero_le _,PI.nil⟩ ⟨rfl,trivial⟩ ⟨rfl,trivial⟩ (fun y hI=>?_))))))
 obtain ⟨i,ps⟩:=y
 obtain ⟨hi,hps⟩:=hI
 replace hi:i≤dn.size:=hi
 replace hps:PI l ps i:=hps
 refine TC.sub (env':=[(6,_),(4,_),(5,_)]) (L':=[(15,_),(0,_),(1,_),(2,_),(3,_),(14,_),(16,_)]) ⟨rfl,rfl,rfl,trivial⟩ ⟨rfl,rfl,rfl,rfl,rfl,rfl,rfl,trivial⟩ (sB (xmi rfl (xf 3 zaD rfl (xls 14 za1 rfl rfl (xz zaf rfl (TL.lss rfl rfl rfl rfl (fun q1=>?_) (fun q1=>?_)))))))
 refine TL.done (TQ.then (TC.condT rfl (TC.skip (TQ.then (TC.seq (TC.block (TC.draw [(0,true),(1,true),(2,true),(3,true),(4,true),(5,true),(6,true),(7,true),(8,false)] [3,14] fc_m (by kernel_rfl) (xf 5 za4 rfl ?_))))))))
 refine TL.ld 14 (.map _) rfl rfl rfl zdb rfl rfl (xf 3 zaD rfl (xls 14 za1 rfl rfl (xmi rfl (TL.iaO rfl ha8 rfl zaf (by omega) rfl rfl (TL.ldRx 3 [_,_,_,_] rfl rfl (zab ha8) (by omega) rfl zaG rfl rfl (xmi rfl (TL.muA 15 (q:=dn[i]!) (b:=i) rfl rfl rfl rfl zaM (zfk) rfl rfl (kL2 rfl rfl trivial) (dI ?_))))))))
 refine xmi rfl (TL.add (((i+1:Nat):Int)) rfl rfl (wrN (by omega)) rfl rfl (xai rfl (TL.done (TQ.roundK ((i+1,_)) ⟨⟨(show i+1≤dn.size by omega),hps.put hl hNc (by omega)⟩,(show dn.size - (i+1)<dn.size - i by omega)⟩ ⟨rfl,trivial⟩ ⟨rfl,trivial⟩ (kE2 rfl rfl trivial) (kL6 rfl rfl rfl rfl rfl rfl trivial)))))
 refine dE rfl (sA (xL7 14 zai rfl rfl (TL.stW 2 7 [_,_,_,_,_,_,_] rfl rfl rfl rfl rfl rfl zai rfl rfl trivial (dR ?_))))
 refine FQ.retG (rs:=[.cell 4 61]) [(.agg _)] (Bs:=[_,_,_]) [0,15,16] rfl ⟨⟨_,_,_,_,_,2,rfl,rfl,.inr ⟨7,[_,_,_,_,_,_,_],zai,rfl,rfl⟩⟩,trivial⟩ rfl rfl ⟨rfl,rfl,rfl,trivial⟩ ?_
 have hi2:(i:Int)=l.cells:=by omega
 rw [hi2] at hps
 exact ⟨_,_,_,_,_,_,_,rfl,rfl,hps,hN,hsz⟩
 refine TL.call [] [17] (zbu hl) ⟨rfl,trivial⟩ trivial zcH rfl rfl rfl rfl ?_
 rintro x9 Bs ⟨d,rfl,hN,hsz⟩
 refine ⟨rfl,(kL1 rfl trivial),?_⟩
 refine TL.ownV 17 rfl (fun a9 c9 hv9=>?_)
 subst hv9
 refine TL.tree (TT.fin (TL.mkMA 18 (nmV) (natV) rfl rfl (fun bk18=>⟨(kL1 rfl trivial),?_⟩)))
 refine TL.bld [.int .i64 0,.int .i64 0,.int .i64 0,.slice none 0 0,.slice none 0 0,.map none,.slice none 0 0] [(.agg _),(.slice _ _ _),(.slice _ _ _),(.map _),_] [_,_,_,_,_,_,_] zbF zdK ⟨rfl,rfl,rfl,rfl,rfl,trivial⟩ ⟨rfl,rfl⟩ rfl rfl (TL.stW 14 7 [_,_,_,_,_,_,_] rfl rfl rfl rfl rfl rfl zai rfl rfl (kL1 rfl trivial) (dB (xai rfl (dK (TC.loopK (X:=Nat×List (Nm×Nat)) [4,5] [0,1,2,3,14,17] (fun ⟨i,ps⟩=>[(6,.int .i64 ((i:Nat):Int))]) (fun ⟨i,ps⟩=>[(18,mapA bk18 nmV natV ps)]) (fun ⟨i,ps⟩=>i≤dn.size∧PI l ps i) (fun ⟨i,ps⟩=>dn.size - i) ((0,[])) ⟨Nat.zero_le _,PI.nil⟩ ⟨rfl,trivial⟩ ⟨rfl,trivial⟩ (fun y hI=>?_))))))
 obtain ⟨i,ps⟩:=y
 obtain ⟨hi,hps⟩:=hI
 replace hi:i≤dn.size:=hi
 replace hps:PI l ps i:=hps
 refine TC.sub (env':=[(6,_),(4,_),(5,_)]) (L':=[(18,_),(0,_),(1,_),(2,_),(3,_),(14,_),(17,_)]) ⟨rfl,rfl,rfl,trivial⟩ ⟨rfl,rfl,rfl,rfl,rfl,rfl,rfl,trivial⟩ (sB (xmi rfl (xf 3 zaD rfl (xls 14 za1 rfl rfl (xz zaf rfl (TL.lss rfl rfl rfl rfl (fun q1=>?_) (fun q1=>?_)))))))
 refine TL.done (TQ.then (TC.condT rfl (TC.skip (TQ.then (TC.seq (TC.block (TC.draw [(0,true),(1,true),(2,true),(3,true),(4,true),(5,true),(6,true),(7,true),(8,false)] [3,14] fc_m (by kernel_rfl) (xf 5 za4 rfl ?_))))))))
 refine TL.ld 14 (.map _) rfl rfl rfl zdb rfl rfl (xf 3 zaD rfl (xls 14 za1 rfl rfl (xmi rfl (TL.iaO rfl ha8 rfl zaf (by omega) rfl rfl (TL.ldRx 3 [_,_,_,_] rfl rfl (zab ha8) (by omega) rfl zaG rfl rfl (xmi rfl (TL.muA 18 (q:=dn[i]!) (b:=i) rfl rfl rfl rfl zaM (zfk) rfl rfl (kL2 rfl rfl trivial) (dI ?_))))))))
 refine xmi rfl (TL.add (((i+1:Nat):Int)) rfl rfl (wrN (by omega)) rfl rfl (xai rfl (TL.done (TQ.roundK ((i+1,_)) ⟨⟨(show i+1≤dn.size by omega),hps.put hl hNc (by omega)⟩,(show dn.size - (i+1)<dn.size - i by omega)⟩ ⟨rfl,trivial⟩ ⟨rfl,trivial⟩ (kE2 rfl rfl trivial) (kL6 rfl rfl rfl rfl rfl rfl trivial)))))
 refine dE rfl (sA (xL7 14 zai rfl rfl (TL.stW 2 7 [_,_,_,_,_,_,_] rfl rfl rfl rfl rfl rfl zai rfl rfl trivial (dR ?_))))
 refine FQ.retG (rs:=[.cell 4 61]) [(.agg _)] (Bs:=[_,_,_]) [0,18,17] rfl ⟨⟨_,_,_,_,_,2,rfl,rfl,.inr ⟨7,[_,_,_,_,_,_,_],zai,rfl,rfl⟩⟩,trivial⟩ rfl rfl ⟨rfl,rfl,rfl,trivial⟩ ?_
 have hi2:(i:Int)=l.cells:=by omega
 rw [hi2] at hps
 exact ⟨_,_,_,_,_,_,_,rfl,rfl,hps,hN,hsz⟩
 refine TL.mkMA 19 (nmV) (natV) rfl rfl (fun bk19=>⟨(kL1 rfl trivial),?_⟩)
 refine TL.tree (TT.br (TL.both ?_ ?_))
 refine TL.call [] [20] (zdV hl) ⟨rfl,trivial⟩ trivial zgO rfl rfl rfl rfl ?_
 rintro x8 Bs ⟨dn,rfl,hNc,hszc⟩
 refine ⟨rfl,(kL1 rfl trivial),?_⟩
 refine TL.ownW 20 rfl (fun a8 g8 c8 hv8 hc8 ha8=>?_)
 subst hv8
 refine TL.tree (TT.br (TL.both ?_ ?_))
 refine TL.call [] [21] (zbu hl) ⟨rfl,trivial⟩ trivial zcH rfl rfl rfl rfl ?_
 rintro x9 Bs ⟨d,rfl,hN,hsz⟩
 refine ⟨rfl,(kL1 rfl trivial),?_⟩
 refine TL.ownV 21 rfl (fun a9 c9 hv9=>?_)
 subst hv9
 refine TL.tree (TT.fin (TL.bld [.int .i64 0,.int .i64 0,.int .i64 0,.slice none 0 0,.slice none 0 0,.map none,.slice none 0 0] [(.agg _),(.slice _ _ _),(.slice _ _ _),(.map _),_] [_,_,_,_,_,_,_] zbF zdK ⟨rfl,rfl,rfl,rfl,rfl,trivial⟩ ⟨rfl,rfl⟩ rfl rfl (TL.alloc 22 (cs:=#[.int .i64 0,.int .i64 0,.int .i64 0,.slice none 0 0,.slice none 0 0,.map none,.slice none 0 0]) zbF rfl rfl rfl (fun _=>(kL1 rfl trivial)) (fun bk22=>(TL.stW 22 7 [_,_,_,_,_,_,_] rfl rfl rfl rfl rfl rfl zai rfl rfl (kL1 rfl trivial) (dB (xai rfl (dK ?_))))))))
 refine TC.loopK (X:=Nat×List (Nm×Nat)) [4,5] [0,1,2,20,21,22] (fun ⟨i,ps⟩=>[(6,.int .i64 ((i:Nat):Int))]) (fun ⟨i,ps⟩=>[(19,mapA bk19 nmV natV ps)]) (fun ⟨i,ps⟩=>i≤dn.size∧PI l ps i) (fun ⟨i,ps⟩=>dn.size - i) ((0,[])) ⟨Nat.zero_le _,PI.nil⟩ ⟨rfl,trivial⟩ ⟨rfl,trivial⟩ (fun y hI=>?_)
 obtain ⟨i,ps⟩:=y
 obtain ⟨hi,hps⟩:=hI
 replace hi:i≤dn.size:=hi
 replace hps:PI l ps i:=hps
 refine TC.sub (env':=[(6,_),(4,_),(5,_)]) (L':=[(19,_),(0,_),(1,_),(2,_),(20,_),(21,_),(22,_)]) ⟨rfl,rfl,rfl,trivial⟩ ⟨rfl,rfl,rfl,rfl,rfl,rfl,rfl,trivial⟩ (sB (xmi rfl (xf 3 zaD rfl (xls 22 za1 rfl rfl (xz zaf rfl (TL.lss rfl rfl rfl rfl (fun q1=>?_) (fun q1=>?_)))))))
 refine TL.done (TQ.then (TC.condT rfl (TC.skip (TQ.then (TC.seq (TC.block (TC.draw [(0,true),(1,true),(2,true),(3,true),(4,true),(5,true),(6,true),(7,true),(8,false)] [20,22] fc_m (by kernel_rfl) (xf 5 za4 rfl ?_))))))))
 refine TL.ld 22 (.map _) rfl rfl rfl zdb rfl rfl (xf 3 zaD rfl (xls 22 za1 rfl rfl (xmi rfl (TL.iaO rfl ha8 rfl zaf (by omega) rfl rfl (TL.ldRx 20 [_,_,_,_] rfl rfl (zab ha8) (by omega) rfl zaG rfl rfl (xmi rfl (TL.muA 19 (q:=dn[i]!) (b:=i) rfl rfl rfl rfl zaM (zfk) rfl rfl (kL2 rfl rfl trivial) (dI ?_))))))))
 refine xmi rfl (TL.add (((i+1:Nat):Int)) rfl rfl (wrN (by omega)) rfl rfl (xai rfl (TL.done (TQ.roundK ((i+1,_)) ⟨⟨(show i+1≤dn.size by omega),hps.put hl hNc (by omega)⟩,(show dn.size - (i+1)<dn.size - i by omega)⟩ ⟨rfl,trivial⟩ ⟨rfl,trivial⟩ (kE2 rfl rfl trivial) (kL6 rfl rfl rfl rfl rfl rfl trivial)))))
 refine dE rfl (sA (xL7 22 zai rfl rfl (TL.stW 2 7 [_,_,_,_,_,_,_] rfl rfl rfl rfl rfl rfl zai rfl rfl trivial (dR ?_))))
 refine FQ.retG (rs:=[.cell 4 61]) [(.agg _)] (Bs:=[_,_,_]) [0,19,21] rfl ⟨⟨_,_,_,_,_,2,rfl,rfl,.inr ⟨7,[_,_,_,_,_,_,_],zai,rfl,rfl⟩⟩,trivial⟩ rfl rfl ⟨rfl,rfl,rfl,trivial⟩ ?_
 have hi2:(i:Int)=l.cells:=by omega
 rw [hi2] at hps
 exact ⟨_,_,_,_,_,_,_,rfl,rfl,hps,hN,hsz⟩
 refine TL.alloc 23 (cs:=#[.int .i64 0,.int .i64 0,.int .i64 0,.slice none 0 0,.slice none 0 0,.map none,.slice none 0 0]) zbF rfl rfl rfl (fun _=>(kL1 rfl trivial)) (fun bk23=>(TL.tree (TT.fin (TL.call [] [24] (zbu hl) ⟨rfl,trivial⟩ trivial zcH rfl rfl rfl rfl ?_))))
 rintro x9 Bs ⟨d,rfl,hN,hsz⟩
 refine ⟨rfl,(kL1 rfl trivial),?_⟩
 refine TL.ownV 24 rfl (fun a9 c9 hv9=>?_)
 subst hv9
 refine TL.bld [.int .i64 0,.int .i64 0,.int .i64 0,.slice none 0 0,.slice none 0 0,.map none,.slice none 0 0] [(.agg _),(.slice _ _ _),(.slice _ _ _),(.map _),_] [_,_,_,_,_,_,_] zbF zdK ⟨rfl,rfl,rfl,rfl,rfl,trivial⟩ ⟨rfl,rfl⟩ rfl rfl (TL.stW 23 7 [_,_,_,_,_,_,_] rfl rfl rfl rfl rfl rfl zai rfl rfl (kL1 rfl trivial) (dB (xai rfl (dK (TC.loopK (X:=Nat×List (Nm×Nat)) [4,5] [0,1,2,20,23,24] (fun ⟨i,ps⟩=>[(6,.int .i64 ((i:Nat):Int))]) (fun ⟨i,ps⟩=>[(19,mapA bk19 nmV natV ps)]) (fun ⟨i,ps⟩=>i≤dn.size∧PI l ps i) (fun ⟨i,ps⟩=>dn.size - i) ((0,[])) ⟨Nat.zero_le _,PI.nil⟩ ⟨rfl,trivial⟩ ⟨rfl,trivial⟩ (fun y hI=>?_))))))
 obtain ⟨i,ps⟩:=y
 obtain ⟨hi,hps⟩:=hI
 replace hi:i≤dn.size:=hi
 replace hps:PI l ps i:=hps
 refine TC.sub (env':=[(6,_),(4,_),(5,_)]) (L':=[(19,_),(0,_),(1,_),(2,_),(20,_),(23,_),(24,_)]) ⟨rfl,rfl,rfl,trivial⟩ ⟨rfl,rfl,rfl,rfl,rfl,rfl,rfl,trivial⟩ (sB (xmi rfl (xf 3 zaD rfl (xls 23 za1 rfl rfl (xz zaf rfl (TL.lss rfl rfl rfl rfl (fun q1=>?_) (fun q1=>?_)))))))
 refine TL.done (TQ.then (TC.condT rfl (TC.skip (TQ.then (TC.seq (TC.block (TC.draw [(0,true),(1,true),(2,true),(3,true),(4,true),(5,true),(6,true),(7,true),(8,false)] [20,23] fc_m (by kernel_rfl) (xf 5 za4 rfl ?_))))))))
 refine TL.ld 23 (.map _) rfl rfl rfl zdb rfl rfl (xf 3 zaD rfl (xls 23 za1 rfl rfl (xmi rfl (TL.iaO rfl ha8 rfl zaf (by omega) rfl rfl (TL.ldRx 20 [_,_,_,_] rfl rfl (zab ha8) (by omega) rfl zaG rfl rfl (xmi rfl (TL.muA 19 (q:=dn[i]!) (b:=i) rfl rfl rfl rfl zaM (zfk) rfl rfl (kL2 rfl rfl trivial) (dI ?_))))))))
 refine xmi rfl (TL.add (((i+1:Nat):Int)) rfl rfl (wrN (by omega)) rfl rfl (xai rfl (TL.done (TQ.roundK ((i+1,_)) ⟨⟨(show i+1≤dn.size by omega),hps.put hl hNc (by omega)⟩,(show dn.size - (i+1)<dn.size - i by omega)⟩ ⟨rfl,trivial⟩ ⟨rfl,trivial⟩ (kE2 rfl rfl trivial) (kL6 rfl rfl rfl rfl rfl rfl trivial)))))
 refine dE rfl (sA (xL7 23 zai rfl rfl (TL.stW 2 7 [_,_,_,_,_,_,_] rfl rfl rfl rfl rfl rfl zai rfl rfl trivial (dR ?_))))
 refine FQ.retG (rs:=[.cell 4 61]) [(.agg _)] (Bs:=[_,_,_]) [0,19,24] rfl ⟨⟨_,_,_,_,_,2,rfl,rfl,.inr ⟨7,[_,_,_,_,_,_,_],zai,rfl,rfl⟩⟩,trivial⟩ rfl rfl ⟨rfl,rfl,rfl,trivial⟩ ?_
 have hi2:(i:Int)=l.cells:=by omega
 rw [hi2] at hps
 exact ⟨_,_,_,_,_,_,_,rfl,rfl,hps,hN,hsz⟩
 refine TL.alloc 25 (cs:=#[.int .i64 0,.int .i64 0,.int .i64 0,.slice none 0 0,.slice none 0 0,.map none,.slice none 0 0]) zbF rfl rfl rfl (fun _=>(kL1 rfl trivial)) (fun bk25=>(TL.tree (TT.fin (TL.call [] [26] (zdV hl) ⟨rfl,trivial⟩ trivial zgO rfl rfl rfl rfl ?_))))
 rintro x8 Bs ⟨dn,rfl,hNc,hszc⟩
 refine ⟨rfl,(kL1 rfl trivial),?_⟩
 refine TL.ownW 26 rfl (fun a8 g8 c8 hv8 hc8 ha8=>?_)
 subst hv8
 refine TL.call [] [27] (zbu hl) ⟨rfl,trivial⟩ trivial zcH rfl rfl rfl rfl ?_
 rintro x9 Bs ⟨d,rfl,hN,hsz⟩
 refine ⟨rfl,(kL1 rfl trivial),?_⟩
 refine TL.ownV 27 rfl (fun a9 c9 hv9=>?_)
 subst hv9
 refine TL.bld [.int .i64 0,.int .i64 0,.int .i64 0,.slice none 0 0,.slice none 0 0,.map none,.slice none 0 0] [(.agg _),(.slice _ _ _),(.slice _ _ _),(.map _),_] [_,_,_,_,_,_,_] zbF zdK ⟨rfl,rfl,rfl,rfl,rfl,trivial⟩ ⟨rfl,rfl⟩ rfl rfl (TL.stW 25 7 [_,_,_,_,_,_,_] rfl rfl rfl rfl rfl rfl zai rfl rfl (kL1 rfl trivial) (dB (xai rfl (dK (TC.loopK (X:=Nat×List (Nm×Nat)) [4,5] [0,1,2,25,26,27] (fun ⟨i,ps⟩=>[(6,.int .i64 ((i:Nat):Int))]) (fun ⟨i,ps⟩=>[(19,mapA bk19 nmV natV ps)]) (fun ⟨i,ps⟩=>i≤dn.size∧PI l ps i) (fun ⟨i,ps⟩=>dn.size - i) ((0,[])) ⟨Nat.zero_le _,PI.nil⟩ ⟨rfl,trivial⟩ ⟨rfl,trivial⟩ (fun y hI=>?_))))))
 obtain ⟨i,ps⟩:=y
 obtain ⟨hi,hps⟩:=hI
 replace hi:i≤dn.size:=hi
 replace hps:PI l ps i:=hps
 refine TC.sub (env':=[(6,_),(4,_),(5,_)]) (L':=[(19,_),(0,_),(1,_),(2,_),(25,_),(26,_),(27,_)]) ⟨rfl,rfl,rfl,trivial⟩ ⟨rfl,rfl,rfl,rfl,rfl,rfl,rfl,trivial⟩ (sB (xmi rfl (xf 3 zaD rfl (xls 25 za1 rfl rfl (xz zaf rfl (TL.lss rfl rfl rfl rfl (fun q1=>?_) (fun q1=>?_)))))))
 refine TL.done (TQ.then (TC.condT rfl (TC.skip (TQ.then (TC.seq (TC.block (TC.draw [(0,true),(1,true),(2,true),(3,true),(4,true),(5,true),(6,true),(7,true),(8,false)] [25,26] fc_m (by kernel_rfl) (xf 5 za4 rfl ?_))))))))
 refine TL.ld 25 (.map _) rfl rfl rfl zdb rfl rfl (xf 3 zaD rfl (xls 25 za1 rfl rfl (xmi rfl (TL.iaO rfl ha8 rfl zaf (by omega) rfl rfl (TL.ldRx 26 [_,_,_,_] rfl rfl (zab ha8) (by omega) rfl zaG rfl rfl (xmi rfl (TL.muA 19 (q:=dn[i]!) (b:=i) rfl rfl rfl rfl zaM (zfk) rfl rfl (kL2 rfl rfl trivial) (dI ?_))))))))
 refine xmi rfl (TL.add (((i+1:Nat):Int)) rfl rfl (wrN (by omega)) rfl rfl (xai rfl (TL.done (TQ.roundK ((i+1,_)) ⟨⟨(show i+1≤dn.size by omega),hps.put hl hNc (by omega)⟩,(show dn.size - (i+1)<dn.size - i by omega)⟩ ⟨rfl,trivial⟩ ⟨rfl,trivial⟩ (kE2 rfl rfl trivial) (kL6 rfl rfl rfl rfl rfl rfl trivial)))))
 refine dE rfl (sA (xL7 25 zai rfl rfl (TL.stW 2 7 [_,_,_,_,_,_,_] rfl rfl rfl rfl rfl rfl zai rfl rfl trivial (dR ?_))))
 refine FQ.retG (rs:=[.cell 4 61]) [(.agg _)] (Bs:=[_,_,_]) [0,19,27] rfl ⟨⟨_,_,_,_,_,2,rfl,rfl,.inr ⟨7,[_,_,_,_,_,_,_],zai,rfl,rfl⟩⟩,trivial⟩ rfl rfl ⟨rfl,rfl,rfl,trivial⟩ ?_
 have hi2:(i:Int)=l.cells:=by omega
 rw [hi2] at hps
 exact ⟨_,_,_,_,_,_,_,rfl,rfl,hps,hN,hsz⟩
 refine TL.alloc 28 (cs:=#[.int .i64 0,.int .i64 0,.int .i64 0,.slice none 0 0,.slice none 0 0,.map none,.slice none 0 0]) zbF rfl rfl rfl (fun _=>(kL1 rfl trivial)) (fun bk28=>(TL.tree (TT.br (TL.both ?_ ?_))))
 refine TL.call [] [29] (zdV hl) ⟨rfl,trivial⟩ trivial zgO rfl rfl rfl rfl ?_
 rintro x8 Bs ⟨dn,rfl,hNc,hszc⟩
 refine ⟨rfl,(kL1 rfl trivial),?_⟩
 refine TL.ownW 29 rfl (fun a8 g8 c8 hv8 hc8 ha8=>?_)
 subst hv8
 refine TL.tree (TT.br (TL.both ?_ ?_))
 refine TL.mkMA 30 (nmV) (natV) rfl rfl (fun bk30=>⟨(kL1 rfl trivial),?_⟩)
 refine TL.tree (TT.fin (TL.call [] [31] (zbu hl) ⟨rfl,trivial⟩ trivial zcH rfl rfl rfl rfl ?_))
 rintro x9 Bs ⟨d,rfl,hN,hsz⟩
 refine ⟨rfl,(kL1 rfl trivial),?_⟩
 refine TL.ownV 31 rfl (fun a9 c9 hv9=>?_)
 subst hv9
 refine TL.bld [.int .i64 0,.int .i64 0,.int .i64 0,.slice none 0 0,.slice none 0 0,.map none,.slice none 0 0] [(.agg _),(.slice _ _ _),(.slice _ _ _),(.map _),_] [_,_,_,_,_,_,_] zbF zdK ⟨rfl,rfl,rfl,rfl,rfl,trivial⟩ ⟨rfl,rfl⟩ rfl rfl (TL.stW 28 7 [_,_,_,_,_,_,_] rfl rfl rfl rfl rfl rfl zai rfl rfl (kL1 rfl trivial) (dB (xai rfl (dK (TC.loopK (X:=Nat×List (Nm×Nat)) [4,5] [0,1,2,28,29,31] (fun ⟨i,ps⟩=>[(6,.int .i64 ((i:Nat):Int))]) (fun ⟨i,ps⟩=>[(30,mapA bk30 nmV natV ps)]) (fun ⟨i,ps⟩=>i≤dn.size∧PI l ps i) (fun ⟨i,ps⟩=>dn.size - i) ((0,[])) ⟨Nat.zero_le _,PI.nil⟩ ⟨rfl,trivial⟩ ⟨rfl,trivial⟩ (fun y hI=>?_))))))
 obtain ⟨i,ps⟩:=y
 obtain ⟨hi,hps⟩:=hI
 replace hi:i≤dn.size:=hi
 replace hps:PI l ps i:=hps
 refine TC.sub (env':=[(6,_),(4,_),(5,_)]) (L':=[(30,_),(0,_),(1,_),(2,_),(28,_),(29,_),(31,_)]) ⟨rfl,rfl,rfl,trivial⟩ ⟨rfl,rfl,rfl,rfl,rfl,rfl,rfl,trivial⟩ (sB (xmi rfl (xf 3 zaD rfl (xls 28 za1 rfl rfl (xz zaf rfl (TL.lss rfl rfl rfl rfl (fun q1=>?_) (fun q1=>?_)))))))
 refine TL.done (TQ.then (TC.condT rfl (TC.skip (TQ.then (TC.seq (TC.block (TC.draw [(0,true),(1,true),(2,true),(3,true),(4,true),(5,true),(6,true),(7,true),(8,false)] [28,29] fc_m (by kernel_rfl) (xf 5 za4 rfl ?_))))))))
 refine TL.ld 28 (.map _) rfl rfl rfl zdb rfl rfl (xf 3 zaD rfl (xls 28 za1 rfl rfl (xmi rfl (TL.iaO rfl ha8 rfl zaf (by omega) rfl rfl (TL.ldRx 29 [_,_,_,_] rfl rfl (zab ha8) (by omega) rfl zaG rfl rfl (xmi rfl (TL.muA 30 (q:=dn[i]!) (b:=i) rfl rfl rfl rfl zaM (zfk) rfl rfl (kL2 rfl rfl trivial) (dI ?_))))))))
 refine xmi rfl (TL.add (((i+1:Nat):Int)) rfl rfl (wrN (by omega)) rfl rfl (xai rfl (TL.done (TQ.roundK ((i+1,_)) ⟨⟨(show i+1≤dn.size by omega),hps.put hl hNc (by omega)⟩,(show dn.size - (i+1)<dn.size - i by omega)⟩ ⟨rfl,trivial⟩ ⟨rfl,trivial⟩ (kE2 rfl rfl trivial) (kL6 rfl rfl rfl rfl rfl rfl trivial)))))
 refine dE rfl (sA (xL7 28 zai rfl rfl (TL.stW 2 7 [_,_,_,_,_,_,_] rfl rfl rfl rfl rfl rfl zai rfl rfl trivial (dR ?_))))
 refine FQ.retG (rs:=[.cell 4 61]) [(.agg _)] (Bs:=[_,_,_]) [0,30,31] rfl ⟨⟨_,_,_,_,_,2,rfl,rfl,.inr ⟨7,[_,_,_,_,_,_,_],zai,rfl,rfl⟩⟩,trivial⟩ rfl rfl ⟨rfl,rfl,rfl,trivial⟩ ?_
 have hi2:(i:Int)=l.cells:=by omega
 rw [hi2] at hps
 exact ⟨_,_,_,_,_,_,_,rfl,rfl,hps,hN,hsz⟩
 refine TL.call [] [32] (zbu hl) ⟨rfl,trivial⟩ trivial zcH rfl rfl rfl rfl ?_
 rintro x9 Bs ⟨d,rfl,hN,hsz⟩
 refine ⟨rfl,(kL1 rfl trivial),?_⟩
 refine TL.ownV 32 rfl (fun a9 c9 hv9=>?_)
 subst hv9
 refine TL.tree (TT.fin (TL.mkMA 33 (nmV) (natV) rfl rfl (fun bk33=>⟨(kL1 rfl trivial),?_⟩)))
 refine TL.bld [.int .i64 0,.int .i64 0,.int .i64 0,.slice none 0 0,.slice none 0 0,.map none,.slice none 0 0] [(.agg _),(.slice _ _ _),(.slice _ _ _),(.map _),_] [_,_,_,_,_,_,_] zbF zdK ⟨rfl,rfl,rfl,rfl,rfl,trivial⟩ ⟨rfl,rfl⟩ rfl rfl (TL.stW 28 7 [_,_,_,_,_,_,_] rfl rfl rfl rfl rfl rfl zai rfl rfl (kL1 rfl trivial) (dB (xai rfl (dK (TC.loopK (X:=Nat×List (Nm×Nat)) [4,5] [0,1,2,28,29,32] (fun ⟨i,ps⟩=>[(6,.int .i64 ((i:Nat):Int))]) (fun ⟨i,ps⟩=>[(33,mapA bk33 nmV natV ps)]) (fun ⟨i,ps⟩=>i≤dn.size∧PI l ps i) (fun ⟨i,ps⟩=>dn.size - i) ((0,[])) ⟨Nat.zero_le _,PI.nil⟩ ⟨rfl,trivial⟩ ⟨rfl,trivial⟩ (fun y hI=>?_))))))
 obtain ⟨i,ps⟩:=y
 obtain ⟨hi,hps⟩:=hI
 replace hi:i≤dn.size:=hi
 replace hps:PI l ps i:=hps
 refine TC.sub (env':=[(6,_),(4,_),(5,_)]) (L':=[(33,_),(0,_),(1,_),(2,_),(28,_),(29,_),(32,_)]) ⟨rfl,rfl,rfl,trivial⟩ ⟨rfl,rfl,rfl,rfl,rfl,rfl,rfl,trivial⟩ (sB (xmi rfl (xf 3 zaD rfl (xls 28 za1 rfl rfl (xz zaf rfl (TL.lss rfl rfl rfl rfl (fun q1=>?_) (fun q1=>?_)))))))
 refine TL.done (TQ.then (TC.condT rfl (TC.skip (TQ.then (TC.seq (TC.block (TC.draw [(0,true),(1,true),(2,true),(3,true),(4,true),(5,true),(6,true),(7,true),(8,false)] [28,29] fc_m (by kernel_rfl) (xf 5 za4 rfl ?_))))))))
 refine TL.ld 28 (.map _) rfl rfl rfl zdb rfl rfl (xf 3 zaD rfl (xls 28 za1 rfl rfl (xmi rfl (TL.iaO rfl ha8 rfl zaf (by omega) rfl rfl (TL.ldRx 29 [_,_,_,_] rfl rfl (zab ha8) (by omega) rfl zaG rfl rfl (xmi rfl (TL.muA 33 (q:=dn[i]!) (b:=i) rfl rfl rfl rfl zaM (zfk) rfl rfl (kL2 rfl rfl trivial) (dI ?_))))))))
 refine xmi rfl (TL.add (((i+1:Nat):Int)) rfl rfl (wrN (by omega)) rfl rfl (xai rfl (TL.done (TQ.roundK ((i+1,_)) ⟨⟨(show i+1≤dn.size by omega),hps.put hl hNc (by omega)⟩,(show dn.size - (i+1)<dn.size - i by omega)⟩ ⟨rfl,trivial⟩ ⟨rfl,trivial⟩ (kE2 rfl rfl trivial) (kL6 rfl rfl rfl rfl rfl rfl trivial)))))
 refine dE rfl (sA (xL7 28 zai rfl rfl (TL.stW 2 7 [_,_,_,_,_,_,_] rfl rfl rfl rfl rfl rfl zai rfl rfl trivial (dR ?_))))
 refine FQ.retG (rs:=[.cell 4 61]) [(.agg _)] (Bs:=[_,_,_]) [0,33,32] rfl ⟨⟨_,_,_,_,_,2,rfl,rfl,.inr ⟨7,[_,_,_,_,_,_,_],zai,rfl,rfl⟩⟩,trivial⟩ rfl rfl ⟨rfl,rfl,rfl,trivial⟩ ?_
 have hi2:(i:Int)=l.cells:=by omega
 rw [hi2] at hps
 exact ⟨_,_,_,_,_,_,_,rfl,rfl,hps,hN,hsz⟩
 refine TL.mkMA 34 (nmV) (natV) rfl rfl (fun bk34=>⟨(kL1 rfl trivial),?_⟩)
 refine TL.tree (TT.fin (TL.call [] [35] (zdV hl) ⟨rfl,trivial⟩ trivial zgO rfl rfl rfl rfl ?_))
 rintro x8 Bs ⟨dn,rfl,hNc,hszc⟩
 refine ⟨rfl,(kL1 rfl trivial),?_⟩
 refine TL.ownW 35 rfl (fun a8 g8 c8 hv8 hc8 ha8=>?_)
 subst hv8
 refine TL.call [] [36] (zbu hl) ⟨rfl,trivial⟩ trivial zcH rfl rfl rfl rfl ?_
 rintro x9 Bs ⟨d,rfl,hN,hsz⟩
 refine ⟨rfl,(kL1 rfl trivial),?_⟩
 refine TL.ownV 36 rfl (fun a9 c9 hv9=>?_)
 subst hv9
 refine TL.bld [.int .i64 0,.int .i64 0,.int .i64 0,.slice none 0 0,.slice none 0 0,.map none,.slice none 0 0] [(.agg _),(.slice _ _ _),(.slice _ _ _),(.map _),_] [_,_,_,_,_,_,_] zbF zdK ⟨rfl,rfl,rfl,rfl,rfl,trivial⟩ ⟨rfl,rfl⟩ rfl rfl (TL.stW 28 7 [_,_,_,_,_,_,_] rfl rfl rfl rfl rfl rfl zai rfl rfl (kL1 rfl trivial) (dB (xai rfl (dK (TC.loopK (X:=Nat×List (Nm×Nat)) [4,5] [0,1,2,28,35,36] (fun ⟨i,ps⟩=>[(6,.int .i64 ((i:Nat):Int))]) (fun ⟨i,ps⟩=>[(34,mapA bk34 nmV natV ps)]) (fun ⟨i,ps⟩=>i≤dn.size∧PI l ps i) (fun ⟨i,ps⟩=>dn.size - i) ((0,[])) ⟨Nat.zero_le _,PI.nil⟩ ⟨rfl,trivial⟩ ⟨rfl,trivial⟩ (fun y hI=>?_))))))
 obtain ⟨i,ps⟩:=y
 obtain ⟨hi,hps⟩:=hI
 replace hi:i≤dn.size:=hi
 replace hps:PI l ps i:=hps
 refine TC.sub (env':=[(6,_),(4,_),(5,_)]) (L':=[(34,_),(0,_),(1,_),(2,_),(28,_),(35,_),(36,_)]) ⟨rfl,rfl,rfl,trivial⟩ ⟨rfl,rfl,rfl,rfl,rfl,rfl,rfl,trivial⟩ (sB (xmi rfl (xf 3 zaD rfl (xls 28 za1 rfl rfl (xz zaf rfl (TL.lss rfl rfl rfl rfl (fun q1=>?_) (fun q1=>?_)))))))
 refine TL.done (TQ.then (TC.condT rfl (TC.skip (TQ.then (TC.seq (TC.block (TC.draw [(0,true),(1,true),(2,true),(3,true),(4,true),(5,true),(6,true),(7,true),(8,false)] [28,35] fc_m (by kernel_rfl) (xf 5 za4 rfl ?_))))))))
 refine TL.ld 28 (.map _) rfl rfl rfl zdb rfl rfl (xf 3 zaD rfl (xls 28 za1 rfl rfl (xmi rfl (TL.iaO rfl ha8 rfl zaf (by omega) rfl rfl (TL.ldRx 35 [_,_,_,_] rfl rfl (zab ha8) (by omega) rfl zaG rfl rfl (xmi rfl (TL.muA 34 (q:=dn[i]!) (b:=i) rfl rfl rfl rfl zaM (zfk) rfl rfl (kL2 rfl rfl trivial) (dI ?_))))))))
 refine xmi rfl (TL.add (((i+1:Nat):Int)) rfl rfl (wrN (by omega)) rfl rfl (xai rfl (TL.done (TQ.roundK ((i+1,_)) ⟨⟨(show i+1≤dn.size by omega),hps.put hl hNc (by omega)⟩,(show dn.size - (i+1)<dn.size - i by omega)⟩ ⟨rfl,trivial⟩ ⟨rfl,trivial⟩ (kE2 rfl rfl trivial) (kL6 rfl rfl rfl rfl rfl rfl trivial)))))
 refine dE rfl (sA (xL7 28 zai rfl rfl (TL.stW 2 7 [_,_,_,_,_,_,_] rfl rfl rfl rfl rfl rfl zai rfl rfl trivial (dR ?_))))
 refine FQ.retG (rs:=[.cell 4 61]) [(.agg _)] (Bs:=[_,_,_]) [0,34,36] rfl ⟨⟨_,_,_,_,_,2,rfl,rfl,.inr ⟨7,[_,_,_,_,_,_,_],zai,rfl,rfl⟩⟩,trivial⟩ rfl rfl ⟨rfl,rfl,rfl,trivial⟩ ?_
 have hi2:(i:Int)=l.cells:=by omega
 rw [hi2] at hps
 exact ⟨_,_,_,_,_,_,_,rfl,rfl,hps,hN,hsz⟩
set_option maxHeartbeats 1000000 in
theorem zd5 {l:Lay} (hl:l.Ok) {σ:M} {nv:Value} {ca xa:Option Addr} {mr bc offc cn cc bx offx xn xc:Nat} {Acl Ax:Assn} {fc:Nat→Int} {fx:Nat→Nm} {ps:List (Nm×Nat)} (hB:BookOk l σ ca bc offc cn Acl fc xa bx offx xn Ax fx ps) {g:G} (hE:EdgeOk l σ g)  : Go.Eng.Fn Tryz.prog 22 [.agg #[.int .i64 l.V,.int .i64 l.S,.int .i64 l.T,nv,.slice ca cn cc,.map (some mr),.slice xa xn xc]] [Acl,mapA mr nmV natV ps,Ax] (fun x Bs=>∃ v E,x=.tuple #[v,.bool true]∧Bs=[Acl,mapA mr nmV natV ps,Ax,ownA encE 5 65 v E]∧Mt g E):=by
 have hcn:=hB.hcn
 have hxn:=hB.hxn
 have hnb:=zaz hl
 have hcb:=zaO hl
 have lb:=zb9 hl
 have hb:=zaU hl
 refine Fn.enter (Tryz.func22) rfl rfl (fun w0 R=>?_)
 refine sA (xB 3 rfl (fun bk3=>(TL.asg (.slice none 0 0) rfl rfl rfl (xaf rfl (dA (TL.asg (.slice none 0 0) rfl rfl rfl (dS (TC.seq (TC.nilA 4 (A:=ownA encE 5 65 (.slice none 0 0) #[]) (.inl ⟨rfl,rfl⟩) ?_)))))))))
 refine TC.region (xai rfl (dK (TC.loopK (X:=Nat×Value×Array EdR) [1] [0,1,2,3] (fun ⟨u,w,d⟩=>[(5,.int .i64 ((u:Nat):Int)),(4,w)]) (fun ⟨u,w,d⟩=>[(4,ownA encE 5 65 w d)]) (fun ⟨u,w,d⟩=>u≤l.V∧MtP g d (bef u (u+1))) (fun ⟨u,w,d⟩=>l.V - u) ((0,_,#[])) ⟨Nat.zero_le _,MtP.start hl hE⟩ ⟨rfl,rfl,trivial⟩ ⟨rfl,trivial⟩ (fun y hI=>?_))))
 obtain ⟨u,w,d⟩:=y
 obtain ⟨hu,hM⟩:=hI
 replace hu:u≤l.V:=hu
 replace hM:MtP g d (bef u (u+1)):=hM
 refine TC.sub (env':=[(5,_),(4,_),(1,_)]) (L':=[(4,_),(0,_),(1,_),(2,_),(3,_)]) ⟨rfl,rfl,rfl,trivial⟩ ⟨rfl,rfl,rfl,rfl,rfl,trivial⟩ (sB (xmi rfl (xf 0 zbh rfl (xf 0 zbn rfl (xli 3 zaa rfl rfl (TL.lss rfl rfl rfl rfl (fun q1=>?_) (fun q1=>?_)))))))
 refine TL.done (TQ.then (TC.condT rfl (TC.skip (TQ.then (TC.seq (TC.block (sA (xmi rfl ?_))))))))
 refine TL.add (((u+1:Nat):Int)) rfl rfl (wrN (by omega)) rfl rfl (xai rfl (dK (TC.loopK (X:=Nat×Value×Array EdR) [1,5] [0,1,2,3] (fun ⟨v,w,d⟩=>[(6,.int .i64 ((v:Nat):Int)),(4,w)]) (fun ⟨v,w,d⟩=>[(4,ownA encE 5 65 w d)]) (fun ⟨v,w,d⟩=>(u+1≤v∧v≤l.V)∧MtP g d (bef u v)) (fun ⟨v,w,d⟩=>l.V - v) ((u+1,_,d)) ⟨⟨Nat.le_refl _,by omega⟩,by simpa using hM⟩ ⟨rfl,rfl,trivial⟩ ⟨rfl,trivial⟩ (fun y hI=>?_))))
 obtain ⟨v,w,d⟩:=y
 obtain ⟨hv,hM⟩:=hI
 replace hv:u+1≤v∧v≤l.V:=hv
 replace hM:MtP g d (bef u v):=hM
 refine TC.sub (env':=[(6,_),(4,_),(1,_),(5,_)]) (L':=[(4,_),(0,_),(1,_),(2,_),(3,_)]) ⟨rfl,rfl,rfl,rfl,trivial⟩ ⟨rfl,rfl,rfl,rfl,rfl,trivial⟩ (sB (xmi rfl (xf 0 zbh rfl (xf 0 zbn rfl (xli 3 zaa rfl rfl (TL.lss rfl rfl rfl rfl (fun q2=>?_) (fun q2=>?_)))))))
 refine TL.done (TQ.then (TC.condT rfl (TC.skip (TQ.then (TC.seq (TC.block (sA (xL7 3 zai rfl rfl ?_))))))))
 refine xmi rfl (xmi rfl (TL.callD [0,1,2] [0,1,2] (zdh hl hB) ⟨rfl,rfl,rfl,rfl,trivial⟩ ⟨rfl,rfl,rfl,trivial⟩ zdd rfl rfl rfl rfl rfl trivial (xai rfl (dB (xmi rfl (TL.eql rfl rfl rfl rfl (fun q3=>?_) (fun q3=>?_)))))))
 refine TL.done (TQ.then (TC.condT rfl (TC.exit (TQ.thenExit (TQ.blockHere (TQ.then (TC.region (xmi rfl ?_))))))))
 refine TL.add (((v+1:Nat):Int)) rfl rfl (wrN (by omega)) rfl rfl (xai rfl (TL.done (TQ.roundK ((v+1,_,_)) ⟨⟨(show u+1≤v+1∧v+1≤l.V by omega),(by have:=hM.skip hl (zqi hl hE (u:=(u:Int)) (v:=(v:Int)) (by omega) (by omega) (by assumption)); simpa using this)⟩,(show l.V - (v+1)<l.V - v by omega)⟩ ⟨rfl,rfl,trivial⟩ ⟨rfl,trivial⟩ (kE2 rfl rfl trivial) (kL4 rfl rfl rfl rfl trivial))))
 refine TL.done (TQ.then (TC.condF rfl (TC.skip (TQ.then (TC.seq ?_)))))
 obtain ⟨s,hs1,hs2,hs3,hs4,hs5,hs6,hs7,hs8,hs9,hs10⟩:=zqh hl hE (u:=(u:Int)) (v:=(v:Int)) (by omega) (by omega) (by assumption)
 rw [hs4]
 refine TC.region (xmi rfl (TL.quo _ rfl rfl (by omega) (edq (by omega) hs9) rfl rfl (TL.conv _ rfl zbb zaI (wr64 (by omega)) rfl rfl (TL.sub _ rfl rfl (eds (by omega)) rfl rfl (xai rfl (dS (TC.seq (TC.draw [(0,true),(1,true),(2,true),(3,true),(4,true),(5,true),(6,true),(7,true),(8,true),(9,true),(10,true),(11,true),(13,true),(14,true),(15,true),(16,true),(17,true),(12,false),(18,true),(19,true),(20,true),(21,true),(22,true),(24,true),(25,true),(23,false),(26,false),(27,true),(28,true),(29,true)] [3] fc_m (by kernel_rfl) ?_))))))))
 refine xmi rfl (TL.lssF rfl rfl (by omega) rfl rfl (xmf rfl (xmi rfl (xf 0 zbh rfl (xf 1 zbO rfl (xli 3 zaa rfl rfl (TL.geqF rfl rfl (by omega) rfl rfl (xpF rfl ?_))))))))
 refine xmf rfl (xL7 3 zai rfl rfl (xmi rfl (xmi rfl (TL.mul _ rfl rfl (wr64 (by omega)) rfl rfl (xmi rfl (TL.add _ rfl rfl (wr64 (by omega)) rfl rfl (TL.conv _ rfl zdz zaF (zdL (by omega)) rfl rfl (TL.callD [0,1,2] [0,1,2] (zdh hl hB) ⟨rfl,rfl,rfl,rfl,trivial⟩ ⟨rfl,rfl,rfl,trivial⟩ zdd rfl rfl rfl rfl rfl (kL1 rfl trivial) ?_))))))))
 rw [hs5]
 refine TL.neqF rfl rfl (by omega) rfl rfl (xpF rfl (xmf rfl (xL7 3 zai rfl rfl (xmi rfl (xf 0 zbh rfl (xL3 3 zbX rfl rfl (TL.callD [0,1,2] [0,1,2] (zdh hl hB) ⟨rfl,rfl,rfl,rfl,trivial⟩ ⟨rfl,rfl,rfl,trivial⟩ zdd rfl rfl rfl rfl rfl (kL1 rfl trivial) ?_)))))))
 rw [hs6]
 refine TL.callD [] [] (zb2 hl) ⟨rfl,trivial⟩ trivial zhn rfl rfl rfl rfl rfl (kL1 rfl trivial) (TL.conv _ rfl zdz zaF (zdL (by omega)) rfl rfl (TL.geqF rfl rfl (by omega) rfl rfl (xpF rfl (TL.done (TQ.then (TC.condF rfl (TC.skip (TQ.then ?_))))))))
 refine TC.region (xmv rfl (xmi rfl (xmi rfl (xmi rfl (xL7 3 zai rfl rfl (xmi rfl (TL.callD [0,1,2] [0,1,2] (zdh hl hB) ⟨rfl,rfl,rfl,rfl,trivial⟩ ⟨rfl,rfl,rfl,trivial⟩ zdd rfl rfl rfl rfl rfl trivial ?_)))))))
 rw [hs6]
 refine TL.conv _ rfl zbb zaI (wr64 (by omega)) rfl rfl (xmi rfl (TL.rem _ rfl rfl (by omega) (edr (by omega) hs9) rfl rfl (TL.eqlV rfl rfl rfl rfl (TL.bld [.int .i64 0,.int .i64 0,.int .i64 0,.int .i64 0,.bool false] [(.int _ _),(.int _ _),(.int _ _),(.int _ _),(.bool _)] [_,_,_,_,_] zc0 zmF ⟨rfl,rfl,rfl,rfl,rfl,trivial⟩ ⟨rfl,rfl⟩ rfl rfl (TL.bsN 5 [_] (encE ⟨s,u,v,g.lv s,decide (bit (g.tr s)=1)⟩) zah zc0 ⟨rfl,trivial⟩ rfl (lit1 rfl) rfl rfl (fun bk5=>⟨trivial,?_⟩))))))
 refine TL.appS 4 5 (d2:=#[⟨s,u,v,g.lv s,decide (bit (g.tr s)=1)⟩]) rfl (rfl) rfl (fun _=>rfl) rfl rfl (row1 rfl) zdg (by decide) zbH (by have:=hM.size hl hE; simp; omega) rfl rfl (fun v6=>⟨trivial,?_⟩)
 refine xav rfl (dI (xmi rfl (TL.add (((v+1:Nat):Int)) rfl rfl (wrN (by omega)) rfl rfl (xai rfl (TL.done (TQ.roundK ((v+1,_,_)) ⟨⟨(show u+1≤v+1∧v+1≤l.V by omega),(by have:=hM.push hl hs1 hs2 hs3 rfl bit1 hs10; simpa using this)⟩,(show l.V - (v+1)<l.V - v by omega)⟩ ⟨rfl,rfl,trivial⟩ ⟨rfl,trivial⟩ (kE2 rfl rfl trivial) (kL4 rfl rfl rfl rfl trivial)))))))
 refine TL.done (TQ.then (TC.condF rfl (TC.exit (TQ.thenExit (TQ.thenExit (TQ.blockHere (TQ.inBlock (TQ.then ?_))))))))
 refine TC.region (xmi rfl (TL.add (((u+1:Nat):Int)) rfl rfl (wrN (by omega)) rfl rfl (xai rfl (TL.done (TQ.roundK ((u+1,_,_)) ⟨⟨(show u+1≤l.V by omega),(by have:=hM.row_end hl hE (by omega); simpa using this)⟩,(show l.V - (u+1)<l.V - u by omega)⟩ ⟨rfl,rfl,trivial⟩ ⟨rfl,trivial⟩ (kE1 rfl trivial) (kL4 rfl rfl rfl rfl trivial))))))
 refine dE rfl (sA (xmv rfl (xav rfl (xat rfl (dR ?_)))))
 refine FQ.ret2 (v:=_) (x:=(.bool true)) (Bs:=[_,_,_,_]) [0,1,2,4] rfl rfl rfl rfl ⟨rfl,rfl,rfl,rfl,trivial⟩ ?_
 exact ⟨_,_,rfl,rfl,hM.all hl hE (by omega)⟩
theorem znU {v:Int} (hv:0≤v∧v<18446744073709551616):FnD Tryz.prog 142 [.int .u64 v] [] (.agg #[.int .i64 (v / 65536 % 65536),.int .i64 (v % 65536),.int .i64 (v / 65536 / 65536 % 256),.int .i64 (v / 65536 / 65536 / 256)]) []:=by
 refine Fn.enter (Tryz.func142) rfl rfl (fun w0 R=>?_)
 refine sA (TL.alloc 0 (cs:=#[.int .i64 0,.int .i64 0,.int .i64 0,.int .i64 0]) zjD rfl rfl rfl (fun _=>trivial) (fun bk0=>(dA (xmi rfl (TL.rem _ rfl rfl (by omega) (zjk (by omega)) rfl rfl (TL.conv _ rfl zbb zaI (wr64 (by omega)) rfl rfl (TL.bld [.int .i64 0,.int .i64 0,.int .i64 0,.int .i64 0] [(.int _ _)] [_,_,_,_] zjD zpO ⟨rfl,trivial⟩ ⟨rfl,rfl⟩ rfl rfl (TL.alloc 1 (cs:=#[.int .i64 0,.int .i64 0,.int .i64 0,.int .i64 0]) zjD rfl rfl rfl (fun _=>trivial) (fun bk1=>(TL.stW 1 4 [_,_,_,_] rfl rfl rfl rfl rfl rfl zfp rfl rfl trivial ?_))))))))))
 refine dA (xmi rfl (TL.quo _ rfl rfl (by omega) (quoU (by omega) (by omega) (by omega)) rfl rfl (xai rfl (dA (xmi rfl (TL.rem _ rfl rfl (by omega) (zjk (by omega)) rfl rfl (TL.conv _ rfl zbb zaI (wr64 (by omega)) rfl rfl (xf 0 zjI rfl ?_))))))))
 refine TL.st 1 #[_,_,_,_] (.int _ _) rfl rfl rfl rfl rfl rfl zaa rfl rfl trivial (dA (xmi rfl (TL.quo _ rfl rfl (by omega) (quoU (by omega) (by omega) (by omega)) rfl rfl (xai rfl (dA (xmi rfl (TL.rem _ rfl rfl (by omega) (zjk (by omega)) rfl rfl (TL.conv _ rfl zbb zaI (wr64 (by omega)) rfl rfl ?_))))))))
 refine xf 2 zjH rfl (TL.st 1 #[_,_,_,_] (.int _ _) rfl rfl rfl rfl rfl rfl zaa rfl rfl trivial (dA (xmi rfl (TL.quo _ rfl rfl (by omega) (quoU (by omega) (by omega) (by omega)) rfl rfl (TL.conv _ rfl zbb zaI (wr64 (by omega)) rfl rfl (xf 3 zjG rfl (TL.st 1 #[_,_,_,_] (.int _ _) rfl rfl rfl rfl rfl rfl zaa rfl rfl trivial (dA ?_))))))))
 refine xL4 1 zfp rfl rfl (TL.stW 0 4 [_,_,_,_] rfl rfl rfl rfl rfl rfl zfp rfl rfl trivial (dR ?_))
 refine FQ.retG (rs:=[.cell 2 176]) [(.agg _)] (Bs:=[]) [] rfl ⟨⟨_,_,_,_,_,0,rfl,rfl,.inr ⟨4,[_,_,_,_],zfp,rfl,rfl⟩⟩,trivial⟩ rfl rfl trivial ?_
 exact ⟨rfl,rfl⟩
theorem zhr {l:Lay} (hl:l.Ok) {σ:M} {nv:Value} {ca xa:Option Addr} {mr bc offc cn cc bx offx xn xc:Nat} {Acl Ax:Assn} {fc:Nat→Int} {fx:Nat→Nm} {ps:List (Nm×Nat)} (hB:BookOk l σ ca bc offc cn Acl fc xa bx offx xn Ax fx ps) {mk pr:Int→Int} {F:Int→T} (hF:Forest l pr mk σ F) {x i:Int} (hx:l.nd x) (hi:(l.node x).1.level=i):FnD Tryz.prog 114 [.agg #[.int .i64 l.V,.int .i64 l.S,.int .i64 l.T,nv,.slice ca cn cc,.map (some mr),.slice xa xn xc],.int .i64 x,.int .i64 i] [Acl,mapA mr nmV natV ps,Ax] (.int .i64 (parent l σ x)) [Acl,mapA mr nmV natV ps,Ax]:=by
 have hcn:=hB.hcn
 have hxn:=hB.hxn
 have hnb:=zaz hl
 have hcb:=zaO hl
 refine Fn.enter (Tryz.func114) rfl rfl (fun w0 R=>?_)
 refine sA (xB 3 rfl (fun bk3=>(xai rfl (dA (xL7 3 zai rfl rfl (xmi rfl (TL.callD [0,1,2] [0,1,2] (zdh hl hB) ⟨rfl,rfl,rfl,rfl,trivial⟩ ⟨rfl,rfl,rfl,trivial⟩ zdd rfl rfl rfl rfl rfl trivial ?_)))))))
 rw [zgU hl hx (by decide)]
 have hrg:=zjA σ (l.field x 2)
 refine xai rfl (dB (xmi rfl (TL.eql rfl rfl rfl rfl (fun q1=>?_) (fun q1=>?_))))
 refine dT rfl (xmi rfl (TL.callD [] [] (znU hrg) ⟨rfl,trivial⟩ trivial zp2 rfl rfl rfl rfl rfl trivial (TL.fv 1 3 (.int _ _) rfl zh7 zaa rfl rfl rfl (xai rfl (dRR ?_)))))
 refine FQ.ret1 (v:=(.int _ _)) (Bs:=[_,_,_]) [0,1,2] rfl rfl rfl ⟨rfl,rfl,rfl,trivial⟩ ?_
 exact ⟨iE (par0 hl hF hx (by omega)),rfl⟩
 refine dF rfl (xmi rfl (TL.conv _ rfl zbb zaI (rfl) rfl rfl (xai rfl (dR ?_))))
 refine FQ.ret1 (v:=(.int _ _)) (Bs:=[_,_,_]) [0,1,2] rfl rfl rfl ⟨rfl,rfl,rfl,trivial⟩ ?_
 exact ⟨iE (par1 hl hF hx (by omega)),rfl⟩
theorem zhM {n:Nm}:FnD Tryz.prog 113 [nmV n] [] (.int .i64 (if n.k=1 then n.a else n.b)) []:=by
 refine Fn.enter (Tryz.func113) rfl rfl (fun w0 R=>?_)
 refine sA (xB 0 rfl (fun bk0=>(xai rfl (dB (xf 0 zcw rfl (xli 0 zaa rfl rfl (TL.eql rfl rfl rfl rfl (fun q1=>?_) (fun q1=>?_))))))))
 refine dT rfl (xf 1 zeQ rfl (xli 0 zaa rfl rfl (xai rfl (dRR ?_))))
 refine FQ.ret1 (v:=(.int _ _)) (Bs:=[]) [] rfl rfl rfl trivial ?_
 first | exact ⟨iE (if_pos (by assumption)).symm,rfl⟩ | exact ⟨iE (if_neg (by assumption)).symm,rfl⟩
 refine dF rfl (xf 2 zc3 rfl (xli 0 zaa rfl rfl (xai rfl (dR ?_))))
 refine FQ.ret1 (v:=(.int _ _)) (Bs:=[]) [] rfl rfl rfl trivial ?_
 first | exact ⟨iE (if_pos (by assumption)).symm,rfl⟩ | exact ⟨iE (if_neg (by assumption)).symm,rfl⟩
theorem zfs {l:Lay} (hl:l.Ok) {σ:M} {nv:Value} {ca xa:Option Addr} {mr bc offc cn cc bx offx xn xc:Nat} {Acl Ax:Assn} {fc:Nat→Int} {fx:Nat→Nm} {ps:List (Nm×Nat)} (hB:BookOk l σ ca bc offc cn Acl fc xa bx offx xn Ax fx ps) {n:Nm} {x:Int} (hn:NmOk l n x):FnD Tryz.prog 112 [.agg #[.int .i64 l.V,.int .i64 l.S,.int .i64 l.T,nv,.slice ca cn cc,.map (some mr),.slice xa xn xc],nmV n] [Acl,mapA mr nmV natV ps,Ax] (.int .i64 x) [Acl,mapA mr nmV natV ps,Ax]:=by
 have hcn:=hB.hcn
 have hxn:=hB.hxn
 have hnb:=zaz hl
 have hcb:=zaO hl
 refine Fn.enter (Tryz.func112) rfl rfl (fun w0 R=>?_)
 refine sA (xB 3 rfl (fun bk3=>(xB 4 rfl (fun bk4=>(xai rfl (dA (xf 6 zby rfl (xls 3 za1 rfl rfl (xas rfl (dB ?_))))))))))
 refine xai rfl (dK (TC.loopK (X:=Nat) [3,5] [0,1,2,3,4] (fun i=>[(6,.int .i64 ((i:Nat):Int))]) (fun i=>[]) (fun i=>i≤xn∧∀ j,j<i→fx j≠n) (fun i=>xn - i) (0) ⟨Nat.zero_le _,fun j hj=>absurd hj (Nat.not_lt_zero j)⟩ ⟨rfl,trivial⟩ trivial (fun i hI=>?_)))
 obtain ⟨hi,hno⟩:=hI
 refine TC.sub (env':=[(6,_),(3,_),(5,_)]) (L':=[(0,_),(1,_),(2,_),(3,_),(4,_)]) ⟨rfl,rfl,rfl,trivial⟩ ⟨rfl,rfl,rfl,rfl,rfl,trivial⟩ (sB (xmi rfl (xms rfl (xz zaf rfl (TL.lss rfl rfl rfl rfl (fun q1=>?_) (fun q1=>?_))))))
 refine TL.done (TQ.then (TC.condT rfl (TC.skip (TQ.then (TC.seq (TC.block (TC.seq (TC.draw [(0,true),(1,true),(2,true),(3,true),(4,true),(5,true)] [2,4] fc_m (by kernel_rfl) ?_))))))))
 refine xms rfl (xmi rfl (TL.iaO rfl hB.hx rfl zaf (by omega) rfl rfl (TL.ldRx 2 [_,_,_,_] rfl rfl hB.hX (by omega) rfl zaG rfl rfl (xL4 4 zaG rfl rfl (TL.eqlA rfl rfl (zqG (by kernel_rfl) (fx i) n) zoe rfl rfl (TL.cases rfl (fun q2=>?_) (fun q2=>?_)))))))
 refine dT rfl (xmi rfl (TL.add (((i+1:Nat):Int)) rfl rfl (wrN (by omega)) rfl rfl (xai rfl (dR (TQ.blockRet (TQ.thenRet (TQ.thenRet (TQ.blockRet ?_))))))))
 refine TQ.thenRet ?_
 refine FQ.ret1 (v:=(.int _ _)) (Bs:=[_,_,_]) [0,1,2] rfl rfl rfl ⟨rfl,rfl,rfl,trivial⟩ ?_
 have he:=of_decide_eq_true q2; have h1:=hB.hfx i (by omega); rw [he] at h1; exact ⟨iE (by have:=h1.fun hl hn; omega),rfl⟩
 refine TL.done (TQ.then (TC.condF rfl (TC.skip (TQ.inBlock (TQ.then (TC.region (xmi rfl (TL.add (((i+1:Nat):Int)) rfl rfl (wrN (by omega)) rfl rfl ?_))))))))
 refine xai rfl (TL.done (TQ.roundK (i+1) ⟨⟨by omega,fun j hj he=>if hji:j=i then (by subst hji; rw [he] at q2; simp at q2) else hno j (by omega) he⟩,by omega⟩ ⟨rfl,trivial⟩ trivial (kE2 rfl rfl trivial) (kL5 rfl rfl rfl rfl rfl trivial)))
 refine dE rfl (sA (xai rfl (dR ?_)))
 refine FQ.ret1 (v:=(.int _ _)) (Bs:=[_,_,_]) [0,1,2] rfl rfl rfl ⟨rfl,rfl,rfl,trivial⟩ ?_
 exfalso; have hnd:=hn.nd hl; have h1:=hnd.1; have h2:=hnd.2; have h3:=hB.hfx (x - 1).toNat (by omega); rw [show (((x - 1).toNat:Nat):Int)+1=x by omega] at h3; exact hno _ (by omega) (h3.inj hl hn)
theorem zqf {l:Lay} (hl:l.Ok) {σ:M} {nv:Value} {ca xa:Option Addr} {mr bc offc cn cc bx offx xn xc:Nat} {Acl Ax:Assn} {fc:Nat→Int} {fx:Nat→Nm} {ps:List (Nm×Nat)} (hB:BookOk l σ ca bc offc cn Acl fc xa bx offx xn Ax fx ps) {mk:Int→Int} {k:Nat} {t:T} {dep:Int} (hr:repU l mk σ t) (hk:t.size<k) (h0:0≤dep) (hd:dep+t.size≤l.nodes):Go.Eng.Fn Tryz.prog 115 [.agg #[.int .i64 l.V,.int .i64 l.S,.int .i64 l.T,nv,.slice ca cn cc,.map (some mr),.slice xa xn xc],.int .i64 t.root,.int .i64 dep] [Acl,mapA mr nmV natV ps,Ax] (fun x Bs=>∃ v,x=.tuple #[v,.bool true]∧Bs=[Acl,mapA mr nmV natV ps,Ax,ownA encI 1 3 v t.list.toArray]):=by
 have hcn:=hB.hcn
 have hxn:=hB.hxn
 have hnb:=zaz hl
 have hcb:=zaO hl
 induction k generalizing t dep
 case zero=>omega
 case succ k ih =>
  refine Fn.enter (Tryz.func115) rfl rfl (fun w0 R=>?_)
  refine sA (xB 3 rfl (fun bk3=>(TL.asg (.slice none 0 0) rfl rfl rfl (xaf rfl (dB (xmi rfl (TL.eql rfl rfl rfl rfl (fun q1=>?_) (fun q1=>?_))))))))
  refine TL.done (TQ.then (TC.condT rfl (TC.seq ?_)))
  obtain rfl:=T.root_zero hr (by assumption)
  refine TC.nilA 4 (A:=ownA encI 1 3 (.slice none 0 0) #[]) (.inl ⟨rfl,rfl⟩) (TC.region (TL.asg (.slice none 0 0) rfl rfl rfl (xat rfl (dRR ?_))))
  refine FQ.ret2 (v:=(.slice none 0 0)) (x:=(.bool true)) (Bs:=[_,_,_,_]) [0,1,2,4] rfl rfl rfl rfl ⟨rfl,rfl,rfl,rfl,trivial⟩ ?_
  exact ⟨_,rfl,rfl⟩
  refine TL.done (TQ.then (TC.condF rfl (TC.skip (TQ.then (TC.seq (TC.seq ?_))))))
  obtain ⟨a,x,b,rfl⟩:=T.ex_node (by assumption)
  obtain ⟨b3,b4,ra,rb,rx,hr1,hr2⟩:=hr.links hl
  have hsz:=T.size_node (a:=a) (b:=b) (x:=x)
  rw [show (T.node a x b).root=x from rfl]
  have hla:a.list.length=a.size:=rfl
  have hlb:b.list.length=b.size:=rfl
  refine TC.region (xmi rfl (TL.lssF rfl rfl (by omega) rfl rfl (xmf rfl (xmi rfl (xf 6 zby rfl (xls 3 za1 rfl rfl (xz zaf rfl (TL.gtrF rfl rfl (by omega) rfl rfl ?_))))))))
  refine xpF rfl (xmf rfl (xmi rfl (xf 6 zby rfl (xls 3 za1 rfl rfl (xz zaf rfl (TL.gtrF rfl rfl (by omega) rfl rfl (xpF rfl (TL.done ?_))))))))
  refine TQ.then (TC.condF rfl (TC.skip (TQ.then (TC.seq (TC.draw [(0,true),(1,true),(2,true),(5,true),(6,true),(3,false),(4,true),(7,false),(8,true),(9,true),(10,true),(11,true),(12,true)] [3] fc_m (by kernel_rfl) (xL7 3 zai rfl rfl (xL7 3 zai rfl rfl (xmi rfl ?_))))))))
  refine xmi rfl (TL.add _ rfl rfl (wr64 (by omega)) rfl rfl (TL.callD [0,1,2] [0,1,2] (zdh hl hB) ⟨rfl,rfl,rfl,rfl,trivial⟩ ⟨rfl,rfl,rfl,trivial⟩ zdd rfl rfl rfl rfl rfl (kL1 rfl trivial) ?_))
  rw [b3]
  refine TL.conv _ rfl zbb zaI (wr64 (by omega)) rfl rfl (TL.call [0,1,2] [0,1,2,5] (ih hr1 (by omega) (by omega) (by omega)) ⟨rfl,rfl,rfl,trivial⟩ ⟨rfl,rfl,rfl,trivial⟩ zjY rfl rfl rfl rfl ?_)
  rintro x1 Bs ⟨v1,rfl,rfl⟩
  refine ⟨rfl,(kL1 rfl trivial),?_⟩
  refine TL.ownW 5 rfl (fun a1 g1 c1 hv1 hc1 ha1=>?_)
  subst hv1
  refine xmu rfl (xes rfl rfl (xet rfl rfl (xas rfl (xat rfl (dS (TC.draw [(0,true),(1,true),(2,true),(5,true),(6,true),(3,false),(4,true),(7,false),(8,true),(9,true),(10,true),(11,true),(12,true)] [3] fc_m (by kernel_rfl) (xL7 3 zai rfl rfl (xL7 3 zai rfl rfl ?_))))))))
  refine xmi rfl (xmi rfl (TL.add _ rfl rfl (wr64 (by omega)) rfl rfl (TL.callD [0,1,2] [0,1,2] (zdh hl hB) ⟨rfl,rfl,rfl,rfl,trivial⟩ ⟨rfl,rfl,rfl,trivial⟩ zdd rfl rfl rfl rfl rfl (kL1 rfl trivial) ?_)))
  rw [b4]
  refine TL.conv _ rfl zbb zaI (wr64 (by omega)) rfl rfl (TL.call [0,1,2] [0,1,2,6] (ih hr2 (by omega) (by omega) (by omega)) ⟨rfl,rfl,rfl,trivial⟩ ⟨rfl,rfl,rfl,trivial⟩ zjY rfl rfl rfl rfl ?_)
  rintro x2 Bs ⟨v2,rfl,rfl⟩
  refine ⟨rfl,(kL1 rfl trivial),?_⟩
  refine TL.ownW 6 rfl (fun a2 g2 c2 hv2 hc2 ha2=>?_)
  subst hv2
  refine xmu rfl (xes rfl rfl (xet rfl rfl (xas rfl (xat rfl (dA (TL.asg (.slice none 0 0) rfl rfl rfl (dS (TC.nilA 7 (A:=ownA encI 1 3 (.slice none 0 0) #[]) (.inl ⟨rfl,rfl⟩) ?_))))))))
  refine TC.region (xmv rfl (xms rfl (TL.appQ 7 5 (d2:=a.list.toArray) rfl (rfl) rfl (ha1) rfl rfl (zab ha1) zci (by decide) za2 (by simp; omega) rfl rfl (fun v8=>⟨trivial,?_⟩))))
  refine xav rfl (dA (xmv rfl (xmi rfl (TL.bsN 9 [_] (encI x) zae zeL ⟨rfl,trivial⟩ rfl (lit1 rfl) rfl rfl (fun bk9=>⟨trivial,?_⟩)))))
  refine TL.appS 7 9 (d2:=#[x]) rfl (rfl) rfl (fun _=>rfl) rfl rfl (row1 rfl) zci (by decide) za2 (by simp; omega) rfl rfl (fun v10=>⟨trivial,?_⟩)
  refine xav rfl (dA (xmv rfl (xms rfl (TL.appQ 7 6 (d2:=b.list.toArray) rfl (rfl) rfl (ha2) rfl rfl (zab ha2) zci (by decide) za2 (by simp; omega) rfl rfl (fun v11=>⟨trivial,?_⟩)))))
  refine xav rfl (dS ?_)
  rw [toArr]
  refine TC.ownW 7 rfl (fun a9 g9 c9 hv9 hc9 ha9=>?_)
  cases hv9
  refine TC.draw [(0,true),(1,true),(2,true),(3,true),(4,true),(5,true),(6,true),(7,true),(8,true),(9,true),(10,true),(11,true),(12,true),(13,true),(14,true)] [3] fc_m (by kernel_rfl) (xmv rfl (xmt rfl (xmt rfl (xmt rfl (xpT rfl (xmt rfl (xmv rfl (xz zae rfl ?_))))))))
  refine xf 6 zby rfl (xls 3 za1 rfl rfl (xz zaf rfl (TL.leqT rfl rfl (by simp; omega) rfl rfl (xpT rfl (xav rfl (xat rfl (dR ?_)))))))
  refine FQ.ret2 (v:=_) (x:=(.bool true)) (Bs:=[_,_,_,_]) [0,1,2,7] rfl rfl rfl rfl ⟨rfl,rfl,rfl,rfl,trivial⟩ ?_
  exact ⟨_,rfl,rfl⟩
set_option maxHeartbeats 1000000 in
theorem zon {l:Lay} (hl:l.Ok) {σ:M} {nv:Value} {ca xa:Option Addr} {mr bc offc cn cc bx offx xn xc:Nat} {Acl Ax:Assn} {fc:Nat→Int} {fx:Nat→Nm} {ps:List (Nm×Nat)} (hB:BookOk l σ ca bc offc cn Acl fc xa bx offx xn Ax fx ps) {L:Int→Int→List Int} (hL:ListOk l σ L) {v i:Int} (hv:l.okV i v)  : Go.Eng.Fn Tryz.prog 110 [.agg #[.int .i64 l.V,.int .i64 l.S,.int .i64 l.T,nv,.slice ca cn cc,.map (some mr),.slice xa xn xc],.int .i64 v,.int .i64 i] [Acl,mapA mr nmV natV ps,Ax] (fun x Bs=>∃ w,x=.tuple #[w,.bool true]∧Bs=[Acl,mapA mr nmV natV ps,Ax,ownA encI 1 3 w ((L v i).map (· - 1)).toArray]):=by
 have hcn:=hB.hcn
 have hxn:=hB.hxn
 have hnb:=zaz hl
 have hcb:=zaO hl
 have hb:=zaU hl
 have hlen:=hL.len hl hv
 refine Fn.enter (Tryz.func110) rfl rfl (fun w0 R=>?_)
 refine sA (xB 3 rfl (fun bk3=>(TL.asg (.slice none 0 0) rfl rfl rfl (xaf rfl (dA (TL.asg (.slice none 0 0) rfl rfl rfl (dA (xai rfl (dS ?_)))))))))
 refine TC.nilA 4 (A:=ownA encI 1 3 (.slice none 0 0) #[]) (.inl ⟨rfl,rfl⟩) (TC.region (xL7 3 zai rfl rfl (xmi rfl (xmi rfl (TL.callD [0,1,2] [0,1,2] (zdh hl hB) ⟨rfl,rfl,rfl,rfl,trivial⟩ ⟨rfl,rfl,rfl,trivial⟩ zdd rfl rfl rfl rfl rfl trivial ?_)))))
 rw [hL.at_ hl hv]
 refine xai rfl (dS (TC.block (TC.loopK (X:=(List Int×List Int)×Value) [3] [0,1,2,3] (fun ⟨⟨A,C0⟩,w⟩=>[(8,w),(9,.int .u64 (lst 0 A)),(10,.int .u64 (fst C0 0))]) (fun ⟨⟨A,C0⟩,w⟩=>[(4,ownA encI 1 3 w (A.map (· - 1)).toArray)]) (fun ⟨⟨A,C0⟩,w⟩=>L v i=A++C0) (fun ⟨⟨A,C0⟩,w⟩=>C0.length) ((([],L v i),_)) rfl ⟨rfl,rfl,rfl,trivial⟩ ⟨rfl,trivial⟩ (fun z hI=>?_))))
 obtain ⟨⟨A,C0⟩,w⟩:=z
 have he:L v i=A++C0:=hI
 refine TC.sub (env':=[(8,_),(9,_),(10,_),(3,_)]) (L':=[(4,_),(0,_),(1,_),(2,_),(3,_)]) ⟨rfl,rfl,rfl,rfl,trivial⟩ ⟨rfl,rfl,rfl,rfl,rfl,trivial⟩ (sB (xmi rfl (TL.neq rfl rfl rfl rfl (fun q1=>?_) (fun q1=>?_))))
 refine TL.done (TQ.then (TC.condT rfl (TC.skip (TQ.then (TC.block (TC.seq (TC.seq ?_)))))))
 obtain ⟨y,C,rfl⟩:∃ y C,C0=y :: C:=by cases C0 with | nil=>exact absurd rfl (by assumption) | cons y C=>exact ⟨y,C,rfl⟩
 rw [show fst (y :: C) 0=y from rfl]
 obtain ⟨hsd,h7,h6⟩:=hL.links hl hv he
 have hsd1:=hsd.1
 have hsd2:=hsd.2
 have hAl:A.length≤2 * l.S:=by rw [he] at hlen; simp at hlen; omega
 refine TC.ownW 4 rfl (fun a9 g9 c9 hv9 hc9 ha9=>?_)
 cases hv9
 refine TC.region (xmi rfl (xf 0 zbh rfl (xf 1 zbO rfl (xli 3 zaa rfl rfl (TL.mul _ rfl rfl (wr64 (by omega)) rfl rfl (TL.conv _ rfl zdz zaF (zdL (by omega)) rfl rfl (TL.gtrF rfl rfl (by have:=hsd.2; omega) rfl rfl (xmf rfl ?_))))))))
 refine xmv rfl (xz zae rfl (xf 0 zbh rfl (xf 1 zbO rfl (xli 3 zaa rfl rfl (TL.mul _ rfl rfl (wr64 (by omega)) rfl rfl (TL.gtrF rfl rfl (by simp; omega) rfl rfl (xpF rfl (dF rfl ?_))))))))
 refine xmi rfl (TL.sub _ rfl rfl (zdL (by omega)) rfl rfl (TL.conv _ rfl zbb zaI (wr64 (by omega)) rfl rfl (TL.quo _ rfl rfl (by omega) (zqC (by omega) (by omega) (by omega)) rfl rfl (xmi rfl (TL.sub _ rfl rfl (zdL (by omega)) rfl rfl (TL.conv _ rfl zbb zaI (wr64 (by omega)) rfl rfl (TL.rem _ rfl rfl (by omega) (zjk (by omega)) rfl rfl (xai rfl ?_))))))))
 refine xai rfl (dB (xL7 3 zai rfl rfl (xmi rfl (xmi rfl (TL.callD [0,1,2] [0,1,2] (zdh hl hB) ⟨rfl,rfl,rfl,rfl,trivial⟩ ⟨rfl,rfl,rfl,trivial⟩ zdd rfl rfl rfl rfl rfl trivial ?_)))))
 rw [h7]
 refine xmi rfl (TL.neqF rfl rfl (by omega) rfl rfl (dF rfl (xmv rfl (xmi rfl (TL.mul _ rfl rfl (wr64 (by omega)) rfl rfl (xmi rfl (TL.add _ rfl rfl (lsd (by omega)) rfl rfl (TL.bsN 5 [_] (encI (y - 1)) zae zeL ⟨rfl,trivial⟩ rfl (lit1 rfl) rfl rfl (fun bk5=>⟨trivial,?_⟩)))))))))
 refine TL.appS 4 5 (d2:=#[y - 1]) rfl (rfl) rfl (fun _=>rfl) rfl rfl (row1 rfl) zci (by decide) za2 (by simp; omega) rfl rfl (fun v6=>⟨trivial,?_⟩)
 refine xav rfl (dA (xmi rfl (xai rfl (dG (xL7 3 zai rfl rfl (xmi rfl (xmi rfl (TL.callD [0,1,2] [0,1,2] (zdh hl hB) ⟨rfl,rfl,rfl,rfl,trivial⟩ ⟨rfl,rfl,rfl,trivial⟩ zdd rfl rfl rfl rfl rfl trivial ?_))))))))
 rw [h6]
 refine xai rfl (TL.done (TQ.inBlock (TQ.roundK (((A++[y],C),_)) ⟨(by show L v i=(A++[y])++C; rw [he]; simp),Nat.lt_succ_self _⟩ ⟨rfl,congrArg (fun z:Int=>some (Value.int .u64 z)) zmj.symm,rfl,trivial⟩ ⟨congrArg (fun z=>some (ownA encI 1 3 _ z)) (by simp),trivial⟩ (kE1 rfl trivial) (kL4 rfl rfl rfl rfl trivial))))
 refine dE rfl (sA (xmv rfl (xav rfl (xat rfl (dR ?_)))))
 refine FQ.ret2 (v:=_) (x:=(.bool true)) (Bs:=[_,_,_,_]) [0,1,2,4] rfl rfl rfl rfl ⟨rfl,rfl,rfl,rfl,trivial⟩ ?_
 have hC:C0=[]:=by cases C0 with | nil=>rfl | cons y C=>exact absurd (show fst (y :: C) 0=0 by omega) (by have:=(hL.links hl hv he).1.1; show ¬y=0; omega)
 subst hC
 rw [List.append_nil] at he
 exact ⟨_,rfl,by rw [he]⟩
theorem znj {l:Lay} (hl:l.Ok) {σ:M} {nv:Value} {ca xa:Option Addr} {mr bc offc cn cc bx offx xn xc:Nat} {Acl Ax:Assn} {fc:Nat→Int} {fx:Nat→Nm} {ps:List (Nm×Nat)} (hB:BookOk l σ ca bc offc cn Acl fc xa bx offx xn Ax fx ps) {pr mk:Int→Int} {F:Int→T} {g:G} {L:Int→Int→List Int} {w:Value} {d:Array EdR} (hIR:InvR l pr σ F mk g L) (hM:Mt g d)  : FnD Tryz.prog 70 [.agg #[.int .i64 l.V,.int .i64 l.S,.int .i64 l.T,nv,.slice ca cn cc,.map (some mr),.slice xa xn xc],w] [Acl,mapA mr nmV natV ps,Ax,ownA encE 5 65 w d] (.bool true) [Acl,mapA mr nmV natV ps,Ax,ownA encE 5 65 w d]:=by
 have hcn:=hB.hcn
 have hxn:=hB.hxn
 have hnb:=zaz hl
 have hcb:=zaO hl
 have hlb:=zaU hl
 have hEd:=hIR.edges
 have hdz:d.size≤l.S:=Rel.size hl ⟨g,⟨F,mk,L,hIR⟩,hM⟩
 have lb:=zb9 hl
 refine Fn.enter (Tryz.func70) rfl rfl (fun w0 R=>?_)
 refine sA (xB 4 rfl (fun bk4=>(xaf rfl (dB (xai rfl (dK (TC.loopK (X:=Nat) [1,2] [0,1,2,3,4] (fun v=>[(5,.int .i64 ((v:Nat):Int))]) (fun v=>[]) (fun v=>v≤l.V) (fun v=>l.V - v) (0) (Nat.zero_le _) ⟨rfl,trivial⟩ trivial (fun v hI=>(TC.sub (env':=[(5,_),(1,_),(2,_)]) (L':=[(0,_),(1,_),(2,_),(3,_),(4,_)]) ⟨rfl,rfl,rfl,trivial⟩ ⟨rfl,rfl,rfl,rfl,rfl,trivial⟩ (sB ?_))))))))))
 refine xmi rfl (xf 0 zbh rfl (xf 0 zbn rfl (xli 4 zaa rfl rfl (TL.lss rfl rfl rfl rfl (fun q1=>?_) (fun q1=>?_)))))
 refine TL.done (TQ.then (TC.condT rfl (TC.skip (TQ.then (TC.seq (TC.block (sA (xai rfl ?_))))))))
 refine dK (TC.loopK (X:=Nat) [1,2,5] [0,1,2,3,4] (fun i=>[(6,.int .i64 ((i:Nat):Int))]) (fun i=>[]) (fun i=>(i:Int)≤l.lev) (fun i=>l.lev.toNat - i) (0) (by omega) ⟨rfl,trivial⟩ trivial (fun i hI=>(TC.sub (env':=[(6,_),(1,_),(2,_),(5,_)]) (L':=[(0,_),(1,_),(2,_),(3,_),(4,_)]) ⟨rfl,rfl,rfl,rfl,trivial⟩ ⟨rfl,rfl,rfl,rfl,rfl,trivial⟩ (sB (xmi rfl (xf 0 zbh rfl (xL3 4 zbX rfl rfl (TL.callD [] [] (zb2 hl) ⟨rfl,trivial⟩ trivial zhn rfl rfl rfl rfl rfl trivial (TL.lss rfl rfl rfl rfl (fun q2=>?_) (fun q2=>?_))))))))))
 refine TL.done (TQ.then (TC.condT rfl (TC.skip (TQ.then (TC.seq (TC.block (sA (xL7 4 zai rfl rfl ?_))))))))
 refine xmi rfl (xmi rfl (TL.call [0,1,2] [0,1,2,5] (zon hl hB hIR.lm.lists ⟨⟨by omega,by omega⟩,by omega,by omega⟩) ⟨rfl,rfl,rfl,trivial⟩ ⟨rfl,rfl,rfl,trivial⟩ zp8 rfl rfl rfl rfl ?_))
 rintro x Bs ⟨wl,rfl,rfl⟩
 refine ⟨rfl,trivial,?_⟩
 refine TL.ownW 5 rfl (fun a8 g8 c8 hv8 hc8 ha8=>?_)
 subst hv8
 refine xmu rfl (xes rfl rfl (xet rfl rfl (xas rfl (xat rfl (dA (xai rfl (dS (TC.seq ?_))))))))
 have hlw:((L v i).map (· - 1)).toArray.size≤2 * l.S:=by have:=hIR.lm.lists.len hl (v:=v) (i:=i) ⟨⟨by omega,by omega⟩,by omega,by omega⟩; simpa using this
 refine TC.ownW 3 rfl (fun a9 g9 c9 hv9 hc9 ha9=>?_)
 cases hv9
 refine TC.region (xai rfl (dK (TC.loopK (X:=Nat) [1,2,5,6,7,8] [0,1,2,3,4,5] (fun k=>[(10,.int .i64 ((k:Nat):Int)),(9,.int .i64 (((besL d i v k).length:Nat):Int))]) (fun k=>[]) (fun k=>k≤d.size) (fun k=>d.size - k) (0) (Nat.zero_le _) ⟨rfl,rfl,trivial⟩ trivial (fun k hI=>(TC.sub (env':=[(10,_),(9,_),(1,_),(2,_),(5,_),(6,_),(7,_),(8,_)]) (L':=[(0,_),(1,_),(2,_),(3,_),(4,_),(5,_)]) ⟨rfl,rfl,rfl,rfl,rfl,rfl,rfl,rfl,trivial⟩ ⟨rfl,rfl,rfl,rfl,rfl,rfl,trivial⟩ (sB (xmi rfl (xmv rfl (xz zah rfl ?_)))))))))
 refine TL.lss rfl rfl rfl rfl (fun q3=>?_) (fun q3=>?_)
 refine TL.done (TQ.then (TC.condT rfl (TC.skip (TQ.then (TC.seq (TC.block (TC.seq (TC.seq ?_))))))))
 have hbl:=znn (d:=d) (i:=i) (v:=v) (k:=k)
 have hro:=hM.row k (by omega)
 have hrs:=(hEd.rng _ hro.1).1
 refine TC.region (xmv rfl (xmi rfl (TL.iaO rfl ha9 rfl zah (by omega) rfl rfl (xf 4 zek rfl (TL.ldRF 3 (.bool _) rfl rfl (zab ha9) (by omega) (zbg _).1 rfl zfj rfl rfl (xmb rfl (TL.cases rfl (fun q4=>?_) (fun q4=>?_))))))))
 refine xo rfl (xo rfl (xo rfl (xo rfl (xo rfl (xo rfl (xo rfl (xpT rfl (xmt rfl ?_))))))))
 refine xo rfl (xo rfl (xo rfl (xo rfl (xo rfl (xo rfl (xo rfl (xo rfl (xo rfl ?_))))))))
 refine xo rfl (xo rfl (xo rfl (xo rfl (xo rfl (xo rfl (xo rfl (xpT rfl (TL.done ?_))))))))
 refine TQ.then (TC.condT rfl (TC.exit (TQ.thenExit (TQ.blockHere (TQ.then (TC.region (xmi rfl (TL.add (((k+1:Nat):Int)) rfl rfl (wrN (by omega)) rfl rfl ?_))))))))
 refine xai rfl (TL.done (TQ.roundK (k+1) ⟨by omega,by omega⟩ ⟨rfl,congrArg (fun z:Nat=>some (Value.int .i64 (z:Int))) (zno (fun hc=>absurd (hc.1.symm.trans (by assumption)) (by decide))),trivial⟩ trivial (kE6 rfl rfl rfl rfl rfl rfl trivial) (kL6 rfl rfl rfl rfl rfl rfl trivial)))
 refine xmv rfl (xmi rfl (TL.iaO rfl ha9 rfl zah (by omega) rfl rfl (xf 3 zcS rfl (TL.ldRF 3 (.int _ _) rfl rfl (zab ha9) (by omega) (zbg _).1 rfl zaa rfl rfl (xmi rfl (TL.neq rfl rfl rfl rfl (fun q5=>?_) (fun q5=>?_)))))))
 refine xpH rfl (xmt rfl (xo rfl (xo rfl (xo rfl (xo rfl (xo rfl (xo rfl (xo rfl ?_))))))))
 refine xo rfl (xo rfl (xo rfl (xo rfl (xo rfl (xo rfl (xo rfl (xo rfl (xo rfl ?_))))))))
 refine xpT rfl (TL.done (TQ.then (TC.condT rfl (TC.exit (TQ.thenExit (TQ.blockHere (TQ.then (TC.region ?_))))))))
 refine xmi rfl (TL.add (((k+1:Nat):Int)) rfl rfl (wrN (by omega)) rfl rfl (xai rfl (TL.done (TQ.roundK (k+1) ⟨by omega,by omega⟩ ⟨rfl,congrArg (fun z:Nat=>some (Value.int .i64 (z:Int))) (zno (fun hc=>absurd hc.2.1 (by omega))),trivial⟩ trivial (kE6 rfl rfl rfl rfl rfl rfl trivial) (kL6 rfl rfl rfl rfl rfl rfl trivial)))))
 refine xpF rfl (xmf rfl (xmv rfl (xmi rfl (TL.iaO rfl ha9 rfl zah (by omega) rfl rfl (xf 1 zb6 rfl (TL.ldRF 3 (.int _ _) rfl rfl (zab ha9) (by omega) (zbg _).1 rfl zaa rfl rfl (xmi rfl (TL.neq rfl rfl rfl rfl (fun q6=>?_) (fun q6=>?_)))))))))
 refine xmt rfl (xmv rfl (xmi rfl (TL.iaO rfl ha9 rfl zah (by omega) rfl rfl (xf 2 zbx rfl (TL.ldRF 3 (.int _ _) rfl rfl (zab ha9) (by omega) (zbg _).1 rfl zaa rfl rfl (xmi rfl (TL.neq rfl rfl rfl rfl (fun q7=>?_) (fun q7=>?_))))))))
 refine xpT rfl (xpH rfl (TL.done (TQ.then (TC.condT rfl (TC.exit (TQ.thenExit (TQ.blockHere (TQ.then ?_))))))))
 refine TC.region (xmi rfl (TL.add (((k+1:Nat):Int)) rfl rfl (wrN (by omega)) rfl rfl (xai rfl (TL.done (TQ.roundK (k+1) ⟨by omega,by omega⟩ ⟨rfl,congrArg (fun z:Nat=>some (Value.int .i64 (z:Int))) (zno (fun hc=>by have:=hc.2.2; omega)),trivial⟩ trivial (kE6 rfl rfl rfl rfl rfl rfl trivial) (kL6 rfl rfl rfl rfl rfl rfl trivial))))))
 refine xpG rfl (xpF rfl (dF rfl (xmi rfl (TL.add ((((besL d i v k).length+1:Nat):Int)) rfl rfl (wrN (by omega)) rfl rfl (xai rfl (dA (xai rfl (dB ?_))))))))
 refine xmv rfl (xmi rfl (TL.iaO rfl ha9 rfl zah (by omega) rfl rfl (xf 2 zbx rfl (TL.ldRF 3 (.int _ _) rfl rfl (zab ha9) (by omega) (zbg _).1 rfl zaa rfl rfl (xmi rfl (TL.eql rfl rfl rfl rfl (fun q8=>?_) (fun q8=>?_)))))))
 refine TL.done (TQ.then (TC.condT rfl (TC.region (xai rfl (dA (xms rfl (xmv rfl (xmi rfl ?_))))))))
 refine TL.iaO rfl ha9 rfl zah (by omega) rfl rfl (xf 0 zaS rfl (TL.ldRF 3 (.int _ _) rfl rfl (zab ha9) (by omega) (zbg _).1 rfl zaa rfl rfl (TL.mul _ rfl rfl (wr64 (by omega)) rfl rfl (xmi rfl (TL.add _ rfl rfl (wr64 (by omega)) rfl rfl (TL.callD [5] [5] (zeg ha8 (zab ha8) (by omega)) ⟨rfl,rfl,trivial⟩ ⟨rfl,trivial⟩ zfI rfl rfl rfl rfl rfl trivial ?_))))))
 rw [zoq hl hIR hM (x:=2 * d[k]!.slot+1) ⟨⟨by omega,by omega⟩,by omega,by omega⟩ (by omega) (show isB d i v k from ⟨by assumption,by omega,by omega⟩) (by unfold ze2; rw [if_pos (by omega)])]
 refine xnt rfl (TL.done (TQ.then (TC.condF rfl (TC.skip (TQ.inBlock (TQ.then (TC.region (xmi rfl ?_))))))))
 refine TL.add (((k+1:Nat):Int)) rfl rfl (wrN (by omega)) rfl rfl (xai rfl (TL.done (TQ.roundK (k+1) ⟨by omega,by omega⟩ ⟨rfl,congrArg (fun z:Nat=>some (Value.int .i64 (z:Int))) (zkO ⟨by assumption,by omega,by omega⟩),trivial⟩ trivial (kE6 rfl rfl rfl rfl rfl rfl trivial) (kL6 rfl rfl rfl rfl rfl rfl trivial))))
 refine dF rfl (xms rfl (xmv rfl (xmi rfl (TL.iaO rfl ha9 rfl zah (by omega) rfl rfl (xf 0 zaS rfl (TL.ldRF 3 (.int _ _) rfl rfl (zab ha9) (by omega) (zbg _).1 rfl zaa rfl rfl (TL.mul _ rfl rfl (wr64 (by omega)) rfl rfl (xmi rfl ?_))))))))
 refine TL.add _ rfl rfl (wr64 (by omega)) rfl rfl (TL.callD [5] [5] (zeg ha8 (zab ha8) (by omega)) ⟨rfl,rfl,trivial⟩ ⟨rfl,trivial⟩ zfI rfl rfl rfl rfl rfl trivial ?_)
 rw [zoq hl hIR hM (x:=2 * d[k]!.slot+0) ⟨⟨by omega,by omega⟩,by omega,by omega⟩ (by omega) (show isB d i v k from ⟨by assumption,by omega,by omega⟩) (by unfold ze2; rw [if_neg (by omega)])]
 refine xnt rfl (TL.done (TQ.then (TC.condF rfl (TC.skip (TQ.inBlock (TQ.then (TC.region (xmi rfl ?_))))))))
 refine TL.add (((k+1:Nat):Int)) rfl rfl (wrN (by omega)) rfl rfl (xai rfl (TL.done (TQ.roundK (k+1) ⟨by omega,by omega⟩ ⟨rfl,congrArg (fun z:Nat=>some (Value.int .i64 (z:Int))) (zkO ⟨by assumption,by omega,by omega⟩),trivial⟩ trivial (kE6 rfl rfl rfl rfl rfl rfl trivial) (kL6 rfl rfl rfl rfl rfl rfl trivial))))
 refine xmf rfl (xo rfl (xo rfl (xo rfl (xo rfl (xo rfl (xo rfl (xo rfl (xpF rfl ?_))))))))
 refine xpF rfl (dF rfl (xmi rfl (TL.add ((((besL d i v k).length+1:Nat):Int)) rfl rfl (wrN (by omega)) rfl rfl (xai rfl (dA (xai rfl (dB (xmv rfl ?_))))))))
 refine xmi rfl (TL.iaO rfl ha9 rfl zah (by omega) rfl rfl (xf 2 zbx rfl (TL.ldRF 3 (.int _ _) rfl rfl (zab ha9) (by omega) (zbg _).1 rfl zaa rfl rfl (xmi rfl (TL.eql rfl rfl rfl rfl (fun q7=>?_) (fun q7=>?_))))))
 refine TL.done (TQ.then (TC.condT rfl (TC.region (xai rfl (dA (xms rfl (xmv rfl (xmi rfl ?_))))))))
 refine TL.iaO rfl ha9 rfl zah (by omega) rfl rfl (xf 0 zaS rfl (TL.ldRF 3 (.int _ _) rfl rfl (zab ha9) (by omega) (zbg _).1 rfl zaa rfl rfl (TL.mul _ rfl rfl (wr64 (by omega)) rfl rfl (xmi rfl (TL.add _ rfl rfl (wr64 (by omega)) rfl rfl (TL.callD [5] [5] (zeg ha8 (zab ha8) (by omega)) ⟨rfl,rfl,trivial⟩ ⟨rfl,trivial⟩ zfI rfl rfl rfl rfl rfl trivial ?_))))))
 rw [zoq hl hIR hM (x:=2 * d[k]!.slot+1) ⟨⟨by omega,by omega⟩,by omega,by omega⟩ (by omega) (show isB d i v k from ⟨by assumption,by omega,by omega⟩) (by unfold ze2; rw [if_pos (by omega)])]
 refine xnt rfl (TL.done (TQ.then (TC.condF rfl (TC.skip (TQ.inBlock (TQ.then (TC.region (xmi rfl ?_))))))))
 refine TL.add (((k+1:Nat):Int)) rfl rfl (wrN (by omega)) rfl rfl (xai rfl (TL.done (TQ.roundK (k+1) ⟨by omega,by omega⟩ ⟨rfl,congrArg (fun z:Nat=>some (Value.int .i64 (z:Int))) (zkO ⟨by assumption,by omega,by omega⟩),trivial⟩ trivial (kE6 rfl rfl rfl rfl rfl rfl trivial) (kL6 rfl rfl rfl rfl rfl rfl trivial))))
 refine dF rfl (xms rfl (xmv rfl (xmi rfl (TL.iaO rfl ha9 rfl zah (by omega) rfl rfl (xf 0 zaS rfl (TL.ldRF 3 (.int _ _) rfl rfl (zab ha9) (by omega) (zbg _).1 rfl zaa rfl rfl (TL.mul _ rfl rfl (wr64 (by omega)) rfl rfl (xmi rfl ?_))))))))
 refine TL.add _ rfl rfl (wr64 (by omega)) rfl rfl (TL.callD [5] [5] (zeg ha8 (zab ha8) (by omega)) ⟨rfl,rfl,trivial⟩ ⟨rfl,trivial⟩ zfI rfl rfl rfl rfl rfl trivial ?_)
 rw [zoq hl hIR hM (x:=2 * d[k]!.slot+0) ⟨⟨by omega,by omega⟩,by omega,by omega⟩ (by omega) (show isB d i v k from ⟨by assumption,by omega,by omega⟩) (by unfold ze2; rw [if_neg (by omega)])]
 refine xnt rfl (TL.done (TQ.then (TC.condF rfl (TC.skip (TQ.inBlock (TQ.then (TC.region (xmi rfl ?_))))))))
 refine TL.add (((k+1:Nat):Int)) rfl rfl (wrN (by omega)) rfl rfl (xai rfl (TL.done (TQ.roundK (k+1) ⟨by omega,by omega⟩ ⟨rfl,congrArg (fun z:Nat=>some (Value.int .i64 (z:Int))) (zkO ⟨by assumption,by omega,by omega⟩),trivial⟩ trivial (kE6 rfl rfl rfl rfl rfl rfl trivial) (kL6 rfl rfl rfl rfl rfl rfl trivial))))
 refine dE rfl (TC.seq ?_)
 obtain rfl:k=d.size:=by omega
 have hbn:=zqk hl hIR hM (v:=v) (i:=i) ⟨⟨by omega,by omega⟩,by omega,by omega⟩
 refine TC.region (xmt rfl (xnt rfl (xmf rfl (xmi rfl (xms rfl (xz zae rfl (TL.neqF rfl rfl (by simp; omega) rfl rfl (xpF rfl ?_))))))))
 refine TL.done (TQ.then (TC.condF rfl (TC.skip (TQ.inBlock (TQ.then (TC.region (xmi rfl (TL.add (((i+1:Nat):Int)) rfl rfl (wrN (by omega)) rfl rfl ?_))))))))
 refine xai rfl (TL.done (TQ.roundK (i+1) ⟨by omega,by omega⟩ ⟨rfl,trivial⟩ trivial (kE3 rfl rfl rfl trivial) (kL5 rfl rfl rfl rfl rfl trivial)))
 refine TL.done (TQ.then (TC.condF rfl (TC.exit (TQ.thenExit (TQ.thenExit (TQ.blockHere (TQ.inBlock (TQ.then ?_))))))))
 refine TC.region (xmi rfl (TL.add (((v+1:Nat):Int)) rfl rfl (wrN (by omega)) rfl rfl (xai rfl (TL.done (TQ.roundK (v+1) ⟨by omega,by omega⟩ ⟨rfl,trivial⟩ trivial (kE2 rfl rfl trivial) (kL5 rfl rfl rfl rfl rfl trivial))))))
 refine dE rfl (sA (xat rfl (dR ?_)))
 refine FQ.ret1 (v:=(.bool true)) (Bs:=[_,_,_,_]) [0,1,2,3] rfl rfl rfl ⟨rfl,rfl,rfl,rfl,trivial⟩ ?_
 exact ⟨rfl,rfl⟩
set_option maxHeartbeats 1000000 in
theorem zni {l:Lay} (hl:l.Ok) {σ:M} {nv:Value} {ca xa:Option Addr} {mr bc offc cn cc bx offx xn xc:Nat} {Acl Ax:Assn} {fc:Nat→Int} {fx:Nat→Nm} {ps:List (Nm×Nat)} (hB:BookOk l σ ca bc offc cn Acl fc xa bx offx xn Ax fx ps) {pr mk:Int→Int} {F:Int→T} {g:G} {L:Int→Int→List Int} {w:Value} {d:Array EdR} (hIR:InvR l pr σ F mk g L) (hM:Mt g d)  : Go.Eng.Fn Tryz.prog 71 [.agg #[.int .i64 l.V,.int .i64 l.S,.int .i64 l.T,nv,.slice ca cn cc,.map (some mr),.slice xa xn xc],w] [Acl,mapA mr nmV natV ps,Ax,ownA encE 5 65 w d] (fun x Bs=>∃ D:Array Int,Bs=[Acl,mapA mr nmV natV ps,Ax,ownA encE 5 65 w d,ownA encI 1 3 x D]∧(D.size:Int)=l.nodes+1∧∀ x,l.nd x→D[x.toNat]! =mk x):=by
 have hcn:=hB.hcn
 have hxn:=hB.hxn
 have hnb:=zaz hl
 have hcb:=zaO hl
 have hlb:=zaU hl
 have hEd:=hIR.edges
 have hdz:d.size≤l.S:=Rel.size hl ⟨g,⟨F,mk,L,hIR⟩,hM⟩
 have lb:=zb9 hl
 refine Fn.enter (Tryz.func71) rfl rfl (fun w0 R=>?_)
 refine sA (xB 4 rfl (fun bk4=>(TL.asg (.slice none 0 0) rfl rfl rfl (dA (xf 6 zby rfl (xls 4 za1 rfl rfl (xz zaf rfl (TL.add (((xn+1:Nat):Int)) rfl rfl (wrN (by omega)) rfl rfl (TL.mkO 5 (enc:=encI) (N:=xn+1) (0) rfl rfl za2 zeL rfl (by decide) (by omega) rfl rfl (fun bk5=>⟨trivial,?_⟩))))))))))
 refine xas rfl (dS (TC.seq (TC.ownW 3 rfl (fun a9 g9 c9 hv9 hc9 ha9=>?_))))
 cases hv9
 refine TC.region (xai rfl (dK (TC.loopK (X:=Nat×Array Int) [1,2,4,5] [0,1,2,3,4] (fun ⟨k,D⟩=>[(6,.int .i64 ((k:Nat):Int))]) (fun ⟨k,D⟩=>[(5,ownA encI 1 3 (.slice (some ⟨bk5,0,none⟩) (xn+1) (xn+1)) D)]) (fun ⟨k,D⟩=>k≤d.size∧MkI l d k D) (fun ⟨k,D⟩=>d.size - k) ((0,Array.replicate (xn+1) 0)) ⟨Nat.zero_le _,MkI.start (by omega)⟩ ⟨rfl,trivial⟩ ⟨rfl,trivial⟩ (fun z hI=>?_))))
 obtain ⟨k,D⟩:=z
 obtain ⟨hk,hK⟩:=hI
 replace hk:k≤d.size:=hk
 replace hK:MkI l d k D:=hK
 refine TC.sub (env':=[(6,_),(1,_),(2,_),(4,_),(5,_)]) (L':=[(5,_),(0,_),(1,_),(2,_),(3,_),(4,_)]) ⟨rfl,rfl,rfl,rfl,rfl,trivial⟩ ⟨rfl,rfl,rfl,rfl,rfl,rfl,trivial⟩ (sB (xmi rfl (xmv rfl (xz zah rfl (TL.lss rfl rfl rfl rfl (fun q1=>?_) (fun q1=>?_))))))
 refine TL.done (TQ.then (TC.condT rfl (TC.skip (TQ.then (TC.seq (TC.block (TC.seq ?_)))))))
 obtain ⟨r1,r2,r3,r4,r5⟩:=hM.row k (by omega)
 have hrs:=hEd.rng _ r1
 have hDz:=hK.size
 refine TC.region (xmv rfl (xmi rfl (TL.iaO rfl ha9 rfl zah (by omega) rfl rfl (TL.ldRx 3 [_,_,_,_,_] rfl rfl (zab ha9) (by omega) rfl zaV rfl rfl (TL.alloc 6 (cs:=#[.int .i64 0,.int .i64 0,.int .i64 0,.int .i64 0,.bool false]) zc0 rfl rfl rfl (fun _=>trivial) (fun bk6=>(TL.stW 6 5 [_,_,_,_,_] rfl rfl rfl rfl rfl rfl zaV rfl rfl trivial (dB (xf 4 zek rfl ?_)))))))))
 refine xlb 6 zfj rfl rfl (TL.done (TQ.then (TC.cond rfl (fun q2=>?_) (fun q2=>?_))))
 refine sA (xL7 4 zai rfl rfl (xf 0 zaS rfl (xli 6 zaa rfl rfl (xf 3 zcS rfl (xli 6 zaa rfl rfl (TL.bld [.int .i64 0,.int .i64 0,.int .i64 0,.int .i64 0] [(.int _ _),(.int _ _),(.int _ _)] [_,_,_,_] zaK zbf ⟨rfl,rfl,rfl,trivial⟩ ⟨rfl,rfl⟩ rfl rfl ?_))))))
 have hoA:l.okA d[k]!.slot d[k]!.lv 0:=⟨hrs.1,by rw [←r4]; exact hrs.2.2,by omega⟩
 have ndx:=(zar hl hoA).1
 refine TL.callD [0,1,2] [0,1,2] (zfs hl hB (zmf hl hoA)) ⟨rfl,rfl,trivial⟩ ⟨rfl,rfl,rfl,trivial⟩ zgM rfl rfl rfl rfl rfl trivial ?_
 obtain ⟨x,hx⟩:∃ z:Nat,l.arc d[k]!.slot d[k]!.lv 0=(z:Int):=⟨(l.arc d[k]!.slot d[k]!.lv 0).toNat,by have:=ndx; have:=this.1; omega⟩
 rw [hx]
 have ndax:=ndx.1
 have ndbx:=ndx.2
 refine xai rfl (dA (xms rfl (xmi rfl (xms rfl (xmi rfl (TL.iaO rfl (fun _=>rfl) rfl zae (by first | omega | (simp; omega)) rfl rfl (TL.ldRS 5 (.int _ _) rfl rfl (zcM (by first | omega | (simp; omega))) (by first | omega | (simp; omega)) (rfl) zaa rfl rfl (TL.or _ rfl rfl rfl rfl rfl ?_))))))))
 refine TL.iaO rfl (fun _=>rfl) rfl zae (by first | omega | (simp; omega)) rfl rfl (TL.stOF 5 (o:=0) (i:=x) (cur:=D[x]!) (u:=orS D[x]! 2) (by first | omega | (simp; omega)) rfl rfl rfl rfl (by first | omega | (simp; omega)) (rfl) ⟨rfl,rfl⟩ rfl zaa rfl rfl trivial (TL.done (TQ.then (TC.exit (TQ.thenExit (TQ.blockHere (TQ.then (TC.region ?_))))))))
 refine xmi rfl (TL.add (((k+1:Nat):Int)) rfl rfl (wrN (by omega)) rfl rfl (xai rfl (TL.done (TQ.roundK ((k+1,_)) ⟨⟨(show k+1≤d.size by omega),hK.tree (by assumption) hx (by omega)⟩,(show d.size - (k+1)<d.size - k by omega)⟩ ⟨rfl,trivial⟩ ⟨rfl,trivial⟩ (kE4 rfl rfl rfl rfl trivial) (kL5 rfl rfl rfl rfl rfl trivial)))))
 refine TC.skip (TQ.then (TC.seq (TC.draw [(0,true),(1,true),(2,true),(3,true),(4,true),(5,true),(7,true),(8,true),(9,true),(10,true),(11,true),(12,true),(6,false),(13,false),(14,true),(15,true)] [4,6] fc_m (by kernel_rfl) (xL7 4 zai rfl rfl (xf 3 zcS rfl (xli 6 zaa rfl rfl (xf 1 zb6 rfl (xli 6 zaa rfl rfl ?_))))))))
 refine TL.bld [.int .i64 0,.int .i64 0,.int .i64 0,.int .i64 0] [(.int _ _),(.int _ _),(.int _ _)] [_,_,_,_] zaK zbf ⟨rfl,rfl,rfl,trivial⟩ ⟨rfl,rfl⟩ rfl rfl (xL7 4 zai rfl rfl (xf 3 zcS rfl (xli 6 zaa rfl rfl (xf 2 zbx rfl (xli 6 zaa rfl rfl (TL.bld [.int .i64 0,.int .i64 0,.int .i64 0,.int .i64 0] [(.int _ _),(.int _ _),(.int _ _)] [_,_,_,_] zaK zbf ⟨rfl,rfl,rfl,trivial⟩ ⟨rfl,rfl⟩ rfl rfl ?_))))))
 have hoU:l.okV d[k]!.lv d[k]!.u:=⟨by rw [←r4]; exact hrs.2.2,by rw [←r2]; omega⟩
 have ndx:=(zac hl hoU).1
 refine TL.callD [0,1,2] [0,1,2] (zfs hl hB (zoH hl hoU)) ⟨rfl,rfl,trivial⟩ ⟨rfl,rfl,rfl,trivial⟩ zgM rfl rfl rfl rfl rfl (kL2 rfl rfl trivial) ?_
 obtain ⟨x,hx⟩:∃ z:Nat,l.vertex d[k]!.lv d[k]!.u=(z:Int):=⟨(l.vertex d[k]!.lv d[k]!.u).toNat,by have:=ndx; have:=this.1; omega⟩
 rw [hx]
 have ndax:=ndx.1
 have ndbx:=ndx.2
 have hoV:l.okV d[k]!.lv d[k]!.v:=⟨by rw [←r4]; exact hrs.2.2,by rw [←r3]; omega⟩
 have ndy:=(zac hl hoV).1
 refine TL.callD [0,1,2] [0,1,2] (zfs hl hB (zoH hl hoV)) ⟨rfl,rfl,trivial⟩ ⟨rfl,rfl,rfl,trivial⟩ zgM rfl rfl rfl rfl rfl (kL2 rfl rfl trivial) ?_
 obtain ⟨y,hy⟩:∃ z:Nat,l.vertex d[k]!.lv d[k]!.v=(z:Int):=⟨(l.vertex d[k]!.lv d[k]!.v).toNat,by have:=ndy; have:=this.1; omega⟩
 rw [hy]
 have nday:=ndy.1
 have ndby:=ndy.2
 refine xai rfl (xai rfl (dA (xms rfl (xmi rfl (xms rfl (xmi rfl (TL.iaO rfl (fun _=>rfl) rfl zae (by first | omega | (simp; omega)) rfl rfl (TL.ldRS 5 (.int _ _) rfl rfl (zcM (by first | omega | (simp; omega))) (by first | omega | (simp; omega)) (rfl) zaa rfl rfl ?_))))))))
 refine TL.or _ rfl rfl rfl rfl rfl (TL.iaO rfl (fun _=>rfl) rfl zae (by first | omega | (simp; omega)) rfl rfl (TL.stOF 5 (o:=0) (i:=x) (cur:=D[x]!) (u:=orS D[x]! 1) (by first | omega | (simp; omega)) rfl rfl rfl rfl (by first | omega | (simp; omega)) (rfl) ⟨rfl,rfl⟩ rfl zaa rfl rfl trivial (dG (xms rfl (xmi rfl (xms rfl (xmi rfl (TL.iaO rfl (fun _=>rfl) rfl zae (by first | omega | (simp; omega)) rfl rfl ?_))))))))
 refine TL.ldRS 5 (.int _ _) rfl rfl (zcM (by first | omega | (simp; omega))) (by first | omega | (simp; omega)) (rfl) zaa rfl rfl (TL.or _ rfl rfl rfl rfl rfl (TL.iaO rfl (fun _=>rfl) rfl zae (by first | omega | (simp; omega)) rfl rfl (TL.stOF 5 (o:=0) (i:=y) (cur:=(D.setIfInBounds x (orS D[x]! 1))[y]!) (u:=orS (D.setIfInBounds x (orS D[x]! 1))[y]! 1) (by first | omega | (simp; omega)) rfl rfl rfl rfl (by first | omega | (simp; omega)) (rfl) ⟨rfl,rfl⟩ rfl zaa rfl rfl trivial (dI (xmi rfl (TL.add (((k+1:Nat):Int)) rfl rfl (wrN (by omega)) rfl rfl (xai rfl (TL.done ?_))))))))
 refine TQ.roundK ((k+1,_)) ⟨⟨(show k+1≤d.size by omega),hK.side (by assumption) hx hy (by omega) (by omega)⟩,(show d.size - (k+1)<d.size - k by omega)⟩ ⟨rfl,trivial⟩ ⟨rfl,trivial⟩ (kE4 rfl rfl rfl rfl trivial) (kL5 rfl rfl rfl rfl rfl trivial)
 refine dE rfl (sA (xms rfl (xas rfl (dR ?_))))
 refine FQ.ret1 (v:=(.slice _ _ _)) (Bs:=[_,_,_,_,_]) [0,1,2,3,5] rfl rfl rfl ⟨rfl,rfl,rfl,rfl,rfl,trivial⟩ ?_
 obtain rfl:k=d.size:=by omega
 exact ⟨D,rfl,hK.size,fun x hx=>hK.all hl hIR hM hx⟩
set_option maxHeartbeats 1000000 in
theorem znm {l:Lay} (hl:l.Ok) {σ:M} {nv:Value} {ca xa:Option Addr} {mr bc offc cn cc bx offx xn xc:Nat} {Acl Ax:Assn} {fc:Nat→Int} {fx:Nat→Nm} {ps:List (Nm×Nat)} (hB:BookOk l σ ca bc offc cn Acl fc xa bx offx xn Ax fx ps) {pr mk:Int→Int} {F:Int→T} {g:G} {L:Int→Int→List Int} {w:Value} {d:Array EdR} (hIR:InvR l pr σ F mk g L) (hM:Mt g d) {i:Int}  : Go.Eng.Fn Tryz.prog 74 [.agg #[.int .i64 l.V,.int .i64 l.S,.int .i64 l.T,nv,.slice ca cn cc,.map (some mr),.slice xa xn xc],w,.int .i64 i] [Acl,mapA mr nmV natV ps,Ax,ownA encE 5 65 w d] (fun x Bs=>∃ D:Array (Int×Int),Bs=[Acl,mapA mr nmV natV ps,Ax,ownA encE 5 65 w d,ownA encP 2 70 x D]∧(D.size:Int)=l.S∧∀ s,s<D.size→D[s]! =grA g i s):=by
 have hcn:=hB.hcn
 have hxn:=hB.hxn
 have hnb:=zaz hl
 have hcb:=zaO hl
 have hlb:=zaU hl
 have hEd:=hIR.edges
 have hdz:d.size≤l.S:=Rel.size hl ⟨g,⟨F,mk,L,hIR⟩,hM⟩
 have lb:=zb9 hl
 refine Fn.enter (Tryz.func74) rfl rfl (fun w0 R=>?_)
 refine sA (xB 4 rfl (fun bk4=>(TL.asg (.slice none 0 0) rfl rfl rfl (dA (xf 0 zbh rfl (xf 1 zbO rfl (xli 4 zaa rfl rfl (TL.mkO 5 (enc:=encP) (N:=l.S) ((0,0)) rfl rfl zd1 zgw rfl (by decide) (by omega) rfl rfl (fun bk5=>⟨trivial,?_⟩)))))))))
 refine xas rfl (dS (TC.seq (TC.ownW 3 rfl (fun a9 g9 c9 hv9 hc9 ha9=>?_))))
 cases hv9
 refine TC.region (xai rfl (dK (TC.loopK (X:=Nat×Array (Int×Int)) [1,2,6,7] [0,1,2,3,4] (fun ⟨s,D⟩=>[(8,.int .i64 ((s:Nat):Int))]) (fun ⟨s,D⟩=>[(5,ownA encP 2 70 (.slice (some ⟨bk5,0,none⟩) l.S l.S) D)]) (fun ⟨s,D⟩=>(s≤l.S∧D.size=l.S)∧∀ j,j<s→D[j]! =(-1,-1)) (fun ⟨s,D⟩=>l.S - s) ((0,Array.replicate l.S (0,0))) ⟨⟨Nat.zero_le _,by simp⟩,fun j hj=>absurd hj (Nat.not_lt_zero _)⟩ ⟨rfl,trivial⟩ ⟨rfl,trivial⟩ (fun z hI=>?_))))
 obtain ⟨s,D⟩:=z
 obtain ⟨⟨hs,hDz⟩,hDj⟩:=hI
 replace hs:s≤l.S:=hs
 replace hDz:D.size=l.S:=hDz
 refine TC.sub (env':=[(8,_),(1,_),(2,_),(6,_),(7,_)]) (L':=[(5,_),(0,_),(1,_),(2,_),(3,_),(4,_)]) ⟨rfl,rfl,rfl,rfl,rfl,trivial⟩ ⟨rfl,rfl,rfl,rfl,rfl,rfl,trivial⟩ (sB (xmi rfl (xms rfl (xz zaY rfl (TL.lss rfl rfl rfl rfl (fun q1=>?_) (fun q1=>?_))))))
 refine TL.done (TQ.then (TC.condT rfl (TC.skip (TQ.then (TC.seq (TC.block (TC.region (xms rfl ?_))))))))
 refine xmi rfl (TL.bldA [.int .i64 0,.int .i64 0] [(.int _ _),(.int _ _)] [_,_] zgw zaQ ⟨rfl,rfl,trivial⟩ ⟨rfl,rfl⟩ rfl rfl (TL.iaO rfl (fun _=>rfl) rfl zaY (by first | omega | (simp; omega)) rfl rfl (TL.stO 5 (i:=s) (u:=(-1,-1)) (by omega) rfl rfl rfl (zgQ) (by omega) zfo rfl rfl trivial (dI (xmi rfl (TL.add (((s+1:Nat):Int)) rfl rfl (wrN (by omega)) rfl rfl (xai rfl (TL.done ?_))))))))
 refine TQ.roundK ((s+1,_)) ⟨⟨⟨(show s+1≤l.S by omega),(show (D.setIfInBounds _ _).size=l.S by simp; omega)⟩,fun j hj=>(get!_set' (by omega)).trans (if hjs:s=j then if_pos hjs else (if_neg hjs).trans (hDj j (by omega)))⟩,(show l.S - (s+1)<l.S - s by omega)⟩ ⟨rfl,trivial⟩ ⟨rfl,trivial⟩ (kE4 rfl rfl rfl rfl trivial) (kL5 rfl rfl rfl rfl rfl trivial)
 refine dE rfl (TC.seq (TC.seq ?_))
 obtain rfl:s=l.S:=by omega
 refine TC.region (xai rfl (dK (TC.loopK (X:=Nat×Array (Int×Int)) [1,2,6,7] [0,1,2,3,4] (fun ⟨k,D⟩=>[(9,.int .i64 ((k:Nat):Int))]) (fun ⟨k,D⟩=>[(5,ownA encP 2 70 (.slice (some ⟨bk5,0,none⟩) l.S l.S) D)]) (fun ⟨k,D⟩=>(k≤d.size∧D.size=l.S)∧GrI g d i k D) (fun ⟨k,D⟩=>d.size - k) ((0,D)) ⟨⟨Nat.zero_le _,by omega⟩,⟨fun q hq=>absurd hq (Nat.not_lt_zero _),fun s hs _=>hDj s (by omega)⟩⟩ ⟨rfl,trivial⟩ ⟨rfl,trivial⟩ (fun z hI=>?_))))
 obtain ⟨k,D⟩:=z
 obtain ⟨⟨hk,hDz⟩,hG⟩:=hI
 replace hk:k≤d.size:=hk
 replace hDz:D.size=l.S:=hDz
 replace hG:GrI g d i k D:=hG
 refine TC.sub (env':=[(9,_),(1,_),(2,_),(6,_),(7,_)]) (L':=[(5,_),(0,_),(1,_),(2,_),(3,_),(4,_)]) ⟨rfl,rfl,rfl,rfl,rfl,trivial⟩ ⟨rfl,rfl,rfl,rfl,rfl,rfl,trivial⟩ (sB (xmi rfl (xmv rfl (xz zah rfl (TL.lss rfl rfl rfl rfl (fun q2=>?_) (fun q2=>?_))))))
 refine TL.done (TQ.then (TC.condT rfl (TC.skip (TQ.then (TC.seq (TC.block (TC.seq ?_)))))))
 obtain ⟨r1,r2,r3,r4,r5⟩:=hM.row k (by omega)
 have hrs:=hEd.rng _ r1
 refine TC.region (xmv rfl (xmi rfl (TL.iaO rfl ha9 rfl zah (by omega) rfl rfl (xf 4 zek rfl (TL.ldRF 3 (.bool _) rfl rfl (zab ha9) (by omega) (zbg _).1 rfl zfj rfl rfl (xmb rfl (TL.cases rfl (fun q3=>?_) (fun q3=>?_))))))))
 refine xmv rfl (xmi rfl (TL.iaO rfl ha9 rfl zah (by omega) rfl rfl (xf 3 zcS rfl (TL.ldRF 3 (.int _ _) rfl rfl (zab ha9) (by omega) (zbg _).1 rfl zaa rfl rfl (xmi rfl (TL.geq rfl rfl rfl rfl (fun q4=>?_) (fun q4=>?_)))))))
 refine xpT rfl (TL.done (TQ.then (TC.condT rfl ?_)))
 obtain ⟨s,hs⟩:∃ z:Nat,d[k]!.slot=(z:Int):=⟨d[k]!.slot.toNat,by have:=hrs.1; omega⟩
 have hrs1:=hrs.1
 refine TC.draw [(0,true),(1,true),(2,true),(3,true),(4,true),(5,true),(6,true),(7,true),(8,true),(9,true),(10,true),(11,true),(12,true),(13,true),(14,true),(15,true),(16,true),(17,true),(18,false)] [3] fc_m (by kernel_rfl) (xms rfl (xmv rfl (xmi rfl (TL.iaO rfl ha9 rfl zah (by omega) rfl rfl (xf 0 zaS rfl (TL.ldRF 3 (.int .i64 (s:Int)) rfl rfl (zab ha9) (by omega) (zbg _).1 (by rw [←hs]; rfl) zaa rfl rfl (xmv rfl (xmi rfl ?_))))))))
 refine TL.iaO rfl ha9 rfl zah (by omega) rfl rfl (xf 1 zb6 rfl (TL.ldRF 3 (.int _ _) rfl rfl (zab ha9) (by omega) (zbg _).1 rfl zaa rfl rfl (xmv rfl (xmi rfl (TL.iaO rfl ha9 rfl zah (by omega) rfl rfl (xf 2 zbx rfl (TL.ldRF 3 (.int _ _) rfl rfl (zab ha9) (by omega) (zbg _).1 rfl zaa rfl rfl (TL.bldA [.int .i64 0,.int .i64 0] [(.int _ _),(.int _ _)] [_,_] zgw zaQ ⟨rfl,rfl,trivial⟩ ⟨rfl,rfl⟩ rfl rfl ?_))))))))
 refine TL.iaO rfl (fun _=>rfl) rfl zaY (by first | omega | (simp; omega)) rfl rfl (TL.stO 5 (i:=s) (u:=(d[k]!.u,d[k]!.v)) (by omega) rfl rfl rfl (zgQ) (by omega) zfo rfl rfl (kL1 rfl trivial) (dI (xmi rfl (TL.add (((k+1:Nat):Int)) rfl rfl (wrN (by omega)) rfl rfl (xai rfl (TL.done (TQ.roundK ((k+1,_)) ⟨⟨⟨(show k+1≤d.size by omega),(show (D.setIfInBounds _ _).size=l.S by simp; omega)⟩,hG.put hM (by omega) hs (by omega) ⟨r1,by rw [r5]; assumption,by rw [r4]; omega⟩ (fun q hq=>(hEd.rng _ (hM.row q hq).1).1.1)⟩,(show d.size - (k+1)<d.size - k by omega)⟩ ⟨rfl,trivial⟩ ⟨rfl,trivial⟩ (kE4 rfl rfl rfl rfl trivial) (kL5 rfl rfl rfl rfl rfl trivial))))))))
 refine xpG rfl (TL.done (TQ.then (TC.condF rfl (TC.skip (TQ.inBlock (TQ.then (TC.region (xmi rfl ?_))))))))
 refine TL.add (((k+1:Nat):Int)) rfl rfl (wrN (by omega)) rfl rfl (xai rfl (TL.done (TQ.roundK ((k+1,_)) ⟨⟨⟨(show k+1≤d.size by omega),hDz⟩,hG.skip (fun hp=>by have:=hp.2.2; omega)⟩,(show d.size - (k+1)<d.size - k by omega)⟩ ⟨rfl,trivial⟩ ⟨rfl,trivial⟩ (kE4 rfl rfl rfl rfl trivial) (kL5 rfl rfl rfl rfl rfl trivial))))
 refine xo rfl (xo rfl (xo rfl (xo rfl (xo rfl (xo rfl (xo rfl (xpF rfl (TL.done ?_))))))))
 refine TQ.then (TC.condF rfl (TC.skip (TQ.inBlock (TQ.then (TC.region (xmi rfl (TL.add (((k+1:Nat):Int)) rfl rfl (wrN (by omega)) rfl rfl (xai rfl ?_))))))))
 refine TL.done (TQ.roundK ((k+1,_)) ⟨⟨⟨(show k+1≤d.size by omega),hDz⟩,hG.skip (fun hp=>absurd ((r5.symm.trans hp.2.1).symm.trans (by assumption)) (by decide))⟩,(show d.size - (k+1)<d.size - k by omega)⟩ ⟨rfl,trivial⟩ ⟨rfl,trivial⟩ (kE4 rfl rfl rfl rfl trivial) (kL5 rfl rfl rfl rfl rfl trivial))
 refine dE rfl (sA (xms rfl (xas rfl (dR ?_))))
 refine FQ.ret1 (v:=(.slice _ _ _)) (Bs:=[_,_,_,_,_]) [0,1,2,3,5] rfl rfl rfl ⟨rfl,rfl,rfl,rfl,rfl,trivial⟩ ?_
 obtain rfl:k=d.size:=by omega
 exact ⟨D,rfl,by omega,fun s hs=>hG.all hM hs⟩
theorem zny {l:Lay} (hl:l.Ok) {mk pr:Int→Int} {rv:Value} {pa ka va:Option Addr} {bp np cp bk nk ck bv nv cv:Nat} {Apr Amk Avx:Assn} {fp fk:Nat→Int} {fv:Nat→Bool} (h9:F9 l mk pr pa bp np Apr fp ka bk nk Amk fk va bv nv Avx fv) {x y:Int} (hx:l.nd x) (hy:l.nd y):FnD Tryz.prog 158 [.agg #[rv,.slice pa np cp,.slice ka nk ck,.slice va nv cv],.int .i64 x,.int .i64 y] [Apr] (.bool (decide (ab pr x y))) [Apr]:=by
 have hnb:=zaz hl
 have hpn:=h9.pn
 obtain ⟨a,rfl⟩:=Int.eq_ofNat_of_zero_le (show (0:Int)≤x from by have:=hx.1; omega)
 obtain ⟨b,rfl⟩:=Int.eq_ofNat_of_zero_le (show (0:Int)≤y from by have:=hy.1; omega)
 have e1:fp a=pr a:=h9.pv _ hx
 have e2:fp b=pr b:=h9.pv _ hy
 have hx1:=hx.2
 have hy1:=hy.2
 refine Fn.enter (Tryz.func158) rfl rfl (fun w0 R=>?_)
 refine sA (xB 1 rfl (fun bk1=>(xaf rfl (dS (TC.draw [(0,true),(1,true),(2,true),(3,true),(4,true),(5,true),(6,true),(7,true),(8,true),(9,true),(10,true),(11,true)] [0,1] fc_m (by kernel_rfl) (xf 1 zb0 rfl (xls 1 zbB rfl rfl (xmi rfl (TL.iaO rfl h9.pa rfl zax (by omega) rfl rfl ?_)))))))))
 refine TL.ldRS 0 (.int _ _) rfl rfl h9.pA (by omega) (rfl) zeM rfl rfl (xf 1 zb0 rfl (xls 1 zbB rfl rfl (xmi rfl (TL.iaO rfl h9.pa rfl zax (by omega) rfl rfl (TL.ldRS 0 (.int _ _) rfl rfl h9.pA (by omega) (rfl) zeM rfl rfl (xai rfl (xai rfl (dA ?_))))))))
 refine xmi rfl (xmi rfl (TL.gtr rfl rfl rfl rfl (fun q1=>?_) (fun q1=>?_)))
 refine xmt rfl (xo rfl (xo rfl (xo rfl (xo rfl (xo rfl (xo rfl (xo rfl (xo rfl ?_))))))))
 refine xpT rfl (xat rfl (dR ?_))
 refine FQ.ret1 (v:=(.bool true)) (Bs:=[_]) [0] rfl rfl rfl ⟨rfl,trivial⟩ ?_
 exact ⟨congrArg Value.bool (by first | (rw [eq_comm,decide_eq_true_iff]; unfold ab; omega) | (rw [eq_comm,decide_eq_false_iff_not]; unfold ab; omega) | (rw [decide_eq_decide]; unfold ab; omega)),rfl⟩
 refine xmf rfl (xmi rfl (xmi rfl (TL.eql rfl rfl rfl rfl (fun q2=>?_) (fun q2=>?_))))
 refine xmt rfl (xmi rfl (xmi rfl (TL.lssV rfl rfl rfl rfl (TL.pickT (.bool _) rfl rfl rfl rfl (TL.pickF (.bool _) rfl rfl rfl rfl (xab rfl (dR ?_)))))))
 refine FQ.ret1 (v:=(.bool _)) (Bs:=[_]) [0] rfl rfl rfl ⟨rfl,trivial⟩ ?_
 exact ⟨congrArg Value.bool (by first | (rw [eq_comm,decide_eq_true_iff]; unfold ab; omega) | (rw [eq_comm,decide_eq_false_iff_not]; unfold ab; omega) | (rw [decide_eq_decide]; unfold ab; omega)),rfl⟩
 refine xmf rfl (xo rfl (xo rfl (xo rfl (xpF rfl (xpF rfl (xaf rfl (dR ?_)))))))
 refine FQ.ret1 (v:=(.bool false)) (Bs:=[_]) [0] rfl rfl rfl ⟨rfl,trivial⟩ ?_
 exact ⟨congrArg Value.bool (by first | (rw [eq_comm,decide_eq_true_iff]; unfold ab; omega) | (rw [eq_comm,decide_eq_false_iff_not]; unfold ab; omega) | (rw [decide_eq_decide]; unfold ab; omega)),rfl⟩
theorem zpk {p l r n v m a:Int} (h:SmOk n v m a):FnD Tryz.prog 117 [.agg #[.int .i64 p,.int .i64 l,.int .i64 r,.int .i64 n,.int .i64 v,.int .i64 m,.int .i64 a]] [] (.int .u64 (Sm n v m a)) []:=by
 have h1:=h.n
 have h2:=h.v
 have h3:=h.m
 have h4:=h.a
 refine Fn.enter (Tryz.func117) rfl rfl (fun w0 R=>?_)
 refine sA (xB 0 rfl (fun bk0=>(xai rfl (dA (xf 6 zc1 rfl (xli 0 zaa rfl rfl (TL.conv _ rfl zdz zaF (zdL (by omega)) rfl rfl (TL.mul _ rfl rfl (zdL (by omega)) rfl rfl (xf 5 zjJ rfl ?_)))))))))
 refine xli 0 zaa rfl rfl (TL.conv _ rfl zdz zaF (zdL (by omega)) rfl rfl (TL.add _ rfl rfl (zdL (by omega)) rfl rfl (TL.mul _ rfl rfl (zdL (by omega)) rfl rfl (xf 4 zeO rfl (xli 0 zaa rfl rfl (TL.conv _ rfl zdz zaF (zdL (by omega)) rfl rfl (TL.add _ rfl rfl (zdL (by omega)) rfl rfl (TL.mul _ rfl rfl (zdL (by omega)) rfl rfl ?_))))))))
 refine xf 3 zjK rfl (xli 0 zaa rfl rfl (TL.conv _ rfl zdz zaF (zdL (by omega)) rfl rfl (TL.add _ rfl rfl (zdL (by omega)) rfl rfl (xai rfl (dR ?_)))))
 refine FQ.ret1 (v:=(.int _ _)) (Bs:=[]) [] rfl rfl rfl trivial ?_
 exact ⟨congrArg (Value.int .u64) (by unfold Sm; omega),rfl⟩
set_option maxHeartbeats 2000000 in
theorem znG {l:Lay} (hl:l.Ok) {mk pr:Int→Int} {rv:Value} {pa ka va:Option Addr} {bp np cp bk nk ck bv nv cv:Nat} {Apr Amk Avx:Assn} {fp fk:Nat→Int} {fv:Nat→Bool} (h9:F9 l mk pr pa bp np Apr fp ka bk nk Amk fk va bv nv Avx fv) {t:T} {k ob on:Nat} {Ari:Assn} {D:Array NdR} {par:Int} {ra:Option Addr} {rb roff rn rc:Nat} {f:Nat→Int} (hm:mkOk mk) (hon:(on:Int)=l.nodes+1) (hk:t.size<k) (hD:D.size=on) (hra:0<rn→ra=some ⟨rb,roff,none⟩) (hri:zaW Ari encI 1 rb roff rn f) (hrc:rn≤rc) (hrn:rn=t.size) (hf:∀ j,j<rn→f j=t.list[j]!) (hh:heap pr t) (hnd:∀ x∈t.list,l.nd x) (hsz:t.size≤560)  : FnD Tryz.prog 143 [.agg #[rv,.slice pa np cp,.slice ka nk ck,.slice va nv cv],.slice ra rn rc,.int .i64 par,.slice (some ⟨ob,0,none⟩) on on] [Apr,Amk,Avx,Ari,ownA encD 7 169 (.slice (some ⟨ob,0,none⟩) on on) D] (.int .i64 t.root) [Apr,Amk,Avx,Ari,ownA encD 7 169 (.slice (some ⟨ob,0,none⟩) on on) (wT l mk par t D)]:=by
 have hnb:=zaz hl
 have hpn:=h9.pn
 have hkn:=h9.kn
 have hvn:=h9.vn
 induction k generalizing t par D ra roff rn rc f
 case zero=>omega
 case succ k ih =>
  refine Fn.enter (Tryz.func143) rfl rfl (fun w0 R=>?_)
  refine sA (xB 5 rfl (fun bk5=>(xai rfl (dB (xms rfl (xz zae rfl (TL.eql rfl rfl rfl rfl (fun q1=>?_) (fun q1=>?_))))))))
  refine TL.done (TQ.then (TC.condT rfl (TC.seq ?_)))
  obtain rfl:t=.nil:=by cases t with | nil=>rfl | node a x b=>exact absurd (hrn.trans T.size_node) (by omega)
  refine TC.region (xai rfl (dRR ?_))
  refine FQ.ret1 (v:=(.int _ _)) (Bs:=[_,_,_,_,_]) [0,1,2,3,4] rfl rfl rfl ⟨rfl,rfl,rfl,rfl,rfl,trivial⟩ ?_
  exact ⟨rfl,rfl⟩
  refine TL.done (TQ.then (TC.condF rfl (TC.skip (TQ.then (TC.seq ?_)))))
  obtain ⟨a,x,b,rfl⟩:∃ a x b,t=.node a x b:=by cases t with | nil=>exact absurd (hrn.trans (show T.nil.size=0 from rfl)) (by omega) | node a x b=>exact ⟨a,x,b,rfl⟩
  have hs:=T.size_node (a:=a) (b:=b) (x:=x)
  have hfx:f a.size=x:=(hf _ (by omega)).trans (zjn rfl)
  have hxn:=hnd x (by simp [T.list])
  obtain ⟨z,rfl⟩:=Int.eq_ofNat_of_zero_le (show (0:Int)≤x from by have:=hxn.1; omega)
  have hz2:=hxn.2
  have hfn:∀ j,j<rn→l.nd (f j):=fun j hj=>by rw [hf j hj]; have hj2:j<(T.node a (z:Int) b).list.length:=(by show j<T.size _; omega); rw [getElem!_pos _ j hj2]; exact hnd _ (List.getElem_mem _)
  refine TC.region (xai rfl (dB (xai rfl (dK (TC.loopK (X:=Nat×Nat) [1,2,3,4,8] [0,1,2,3,4,5] (fun ⟨i,q⟩=>[(10,.int .i64 ((i:Nat):Int)),(9,.int .i64 ((q:Nat):Int))]) (fun ⟨i,q⟩=>[]) (fun ⟨i,q⟩=>AtI a.size rn i q) (fun ⟨i,q⟩=>rn - i) ((0,0)) (AtI.start (by omega)) ⟨rfl,rfl,trivial⟩ trivial (fun w hI=>?_))))))
  obtain ⟨i,q⟩:=w
  replace hI:AtI a.size rn i q:=hI
  refine TC.sub (env':=[(10,_),(9,_),(1,_),(2,_),(3,_),(4,_),(8,_)]) (L':=[(0,_),(1,_),(2,_),(3,_),(4,_),(5,_)]) ⟨rfl,rfl,rfl,rfl,rfl,rfl,rfl,trivial⟩ ⟨rfl,rfl,rfl,rfl,rfl,rfl,trivial⟩ (sB (xmi rfl (xms rfl (xz zae rfl (TL.lss rfl rfl rfl rfl (fun q2=>?_) (fun q2=>?_))))))
  refine TL.done (TQ.then (TC.condT rfl (TC.skip (TQ.then (TC.seq (TC.block (TC.seq ?_)))))))
  have hI2:=hI.2.1
  refine TC.draw [(0,true),(1,true),(2,true),(3,true),(4,true),(5,true),(6,true),(7,true),(8,true),(9,false)] [3,5] fc_m (by kernel_rfl) (xL4 5 zdr rfl rfl (xms rfl (xmi rfl (TL.iaO rfl hra rfl zae (by omega) rfl rfl (TL.ldRS 3 (.int _ _) rfl rfl hri (by omega) (rfl) zaa rfl rfl (xms rfl (xmi rfl (TL.iaO rfl hra rfl zae (by omega) rfl rfl ?_))))))))
  refine TL.ldRS 3 (.int _ _) rfl rfl hri (by omega) (rfl) zaa rfl rfl (TL.callD [0] [0] (zny hl h9 (hfn _ (by omega)) (hfn _ (by omega))) ⟨rfl,rfl,rfl,trivial⟩ ⟨rfl,trivial⟩ zpW rfl rfl rfl rfl rfl (kL2 rfl rfl trivial) (TL.casesP rfl (fun q3=>?_) (fun q3=>?_)))
  refine TL.done (TQ.then (TC.condT rfl (TC.region (xmi rfl (xai rfl (dI (xmi rfl (TL.add (((i+1:Nat):Int)) rfl rfl (wrN (by omega)) rfl rfl ?_))))))))
  refine xai rfl (TL.done (TQ.roundK ((i+1,i)) ⟨(by rw [hrn] at hI ⊢; exact AtI.up hh hI (by omega) (by rw [←hf i (by omega),←hf q (by omega)]; assumption)),(show rn - (i+1)<rn - i by omega)⟩ ⟨rfl,rfl,trivial⟩ trivial (kE5 rfl rfl rfl rfl rfl trivial) (kL6 rfl rfl rfl rfl rfl rfl trivial)))
  refine TL.done (TQ.then (TC.condF rfl (TC.skip (TQ.inBlock (TQ.then (TC.region (xmi rfl (TL.add (((i+1:Nat):Int)) rfl rfl (wrN (by omega)) rfl rfl ?_))))))))
  refine xai rfl (TL.done (TQ.roundK ((i+1,q)) ⟨(by rw [hrn] at hI ⊢; exact AtI.stay hh hI (by omega) (by rw [←hf i (by omega),←hf q (by omega)]; assumption)),(show rn - (i+1)<rn - i by omega)⟩ ⟨rfl,rfl,trivial⟩ trivial (kE5 rfl rfl rfl rfl rfl trivial) (kL6 rfl rfl rfl rfl rfl rfl trivial)))
  refine dE rfl (TC.seq ?_)
  obtain rfl:q=a.size:=AtI.end (by rw [←hrn]; exact hI) (by rw [←hrn]; omega)
  refine TC.region (xms rfl (xmi rfl (TL.iaO rfl hra rfl zae (by omega) rfl rfl (TL.ldRS 3 (.int _ _) rfl rfl hri (by omega) (rfl) zaa rfl rfl (xai rfl (dS ?_))))))
  rw [hfx]
  refine TC.region (xmi rfl (xms rfl (xz zae rfl (xf 2 zeP rfl (xls 5 zgy rfl rfl (xmi rfl (TL.iaO rfl h9.ka rfl zae (by omega) rfl rfl (TL.ldRS 1 (.int _ _) rfl rfl h9.kA (by omega) (rfl) zaa rfl rfl ?_))))))))
  refine TL.bld [.int .i64 0,.int .i64 0,.int .i64 0,.int .i64 0,.int .i64 0,.int .i64 0,.int .i64 0] [(.int _ _),(.int _ _),(.int _ _)] [_,_,_,_,_,_,_] zh2 zpP ⟨rfl,rfl,rfl,trivial⟩ ⟨rfl,rfl⟩ rfl rfl (TL.alloc 6 (cs:=#[.int .i64 0,.int .i64 0,.int .i64 0,.int .i64 0,.int .i64 0,.int .i64 0,.int .i64 0]) zh2 rfl rfl rfl (fun _=>trivial) (fun bk6=>(TL.stW 6 7 [_,_,_,_,_,_,_] rfl rfl rfl rfl rfl rfl zdq rfl rfl trivial (dB (xai rfl (dK ?_))))))
  refine TC.loopK (X:=Nat) [1,3,4,8,9,11,12] [0,1,2,3,4,5] (fun j=>[(13,.int .i64 ((j:Nat):Int))]) (fun j=>[(6,pt bk6 (.cells #[.int .i64 par,.int .i64 0,.int .i64 0,.int .i64 ((rn:Nat):Int),.int .i64 (vts l ((T.node a (z:Int) b).list.take j)),.int .i64 (fk z),.int .i64 ((alm mk ((T.node a (z:Int) b).list.take j):Nat):Int)] 169))]) (fun j=>j≤rn) (fun j=>rn - j) (0) (Nat.zero_le _) ⟨rfl,trivial⟩ ⟨rfl,trivial⟩ (fun j hI=>?_)
  refine TC.sub (env':=[(13,_),(1,_),(3,_),(4,_),(8,_),(9,_),(11,_),(12,_)]) (L':=[(6,_),(0,_),(1,_),(2,_),(3,_),(4,_),(5,_)]) ⟨rfl,rfl,rfl,rfl,rfl,rfl,rfl,rfl,trivial⟩ ⟨rfl,rfl,rfl,rfl,rfl,rfl,rfl,trivial⟩ (sB (xmi rfl (xms rfl (xz zae rfl (TL.lss rfl rfl rfl rfl (fun q3=>?_) (fun q3=>?_))))))
  refine TL.done (TQ.then (TC.condT rfl (TC.skip (TQ.then (TC.seq (TC.block (TC.seq (TC.seq ?_))))))))
  have hny:=hfn j (by omega)
  obtain ⟨y,hy⟩:=Int.eq_ofNat_of_zero_le (show (0:Int)≤f j from by have:=hny.1; omega)
  have hny1:=hny.1
  have hny2:=hny.2
  rw [hy] at hny
  have hyl:(T.node a (z:Int) b).list[j]! =(y:Int):=by rw [←hf j (by omega),hy]
  have hv1:fv y=_:=h9.vv _ hny
  have hk1:fk y=_:=h9.kv _ hny
  have hvb:=znD (l:=l) ((T.node a (z:Int) b).list.take j)
  have hvl:=List.length_take_le j (T.node a (z:Int) b).list
  have htk:=znC (l:=l) (r:=(T.node a (z:Int) b).list) (i:=j) (by show j<T.size _; omega)
  have hta:=zov (mk:=mk) (r:=(T.node a (z:Int) b).list) (i:=j) (by show j<T.size _; omega)
  rw [hyl] at htk hta
  have hb4:=znt hm ((T.node a (z:Int) b).list.take j)
  have hm4:=hm (y:Int)
  refine TC.draw [(0,true),(1,true),(2,true),(3,true),(4,true),(5,true),(6,true),(7,true)] [2,3,5] fc_m (by kernel_rfl) (xf 3 zc2 rfl (xls 5 zgz rfl rfl (xms rfl (xmi rfl (TL.iaO rfl hra rfl zae (by omega) rfl rfl (TL.ldRS 3 (.int .i64 (y:Int)) rfl rfl hri (by omega) (by rw [←hy]; rfl) zaa rfl rfl (TL.iaO rfl h9.va rfl zeN (by omega) rfl rfl (TL.ldRS 2 (.bool _) rfl rfl h9.vA (by omega) (rfl) zfj rfl rfl ?_))))))))
  refine TL.done (TQ.then (TC.cond rfl (fun q4=>?_) (fun q4=>?_)))
  refine TC.region (xf 4 zeO rfl (xli 6 zaa rfl rfl (TL.add _ rfl rfl (wr64 (by omega)) rfl rfl (xf 4 zeO rfl (TL.st 6 #[_,_,_,_,_,_,_] (.int _ _) rfl rfl rfl rfl rfl rfl zaa rfl rfl trivial (TL.done (TQ.then (TC.draw2 [(0,true),(1,true),(2,true),(3,true),(4,true),(5,true),(6,true),(7,true),(8,true),(9,true),(10,true),(11,true)] 12 [] [1,3,5,6] fc_m (by kernel_rfl) ?_))))))))
  refine xf 6 zc1 rfl (xli 6 zaa rfl rfl (xf 2 zeP rfl (xls 5 zgy rfl rfl (xms rfl (xmi rfl (TL.iaO rfl hra rfl zae (by omega) rfl rfl (TL.ldRS 3 (.int .i64 (y:Int)) rfl rfl hri (by omega) (by rw [←hy]; rfl) zaa rfl rfl (TL.iaO rfl h9.ka rfl zae (by omega) rfl rfl ?_))))))))
  refine TL.ldRS 1 (.int _ _) rfl rfl h9.kA (by omega) (rfl) zaa rfl rfl (TL.or _ rfl rfl rfl rfl rfl (xf 6 zc1 rfl (TL.late (TL.st 6 #[_,_,_,_,_,_,_] (.int _ _) rfl rfl rfl rfl rfl rfl zaa rfl rfl trivial (dI (xmi rfl (TL.add (((j+1:Nat):Int)) rfl rfl (wrN (by omega)) rfl rfl (xai rfl ?_))))))))
  refine TL.done (TQ.roundK (j+1) ⟨by omega,by omega⟩ ⟨rfl,trivial⟩ ⟨congrArg (fun z:Int×Int=>some (pt bk6 (.cells #[.int .i64 par,.int .i64 0,.int .i64 0,.int .i64 ((rn:Nat):Int),.int .i64 z.1,.int .i64 (fk _),.int .i64 z.2] 169))) (Prod.ext (by show _=vts l _; rw [htk,if_neg (by rw [show fv y=true by assumption] at hv1; simpa using hv1.symm)]) (by show orS _ (fk y)=((_:Nat):Int); rw [hta,hk1]; exact zpd hb4 hm4):((_,_):Int×Int)=(_,_)),trivial⟩ (kE7 rfl rfl rfl rfl rfl rfl rfl trivial) (kL6 rfl rfl rfl rfl rfl rfl trivial))
  refine TC.skip (TQ.then (TC.draw2 [(0,true),(1,true),(2,true),(3,true),(4,true),(5,true),(6,true),(7,true),(8,true),(9,true),(10,true),(11,true)] 12 [] [1,3,5,6] fc_m (by kernel_rfl) (xf 6 zc1 rfl (xli 6 zaa rfl rfl (xf 2 zeP rfl (xls 5 zgy rfl rfl (xms rfl (xmi rfl ?_))))))))
  refine TL.iaO rfl hra rfl zae (by omega) rfl rfl (TL.ldRS 3 (.int .i64 (y:Int)) rfl rfl hri (by omega) (by rw [←hy]; rfl) zaa rfl rfl (TL.iaO rfl h9.ka rfl zae (by omega) rfl rfl (TL.ldRS 1 (.int _ _) rfl rfl h9.kA (by omega) (rfl) zaa rfl rfl (TL.or _ rfl rfl rfl rfl rfl (xf 6 zc1 rfl (TL.late (TL.st 6 #[_,_,_,_,_,_,_] (.int _ _) rfl rfl rfl rfl rfl rfl zaa rfl rfl trivial (dI ?_))))))))
  refine xmi rfl (TL.add (((j+1:Nat):Int)) rfl rfl (wrN (by omega)) rfl rfl (xai rfl (TL.done (TQ.roundK (j+1) ⟨by omega,by omega⟩ ⟨rfl,trivial⟩ ⟨congrArg (fun z:Int×Int=>some (pt bk6 (.cells #[.int .i64 par,.int .i64 0,.int .i64 0,.int .i64 ((rn:Nat):Int),.int .i64 z.1,.int .i64 (fk _),.int .i64 z.2] 169))) (Prod.ext (by show _=vts l _; rw [htk,if_pos (by rw [show fv y=false by assumption] at hv1; simpa using hv1.symm)]; omega) (by show orS _ (fk y)=((_:Nat):Int); rw [hta,hk1]; exact zpd hb4 hm4):((_,_):Int×Int)=(_,_)),trivial⟩ (kE7 rfl rfl rfl rfl rfl rfl rfl trivial) (kL6 rfl rfl rfl rfl rfl rfl trivial)))))
  refine dE rfl (TC.seq ?_)
  rw [show List.take j (T.node a (z:Int) b).list=(T.node a (z:Int) b).list from List.take_of_length_le (by show T.size _≤j; omega)]
  refine TC.draw [(0,true),(1,true),(2,true),(3,true),(4,true),(5,true),(6,false),(7,true),(8,false)] [5] fc_m (by kernel_rfl) (xL4 5 zdr rfl rfl (xms rfl (xmi rfl (TL.slHi rfl rfl zae (by omega) rfl rfl (xmi rfl (xms rfl (TL.callD [0,1,2,3,4] [0,1,2,3,4] (ih (by omega) hD (fun h=>zfO (len:=rn) (i:=0) hra hrc (by omega)) (hri.take (m:=a.size) (by omega)) (by omega) rfl (fun j hj=>(hf j (by omega)).trans (zmb hj)) hh.2.2.1 (fun x hx=>hnd x (T.mem_node.2 (.inl hx))) (by omega)) ⟨rfl,rfl,rfl,rfl,trivial⟩ ⟨rfl,rfl,rfl,rfl,rfl,trivial⟩ zjU rfl rfl rfl rfl rfl (kL1 rfl trivial) (xf 1 zgD rfl ?_))))))))
  refine TL.st 6 #[_,_,_,_,_,_,_] (.int _ _) rfl rfl rfl rfl rfl rfl zaa rfl rfl (kL1 rfl trivial) (dS (TC.draw [(0,true),(1,true),(2,true),(3,true),(4,true),(5,true),(6,true),(7,false),(8,true),(9,false)] [5] fc_m (by kernel_rfl) (xL4 5 zdr rfl rfl (xms rfl (xmi rfl (TL.add (((a.size+1:Nat):Int)) rfl rfl (wrN (by omega)) rfl rfl (TL.slLo rfl rfl zae (by omega) rfl rfl (xmi rfl ?_))))))))
  refine xms rfl ?_
  rw [show rn - (a.size+1)=b.size by omega]
  refine TL.callD [0,1,2,3,4] [0,1,2,3,4] (ih (by omega) (by rw [zco]; exact hD) (fun h=>zfO (len:=rn) (i:=a.size+1) hra hrc (by omega)) (hri.drop (a.size+1) b.size (by omega)) (by omega) rfl (fun j hj=>(hf _ (by omega)).trans (zmc hj)) hh.2.2.2 (fun x hx=>hnd x (T.mem_node.2 (.inr (.inr hx)))) (by omega)) ⟨rfl,rfl,rfl,rfl,trivial⟩ ⟨rfl,rfl,rfl,rfl,rfl,trivial⟩ zjU rfl rfl rfl rfl rfl (kL1 rfl trivial) (xf 2 zgC rfl (TL.st 6 #[_,_,_,_,_,_,_] (.int _ _) rfl rfl rfl rfl rfl rfl zaa rfl rfl (kL1 rfl trivial) (dA (xms rfl (xmi rfl (xL7 6 zdq rfl rfl (TL.iaO rfl (fun _=>rfl) rfl zfl (by omega) rfl rfl ?_)))))))
  refine TL.stO 4 (i:=z) (u:=⟨par,a.root,b.root,((rn:Nat):Int),vts l (T.node a (z:Int) b).list,fk z,((alm mk (T.node a (z:Int) b).list:Nat):Int)⟩) (by rw [zco,zco]; exact hD) rfl rfl rfl (zqd) (by rw [zco,zco]; omega) zdq rfl rfl trivial (dA (xmi rfl (xai rfl (dR ?_))))
  refine FQ.ret1 (v:=(.int _ _)) (Bs:=[_,_,_,_,_]) [0,1,2,3,4] rfl rfl rfl ⟨rfl,rfl,rfl,rfl,rfl,trivial⟩ ?_
  refine ⟨rfl,congrArg (fun z=>[Apr,Amk,Avx,Ari,ownA encD 7 169 (.slice (some ⟨ob,0,none⟩) on on) z]) ?_⟩
  rw [wT,show fk z=mk z from h9.kv _ hxn,hrn]; rfl
theorem zma {l:Lay} (hl:l.Ok) {mk pr:Int→Int} {pa ka va:Option Addr} {bp np cp bk nk ck bv nv cv:Nat} {Apr Amk Avx:Assn} {fp fk:Nat→Int} {fv:Nat→Bool} (h9:F9 l mk pr pa bp np Apr fp ka bk nk Amk fk va bv nv Avx fv) {wa:Option Addr} {bw wn wc:Nat} {Arw IA:Assn} {W:Array SlV} {Rs:Array T} (hwa:0<wn→wa=some ⟨bw,0,none⟩) (hwA:zaW Arw encS 1 bw 0 wn (fun j=>W[j]!)) (hwn:wn=W.size) (hR:RsOk IA W Rs) (hRs:Rs.size≤560) (hm:mkOk mk) (hT:∀ j,j<Rs.size→heap pr Rs[j]!∧(∀ x∈Rs[j]!.list,l.nd x)∧Rs[j]!.size≤560)  : Go.Eng.Fn Tryz.prog 116 [.agg #[.slice wa wn wc,.slice pa np cp,.slice ka nk ck,.slice va nv cv]] [Apr,Amk,Avx,Arw,IA] (fun x Bs=>Bs=[Apr,Amk,Avx,Arw,IA,ownA encD 7 169 x (wR l mk Rs Rs.size (Array.replicate np ⟨0,0,0,0,0,0,0⟩))]):=by
 have hnb:=zaz hl
 have hpn:=h9.pn
 have hRz:=hR.size
 refine Fn.enter (Tryz.func116) rfl rfl (fun w0 R=>?_)
 refine sA (xB 5 rfl (fun bk5=>(TL.asg (.slice none 0 0) rfl rfl rfl (dA (xf 1 zb0 rfl (xls 5 zbB rfl rfl (xz zax rfl (TL.mkO 6 (enc:=encD) (N:=np) (⟨0,0,0,0,0,0,0⟩) rfl rfl zh6 zh2 rfl (by decide) (by omega) rfl rfl (fun bk6=>⟨trivial,?_⟩)))))))))
 refine xas rfl (dB (xai rfl (dK (TC.loopK (X:=Nat) [1,2,3] [0,1,2,3,4,5] (fun j=>[(4,.int .i64 ((j:Nat):Int))]) (fun j=>[(6,ownA encD 7 169 (.slice (some ⟨bk6,0,none⟩) np np) (wR l mk Rs j (Array.replicate np ⟨0,0,0,0,0,0,0⟩)))]) (fun j=>j≤wn) (fun j=>wn - j) (0) (Nat.zero_le _) ⟨rfl,trivial⟩ ⟨rfl,trivial⟩ (fun j hI=>(TC.sub (env':=[(4,_),(1,_),(2,_),(3,_)]) (L':=[(6,_),(0,_),(1,_),(2,_),(3,_),(4,_),(5,_)]) ⟨rfl,rfl,rfl,rfl,trivial⟩ ⟨rfl,rfl,rfl,rfl,rfl,rfl,rfl,trivial⟩ (sB (xmi rfl (xf 0 zgE rfl ?_)))))))))
 refine xls 5 zmE rfl rfl (xz zbG rfl (TL.lss rfl rfl rfl rfl (fun q1=>?_) (fun q1=>?_)))
 refine TL.done (TQ.then (TC.condT rfl (TC.skip (TQ.then (TC.seq (TC.block ?_))))))
 obtain ⟨t1,t2,bq,t3,t4⟩:=hR.at_ j (by omega)
 obtain ⟨u1,u2,u3⟩:=hT j (by omega)
 refine TC.draw [(0,true),(1,true),(2,true),(3,true),(4,true),(5,true),(6,true),(7,false)] [3,5] fc_m (by kernel_rfl) (xL4 5 zdr rfl rfl (xf 0 zgE rfl (xls 5 zmE rfl rfl (xmi rfl (TL.iaO rfl hwa rfl zbG (by omega) rfl rfl (TL.ldRS 3 (.slice _ _ _) rfl rfl hwA (by omega) (rfl) zgy rfl rfl (xms rfl (TL.callD [0,1,2,4,6] [0,1,2,4,6] (znG hl h9 hm hpn (Nat.lt_succ_self _) (by rw [zhx]; simp) t3 t4 t2 t1 (fun _ _=>rfl) u1 u2 u3) ⟨rfl,rfl,rfl,rfl,trivial⟩ ⟨rfl,rfl,rfl,rfl,rfl,trivial⟩ zjU rfl rfl rfl rfl rfl (kL2 rfl rfl trivial) ?_))))))))
 refine dI (xmi rfl (TL.add (((j+1:Nat):Int)) rfl rfl (wrN (by omega)) rfl rfl (xai rfl (TL.done (TQ.roundK (j+1) ⟨by omega,by omega⟩ ⟨rfl,trivial⟩ ⟨rfl,trivial⟩ (kE3 rfl rfl rfl trivial) (kL6 rfl rfl rfl rfl rfl rfl trivial))))))
 refine dE rfl (sA (xms rfl (xas rfl (dR ?_))))
 refine FQ.ret1 (v:=(.slice _ _ _)) (Bs:=[_,_,_,_,_,_]) [0,1,2,3,4,6] rfl rfl rfl ⟨rfl,rfl,rfl,rfl,rfl,rfl,trivial⟩ ?_
 obtain rfl:j=Rs.size:=by omega
 rfl
end Go.Proofs.YtfmjfdbmpkcndaaGreat
