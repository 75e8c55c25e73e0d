import Derived.Test.YtabjfnfglcghfaaGreatConA
set_option linter.unusedVariables false
set_option linter.unusedSimpArgs false
set_option maxRecDepth 20000
namespace Go.Proofs.YtabjfnfglcghfaaGreat
open Go.Eng Go.Tm
theorem ztJ {a:Option Addr} {b off n c:Nat} {A:Assn} {f:Nat->Int} (ha:0<n->a=some ⟨b,off,none⟩) (hn:n<=20000) (hA:zbh A encU 1 b off n f):Go.Eng.Fn Tryz.prog 106 [.slice a n c] [A] (fun v Bs=>Bs=[A,ownA encU 1 29 v ((List.range n).map f).toArray]):=by
 refine Fn.enter (Tryz.func106) rfl rfl (fun w0 R=>?_)
 refine sA (TL.asg (.slice none 0 0) rfl rfl rfl (dB (xms rfl (TL.nilS rfl rfl za4 rfl rfl (TL.cases rfl (fun q1=>?_) (fun q1=>?_))))))
 refine TL.done (TQ.then (TC.condT rfl (TC.seq ?_)))
 obtain rfl:n=0:=by
   rcases Nat.eq_zero_or_pos n with h | h
   ·exact h
   ·rw [ha h] at q1; simp at q1
 refine TC.nilA 1 (A:=ownA encU 1 29 (.slice none 0 0) ((List.range 0).map f).toArray) (.inl ⟨rfl,rfl⟩) (TC.region (TL.asg (.slice none 0 0) rfl rfl rfl (dRR ?_)))
 refine FQ.ret1 (v:=(.slice none 0 0)) (Bs:=[A,_]) [0,1] rfl rfl rfl ⟨rfl,rfl,trivial⟩ ?_
 rfl
 refine dF rfl (TL.bs0 2 encU za4 rfl rfl (fun bk2=>⟨trivial,?_⟩))
 refine xms rfl ?_
 obtain ⟨ad,rfl⟩:∃ ad,a=some ad:=Option.ne_none_iff_exists'.1 (by rintro rfl; simp at q1)
 refine TL.appS 2 0 (d2:=((List.range n).map f).toArray) rfl (zek f n) rfl (ha) rfl rfl (hA.congr fun i hi=>(zkU f hi).symm) zvr (by decide) zjl (by rw [zek]; show 0+n<=137438953472; omega) rfl rfl (fun v3=>⟨trivial,?_⟩)
 refine TL.conseq 2 (B:=ownA encU 1 29 v3 ((List.range n).map f).toArray) rfl (fun h hh=>by simpa using hh) trivial (xav rfl (dR ?_))
 refine FQ.ret1 (v:=_) (Bs:=[A,_]) [0,2] rfl rfl rfl ⟨rfl,rfl,trivial⟩ ?_
 rfl
theorem ztK {a:Option Addr} {b off n c:Nat} {A:Assn} {f:Nat->Int} (ha:0<n->a=some ⟨b,off,none⟩) (hn:n<=20000) (hA:zbh A Tm.encI 1 b off n f):Go.Eng.Fn Tryz.prog 150 [.slice a n c] [A] (fun v Bs=>Bs=[A,ownA Tm.encI 1 3 v ((List.range n).map f).toArray]):=by
 refine Fn.enter (Tryz.func150) rfl rfl (fun w0 R=>?_)
 refine sA (TL.asg (.slice none 0 0) rfl rfl rfl (dB (xms rfl (TL.nilS rfl rfl zak rfl rfl (TL.cases rfl (fun q1=>?_) (fun q1=>?_))))))
 refine TL.done (TQ.then (TC.condT rfl (TC.seq ?_)))
 obtain rfl:n=0:=by
   rcases Nat.eq_zero_or_pos n with h | h
   ·exact h
   ·rw [ha h] at q1; simp at q1
 refine TC.nilA 1 (A:=ownA Tm.encI 1 3 (.slice none 0 0) ((List.range 0).map f).toArray) (.inl ⟨rfl,rfl⟩) (TC.region (TL.asg (.slice none 0 0) rfl rfl rfl (dRR ?_)))
 refine FQ.ret1 (v:=(.slice none 0 0)) (Bs:=[A,_]) [0,1] rfl rfl rfl ⟨rfl,rfl,trivial⟩ ?_
 rfl
 refine dF rfl (TL.bs0 2 Tm.encI zak rfl rfl (fun bk2=>⟨trivial,?_⟩))
 refine xms rfl ?_
 obtain ⟨ad,rfl⟩:∃ ad,a=some ad:=Option.ne_none_iff_exists'.1 (by rintro rfl; simp at q1)
 refine TL.appS 2 0 (d2:=((List.range n).map f).toArray) rfl (zek f n) rfl (ha) rfl rfl (hA.congr fun i hi=>(zkU f hi).symm) zix (by decide) zfY (by rw [zek]; show 0+n<=137438953472; omega) rfl rfl (fun v3=>⟨trivial,?_⟩)
 refine TL.conseq 2 (B:=ownA Tm.encI 1 3 v3 ((List.range n).map f).toArray) rfl (fun h hh=>by simpa using hh) trivial (xav rfl (dR ?_))
 refine FQ.ret1 (v:=_) (Bs:=[A,_]) [0,2] rfl rfl rfl ⟨rfl,rfl,trivial⟩ ?_
 rfl
theorem zvJ {ab mb cap:Nat} {rs:Array Value} {σ:Array UInt64} {c:Cnt} (h0:0<σ.size) (h1:σ.size<=20000):Go.Eng.Fn Tryz.prog 58 [.pointer (some ⟨ab,0,none⟩)] [arO ab mb (σ.size) cap 139 c,pt mb (.cells (encM (σ)++rs) 29)] (fun v Bs=>∃ ab2 mb2,v=.pointer (some ⟨ab2,0,none⟩)/\Bs=[arO ab mb (σ.size) cap 139 c,pt mb (.cells (encM (σ)++rs) 29),arenaC ab2 mb2 139 29 (σ) (c)]):=by
 refine Fn.enter (Tryz.func58) rfl rfl (fun w0 R=>?_)
 refine sA (TL.asg (.pointer none) rfl rfl rfl (dS (TC.draw (od [1,3,5,7,11,13,15,17,8,19,20,23]) [0] fc_m (by kernel_rfl) (xmp rfl (xN0 rfl (xf 0 zdm rfl (xls 0 zh1 rfl rfl (xmp rfl ?_))))))))
 refine xN0 rfl (xf 1 zea rfl (xL5 0 zts rfl rfl (TL.call [1] [1,2] (ztJ (fun _=>rfl) h1 zxy) ⟨rfl,trivial⟩ ⟨rfl,trivial⟩ zyK rfl rfl rfl rfl ?_)))
 rintro v Bs rfl
 refine ⟨rfl,(kL1 rfl trivial),?_⟩
 refine TL.ownM 2 h0 rfl (fun _ _=>(kL1 rfl trivial)) (fun g2 cap2 rs2 hv=>?_)
 subst hv
 refine TL.bld [.slice none 0 0,.int .i64 0,.int .i64 0,.int .i64 0,.int .i64 0,.int .i64 0] [(.slice _ _ _),(.agg _)] [_,_,_,_,_,_] zsH zsK ⟨rfl,rfl,trivial⟩ ⟨rfl,rfl⟩ rfl rfl (TL.boxA 3 rfl rfl rfl (fun _=>(kL1 rfl trivial)) (fun bk3=>(xap rfl (dR (TQ.arenaC 3 2 (N:=σ.size) (c:=c) rfl rfl rfl (by decide) ?_)))))
 refine FQ.ret1 (v:=(.pointer (some ⟨_,_,none⟩))) (Bs:=[_,_,_]) [0,1,3] rfl rfl rfl ⟨rfl,rfl,rfl,trivial⟩ ?_
 exact ⟨_,_,rfl,rfl⟩
theorem zjS {ab mb:Nat} {σ:Array UInt64} {c:Cnt} (h0:0<σ.size) (h1:σ.size<=20000):Go.Eng.Fn Tryz.prog 58 [.pointer (some ⟨ab,0,none⟩)] [arenaC ab mb 139 29 (σ) (c)] (fun v Bs=>∃ ab2 mb2,v=.pointer (some ⟨ab2,0,none⟩)/\Bs=[arenaC ab mb 139 29 (σ) (c),arenaC ab2 mb2 139 29 (σ) (c)]) :=
 Fn.arenaX rfl (fun cap rs=>Fn.mono (zvJ h0 h1) fun v Bs ⟨ab2,mb2,hv,hB⟩=>⟨_,hB,ab2,mb2,hv,rfl⟩)
theorem znt {V S T:Int}  : FnD Tryz.prog 86 [.agg #[.int .i64 V,.int .i64 S,.int .i64 T]] [] (.bool (decide (okL V S T))) []:=by
 refine Fn.enter (Tryz.func86) rfl rfl (fun w0 R=>?_)
 refine sA (xB 0 rfl (fun bk0=>(xaf rfl (dA (xf 0 zko rfl (xli 0 zad rfl rfl (TL.geq rfl rfl rfl rfl (fun q1=>?_) (fun q1=>?_))))))))
 refine xmt rfl (xf 0 zko rfl (xli 0 zad rfl rfl (TL.leq rfl rfl rfl rfl (fun q2=>?_) (fun q2=>?_))))
 refine xpT rfl (xmt rfl (xf 1 zkn rfl (xli 0 zad rfl rfl (TL.geq rfl rfl rfl rfl (fun q3=>?_) (fun q3=>?_)))))
 refine xpT rfl (xmt rfl (xf 1 zkn rfl (xli 0 zad rfl rfl (TL.leq rfl rfl rfl rfl (fun q4=>?_) (fun q4=>?_)))))
 refine xpT rfl (xmt rfl (xf 2 zkm rfl (xli 0 zad rfl rfl (TL.geq rfl rfl rfl rfl (fun q5=>?_) (fun q5=>?_)))))
 refine xpT rfl (xmt rfl (xf 2 zkm rfl (xli 0 zad rfl rfl (TL.leqV rfl rfl rfl rfl (TL.pickT (.bool _) rfl rfl rfl rfl (xab rfl (dR ?_)))))))
 refine FQ.ret1 (v:=(.bool _)) (Bs:=[]) [] rfl rfl rfl trivial ?_
 first | exact ⟨congrArg Value.bool (by unfold okL; first | (simp [*]; done) | (simp [*]; omega) | (rw [eq_comm,decide_eq_false_iff_not]; omega) | (rw [eq_comm,decide_eq_true_iff]; omega) | (rw [decide_eq_decide]; omega)),rfl⟩
 refine xpG rfl (xmf rfl (xo rfl (xo rfl (xo rfl (xpF rfl (xaf rfl (dR ?_)))))))
 refine FQ.ret1 (v:=(.bool false)) (Bs:=[]) [] rfl rfl rfl trivial ?_
 first | exact ⟨congrArg Value.bool (by unfold okL; first | (simp [*]; done) | (simp [*]; omega) | (rw [eq_comm,decide_eq_false_iff_not]; omega) | (rw [eq_comm,decide_eq_true_iff]; omega) | (rw [decide_eq_decide]; omega)),rfl⟩
 refine xpG rfl (xmf rfl (xo rfl (xo rfl (xo rfl (xpF rfl (xmf rfl (xo rfl (xo rfl ?_))))))))
 refine xo rfl (xpF rfl (xaf rfl (dR ?_)))
 refine FQ.ret1 (v:=(.bool false)) (Bs:=[]) [] rfl rfl rfl trivial ?_
 first | exact ⟨congrArg Value.bool (by unfold okL; first | (simp [*]; done) | (simp [*]; omega) | (rw [eq_comm,decide_eq_false_iff_not]; omega) | (rw [eq_comm,decide_eq_true_iff]; omega) | (rw [decide_eq_decide]; omega)),rfl⟩
 refine xpG rfl (xmf rfl (xo rfl (xo rfl (xo rfl (xpF rfl (xmf rfl (xo rfl (xo rfl ?_))))))))
 refine xo rfl (xpF rfl (xmf rfl (xo rfl (xo rfl (xo rfl (xpF rfl (xaf rfl (dR ?_))))))))
 refine FQ.ret1 (v:=(.bool false)) (Bs:=[]) [] rfl rfl rfl trivial ?_
 first | exact ⟨congrArg Value.bool (by unfold okL; first | (simp [*]; done) | (simp [*]; omega) | (rw [eq_comm,decide_eq_false_iff_not]; omega) | (rw [eq_comm,decide_eq_true_iff]; omega) | (rw [decide_eq_decide]; omega)),rfl⟩
 refine xpG rfl (xmf rfl (xo rfl (xo rfl (xo rfl (xpF rfl (xmf rfl (xo rfl (xo rfl ?_))))))))
 refine xo rfl (xpF rfl (xmf rfl (xo rfl (xo rfl (xo rfl (xpF rfl (xmf rfl (xo rfl ?_))))))))
 refine xo rfl (xo rfl (xpF rfl (xaf rfl (dR ?_))))
 refine FQ.ret1 (v:=(.bool false)) (Bs:=[]) [] rfl rfl rfl trivial ?_
 first | exact ⟨congrArg Value.bool (by unfold okL; first | (simp [*]; done) | (simp [*]; omega) | (rw [eq_comm,decide_eq_false_iff_not]; omega) | (rw [eq_comm,decide_eq_true_iff]; omega) | (rw [decide_eq_decide]; omega)),rfl⟩
 refine xmf rfl (xo rfl (xo rfl (xo rfl (xpF rfl (xmf rfl (xo rfl (xo rfl (xo rfl ?_))))))))
 refine xpF rfl (xmf rfl (xo rfl (xo rfl (xo rfl (xpF rfl (xmf rfl (xo rfl (xo rfl ?_))))))))
 refine xo rfl (xpF rfl (xmf rfl (xo rfl (xo rfl (xo rfl (xpF rfl (xaf rfl (dR ?_))))))))
 refine FQ.ret1 (v:=(.bool false)) (Bs:=[]) [] rfl rfl rfl trivial ?_
 first | exact ⟨congrArg Value.bool (by unfold okL; first | (simp [*]; done) | (simp [*]; omega) | (rw [eq_comm,decide_eq_false_iff_not]; omega) | (rw [eq_comm,decide_eq_true_iff]; omega) | (rw [decide_eq_decide]; omega)),rfl⟩
set_option maxHeartbeats 2000000 in
theorem zjJ {a:Option Addr} {n c:Nat} {d:Array Int} (hn:n<=137438953472) (hsz:d.size=n):Go.Eng.Fn Tryz.prog 191 [.slice a n c] [ownA Tm.encI 1 3 (.slice a n c) (d)] (fun v Bs=>∃ d2,Bs=[rowS v d2]/\d2.toList=cpt d n):=by
 refine Fn.enter (Tryz.func191) rfl rfl (fun w0 R=>?_)
 refine sA (TL.asg (.slice none 0 0) rfl rfl rfl (dB (xms rfl (xz zak rfl (TL.lss rfl rfl rfl rfl (fun q1=>?_) (fun q1=>?_))))))
 refine dT rfl (xms rfl (xas rfl (dRR ?_)))
 first | refine TQ.conseq 0 (B:=rowS _ d) rfl (fun _ h=>zfV h) ?_ | refine TQ.conseq 0 (B:=rowS (.slice (slA (some ⟨g8,0,none⟩) 0 1 c) k1 c) (D.extract 0 k1)) rfl (fun _ h=>zno (by rw [Array.size_extract]; omega) (by omega) (fun h9=>by simpa using zfw (size:=1) (fun _=>rfl) hc8 (i:=0) (by omega)) h) ?_
 refine FQ.ret1 (v:=(.slice _ _ _)) (Bs:=[_]) [0] rfl rfl rfl ⟨rfl,trivial⟩ ?_
 exact ⟨d,rfl,zyW hsz (by omega)⟩
 refine TL.done (TQ.then (TC.condF rfl (TC.skip (TQ.then (TC.seq (TC.seq (TC.ownW 0 rfl (fun a8 g8 c8 hv8 hc8 ha8=>?_))))))))
 simp only [Value.slice.injEq] at hv8
 obtain ⟨rfl,_,rfl⟩:=hv8
 obtain rfl:=ha8 (by omega)
 rw [hsz] at hc8
 have haR:0<n->(some ⟨g8,0,none⟩:Option Addr)=some ⟨g8,0,none⟩:=fun _=>rfl
 refine TC.region (xai rfl (dK (TC.loopK (X:=Nat) [0] [0] (fun k=>[(3,.int .i64 ((k:Nat):Int))]) (fun k=>[]) (fun k=>1<=k/\k<=n/\CpA d k) (fun k=>n - k) (1) ⟨Nat.le_refl _,by omega,.start⟩ ⟨rfl,trivial⟩ trivial (fun k hI=>?_))))
 obtain ⟨hk1,hkn,hA⟩:=hI
 refine TC.sub (env':=[(3,_),(0,_)]) (L':=[(0,_)]) ⟨rfl,rfl,trivial⟩ ⟨rfl,trivial⟩ (sB (xmi rfl (xms rfl (xz zak rfl (TL.lss rfl rfl rfl rfl (fun q2=>?_) (fun q2=>?_))))))
 refine TL.done (TQ.then (TC.condT rfl (TC.skip (TQ.then (TC.seq (TC.block (TC.seq (TC.draw (od [1,3,5,7,9,11,13,15,17,19]) [0] fc_m (by kernel_rfl) ?_))))))))
 refine xms rfl (xmi rfl (TL.iaO rfl haR rfl zak (by omega) rfl rfl (TL.ldRS 0 (.int _ _) rfl rfl (zel (by omega)) (by omega) (rfl) zad rfl rfl (xms rfl (xmi rfl (TL.sub (((k - 1:Nat):Int)) rfl rfl (wrN (by omega)) rfl rfl (TL.iaO rfl haR rfl zak (by omega) rfl rfl (TL.ldRS 0 (.int _ _) rfl rfl (zel (by omega)) (by omega) (rfl) zad rfl rfl ?_))))))))
 refine TL.eql rfl rfl rfl rfl (fun q3=>?_) (fun q3=>?_)
 refine dT rfl (xms rfl (xmi rfl (TL.slLo rfl rfl zak (by omega) rfl rfl (xas rfl (dB (xai rfl (dK (TC.loopK (X:=Nat×Nat×Array Int) [0,4] [] (fun ⟨k1,k2,D⟩=>[(3,.int .i64 ((k1:Nat):Int)),(5,.int .i64 ((k2:Nat):Int))]) (fun ⟨k1,k2,D⟩=>[(0,ownA Tm.encI 1 3 (.slice (some ⟨g8,0,none⟩) n c) (D))]) (fun ⟨k1,k2,D⟩=>k2<=n - k/\CpI d k k1 k2 D) (fun ⟨k1,k2,D⟩=>n - k2) ((k,1,d)) ⟨(show 1<=n - k by omega),.start hA (by omega) (by assumption)⟩ ⟨rfl,rfl,trivial⟩ ⟨rfl,trivial⟩ (fun y hI=>?_)))))))))
 obtain ⟨k1,k2,D⟩:=y
 obtain ⟨hk2,hI2⟩:=hI
 replace hk2:k2<=n - k:=hk2
 replace hI2:CpI d k k1 k2 D:=hI2
 have hle:=hI2.le
 have hDz:D.size=n:=hI2.sz.trans hsz
 refine TC.sub (env':=[(3,_),(5,_),(0,_),(4,_)]) (L':=[(0,_)]) ⟨rfl,rfl,rfl,rfl,trivial⟩ ⟨rfl,trivial⟩ (sB (xmi rfl (xms rfl (xz zak rfl (TL.lss rfl rfl rfl rfl (fun q4=>?_) (fun q4=>?_))))))
 refine TL.done (TQ.then (TC.condT rfl (TC.skip (TQ.then (TC.seq (TC.block (TC.seq (TC.draw (od [1,3,5,7,9,11,13,15,17,19]) [0] fc_m (by kernel_rfl) ?_))))))))
 refine xms rfl (xmi rfl (TL.iaO rfl (zfw haR hc8) rfl zak (by omega) rfl rfl (TL.ldRS 0 (.int _ _) rfl rfl ((zel (by omega)).drop k (n - k) (by omega)) (by omega) (rfl) zad rfl rfl (xms rfl (xmi rfl (TL.sub (((k2 - 1:Nat):Int)) rfl rfl (wrN (by omega)) rfl rfl (TL.iaO rfl (zfw haR hc8) rfl zak (by omega) rfl rfl (TL.ldRS 0 (.int _ _) rfl rfl ((zel (by omega)).drop k (n - k) (by omega)) (by omega) (rfl) zad rfl rfl ?_))))))))
 refine TL.neq rfl rfl rfl rfl (fun q5=>?_) (fun q5=>?_)
 refine dT rfl (xms rfl (xmi rfl (xms rfl (xmi rfl (TL.iaO rfl (zfw haR hc8) rfl zak (by omega) rfl rfl (TL.ldRS 0 (.int _ _) rfl rfl ((zel (by omega)).drop k (n - k) (by omega)) (by omega) (rfl) zad rfl rfl (TL.iaO rfl haR rfl zak (by omega) rfl rfl (TL.stOF 0 (o:=0) (i:=k1) (cur:=D[k1]!) (u:=D[k+k2]!) (by rw [hI2.sz]; exact hsz) rfl rfl rfl rfl (by have:=hI2.sz; omega) (rfl) ⟨rfl,rfl⟩ rfl zad rfl rfl trivial ?_))))))))
 refine dG (xmi rfl (TL.add (((k1+1:Nat):Int)) rfl rfl (wrN (by omega)) rfl rfl (xai rfl (dI (xmi rfl (TL.add (((k2+1:Nat):Int)) rfl rfl (wrN (by omega)) rfl rfl (xai rfl (TL.done ?_))))))))
 refine TQ.roundK ((k1+1,k2+1,_)) ⟨⟨(show k2+1<=n - k by omega),hI2.yes (by omega) (by rw [show k+k2 - 1=k+(k2 - 1) by omega]; assumption)⟩,(show n - (k2+1)<n - k2 by omega)⟩ ⟨rfl,rfl,trivial⟩ ⟨rfl,trivial⟩ (kE2 rfl rfl trivial) trivial
 refine TL.done (TQ.then (TC.condF rfl (TC.skip (TQ.inBlock (TQ.then (TC.region (xmi rfl (TL.add (((k2+1:Nat):Int)) rfl rfl (wrN (by omega)) rfl rfl ?_))))))))
 refine xai rfl (TL.done (TQ.roundK ((k1,k2+1,D)) ⟨⟨(show k2+1<=n - k by omega),hI2.no (by rw [show k+k2 - 1=k+(k2 - 1) by omega]; exact Decidable.not_not.1 (by assumption))⟩,(show n - (k2+1)<n - k2 by omega)⟩ ⟨rfl,rfl,trivial⟩ ⟨rfl,trivial⟩ (kE2 rfl rfl trivial) trivial))
 refine dE rfl (TC.seq (TC.ownS 0 (sz:=n) (hI2.sz.trans hsz) rfl (fun a7 g7 c7 hv7 hc7 ha7=>?_)))
 simp only [Value.slice.injEq] at hv7
 obtain ⟨rfl,_,rfl⟩:=hv7
 obtain ⟨rfl,_⟩:=Addr.mk.inj (Option.some.inj (ha7 (by omega)))
 refine TC.region (xms rfl (xmi rfl (TL.slLo rfl rfl zak (by omega) rfl rfl (TL.clr 0 (i:=k1) rfl (fun h=>zfw (fun _=>rfl) hc8 h) (by omega) (hI2.sz.trans hsz) rfl zak zji ⟨rfl,rfl⟩ rfl rfl trivial (dA (xms rfl (xmi rfl (TL.slHi rfl rfl zak (by omega) rfl rfl ?_))))))))
 refine xas rfl (dR (TQ.blockRet (TQ.thenRet (TQ.thenRet (TQ.blockRet (TQ.thenRet ?_))))))
 first | refine TQ.conseq 0 (B:=rowS _ d) rfl (fun _ h=>zfV h) ?_ | refine TQ.conseq 0 (B:=rowS (.slice (slA (some ⟨g8,0,none⟩) 0 1 c) k1 c) (D.extract 0 k1)) rfl (fun _ h=>zno (by rw [Array.size_extract]; omega) (by omega) (fun h9=>by simpa using zfw (size:=1) (fun _=>rfl) hc8 (i:=0) (by omega)) h) ?_
 refine FQ.ret1 (v:=(.slice _ _ _)) (Bs:=[_]) [0] rfl rfl rfl ⟨rfl,trivial⟩ ?_
 have h9:=(hI2.fin (by omega)).2
 rw [hsz] at h9
 exact ⟨_,rfl,h9⟩
 refine TL.done (TQ.then (TC.condF rfl (TC.skip (TQ.inBlock (TQ.then (TC.region (xmi rfl (TL.add (((k+1:Nat):Int)) rfl rfl (wrN (by omega)) rfl rfl ?_))))))))
 refine xai rfl (TL.done (TQ.roundK (k+1) ⟨⟨by omega,by omega,hA.step (by assumption)⟩,by omega⟩ ⟨rfl,trivial⟩ trivial (kE1 rfl trivial) (kL1 rfl trivial)))
 refine dE rfl (sA (xms rfl (xas rfl (dR ?_))))
 first | refine TQ.conseq 0 (B:=rowS _ d) rfl (fun _ h=>zfV h) ?_ | refine TQ.conseq 0 (B:=rowS (.slice (slA (some ⟨g8,0,none⟩) 0 1 c) k1 c) (D.extract 0 k1)) rfl (fun _ h=>zno (by rw [Array.size_extract]; omega) (by omega) (fun h9=>by simpa using zfw (size:=1) (fun _=>rfl) hc8 (i:=0) (by omega)) h) ?_
 refine FQ.ret1 (v:=(.slice _ _ _)) (Bs:=[_]) [0] rfl rfl rfl ⟨rfl,trivial⟩ ?_
 obtain rfl:k=n:=by omega
 exact ⟨d,rfl,by rw [<-hsz]; exact (show CpA d d.size by rw [hsz]; exact hA).all⟩
theorem zuc {ab mb:Nat} {σ:Array UInt64} {i:Int} (h:0<=i/\i<σ.size):FnD Tryz.prog 23 [.pointer (some ⟨ab,0,none⟩),.int .i64 i] [zam ab mb 139 29 (σ)] (.tuple #[.int .u64 (MemLike.get σ i),.int .i64 0]) [zam ab mb 139 29 (σ)]:=by have:=ziA (ab:=ab) (mb:=mb) (σ:=σ) (i:=i); rwa [if_pos h] at this
theorem zub {ab mb:Nat} {σ:Array UInt64} {i:Int} (h:¬(0<=i/\i<σ.size)):FnD Tryz.prog 23 [.pointer (some ⟨ab,0,none⟩),.int .i64 i] [zam ab mb 139 29 (σ)] (.tuple #[.int .u64 (MemLike.get σ i),.int .i64 20]) [zam ab mb 139 29 (σ)]:=by have:=ziA (ab:=ab) (mb:=mb) (σ:=σ) (i:=i); rwa [if_neg h] at this
theorem zqJ {ab mb:Nat} {σ:Array UInt64} {i v:Int} (hv:0<=v/\v<18446744073709551616) (h:0<=i/\i<σ.size):FnD Tryz.prog 17 [.pointer (some ⟨ab,0,none⟩),.int .i64 i,.int .u64 v] [zam ab mb 139 29 (σ)] (.int .i64 0) [zam ab mb 139 29 (MemLike.st σ i v)]:=by have:=zeS (ab:=ab) (mb:=mb) (σ:=σ) (i:=i) hv; rwa [if_pos h] at this
theorem zqI {ab mb:Nat} {σ:Array UInt64} {i v:Int} (hv:0<=v/\v<18446744073709551616) (h:¬(0<=i/\i<σ.size)):FnD Tryz.prog 17 [.pointer (some ⟨ab,0,none⟩),.int .i64 i,.int .u64 v] [zam ab mb 139 29 (σ)] (.int .i64 20) [zam ab mb 139 29 (MemLike.st σ i v)]:=by have:=zeS (ab:=ab) (mb:=mb) (σ:=σ) (i:=i) hv; rwa [if_neg h] at this
theorem zwS {tb ab mb g c:Nat} {a:Option Addr} {σ:Tr} {i:Int} (ha:0<σ.row.size->a=some ⟨g,0,none⟩) (hac:σ.row.size<=c) (h:0<=i/\i<σ.mem.size) (hz:Room 1 σ):Go.Eng.Fn Tryz.prog 196 [.pointer (some ⟨tb,0,none⟩),.int .i64 i] [pt tb (.cells #[.pointer (some ⟨ab,0,none⟩),.slice a σ.row.size c] 264),zam ab mb 139 29 (σ.mem),ownA zat 3 34 (.slice a σ.row.size c) (σ.row)] (fun x Bs=>∃ v2,x=.int .u64 (MemLike.get σ i)/\Bs=[pt tb (.cells #[.pointer (some ⟨ab,0,none⟩),v2] 264),zam ab mb 139 29 ((MemLike.ld σ i).mem),ownA zat 3 34 (v2) ((MemLike.ld σ i).row)]):=by
 have hs2:MemLike.ld σ i=⟨σ.mem,σ.row++#[⟨false,i,MemLike.get σ.mem i⟩]⟩:=by rw [zjV,if_pos h]
 refine Fn.enter (Tryz.func196) rfl rfl (fun w0 R=>?_)
 refine sA (xai rfl (dA (xmp rfl (xN0 rfl (xf 0 zfa rfl (xlp 0 zdL rfl rfl (xmi rfl (xD [1] (zuc h) zpq rfl ?_))))))))
 refine xmu rfl (xei rfl rfl (xei rfl rfl (xai rfl (xai rfl (dB (xmi rfl (TL.cmpT rfl rfl rfl (by decide) rfl rfl (TL.done ?_))))))))
 refine TQ.then (TC.condT rfl (TC.region (xmp rfl (xmp rfl (xN0 rfl (xf 1 zdk rfl (xls 0 zcc rfl rfl (xmi rfl ?_))))))))
 refine xmi rfl (TL.bld [.bool false,.int .i64 0,.int .u64 0] [(.int _ _),(.int _ _)] [_,_,_] zes zwo ⟨rfl,rfl,trivial⟩ ⟨rfl,rfl⟩ rfl rfl (TL.bsN 3 [_] (zat ⟨false,i,MemLike.get σ.mem i⟩) zal zes ⟨rfl,trivial⟩ rfl (lit1 rfl) rfl rfl (fun bk3=>⟨trivial,?_⟩)))
 refine TL.appS 2 3 (d2:=#[(⟨false,i,MemLike.get σ.mem i⟩:Acc)]) rfl (rfl) rfl (fun _=>rfl) rfl rfl (row1 rfl) zcz (by decide) zb7 (by have:=zcN.1 hz; simp; omega) rfl rfl (fun v4=>⟨trivial,?_⟩)
 refine TL.ownW 2 rfl (fun a9 g9 c9 hv9 _ _=>?_)
 cases hv9
 refine xN0 rfl (xf 1 zdk rfl (TL.st 0 #[_,_] _ rfl rfl rfl rfl rfl rfl zcc rfl rfl trivial (dA (xmi rfl (xai rfl (dR ?_))))))
 refine FQ.ret1 (v:=(.int _ _)) (Bs:=[_,_,_]) [0,1,2] rfl rfl rfl ⟨rfl,rfl,rfl,trivial⟩ ?_
 rw [hs2]; exact ⟨_,rfl,rfl⟩
theorem zwR {tb ab mb g c:Nat} {a:Option Addr} {σ:Tr} {i:Int} (ha:0<σ.row.size->a=some ⟨g,0,none⟩) (hac:σ.row.size<=c) (h:¬(0<=i/\i<σ.mem.size)) (hz:Room 1 σ):Go.Eng.Fn Tryz.prog 196 [.pointer (some ⟨tb,0,none⟩),.int .i64 i] [pt tb (.cells #[.pointer (some ⟨ab,0,none⟩),.slice a σ.row.size c] 264),zam ab mb 139 29 (σ.mem),ownA zat 3 34 (.slice a σ.row.size c) (σ.row)] (fun x Bs=>∃ v2,x=.int .u64 (MemLike.get σ i)/\Bs=[pt tb (.cells #[.pointer (some ⟨ab,0,none⟩),v2] 264),zam ab mb 139 29 ((MemLike.ld σ i).mem),ownA zat 3 34 (v2) ((MemLike.ld σ i).row)]):=by
 have hs2:MemLike.ld σ i=σ:=by rw [zjV,if_neg h]
 refine Fn.enter (Tryz.func196) rfl rfl (fun w0 R=>?_)
 refine sA (xai rfl (dA (xmp rfl (xN0 rfl (xf 0 zfa rfl (xlp 0 zdL rfl rfl (xmi rfl (xD [1] (zub h) zpq rfl ?_))))))))
 refine xmu rfl (xei rfl rfl (xei rfl rfl (xai rfl (xai rfl (dB (xmi rfl (TL.cmpF rfl rfl rfl (by decide) rfl rfl (dF rfl ?_))))))))
 refine xmi rfl (xai rfl (dR ?_))
 refine FQ.ret1 (v:=(.int _ _)) (Bs:=[_,_,_]) [0,1,2] rfl rfl rfl ⟨rfl,rfl,rfl,trivial⟩ ?_
 rw [hs2]; exact ⟨_,rfl,rfl⟩
theorem zut {tb ab mb g c:Nat} {a:Option Addr} {σ:Tr} {i:Int} (ha:0<σ.row.size->a=some ⟨g,0,none⟩) (hac:σ.row.size<=c) {y:Int} (hv:0<=y/\y<18446744073709551616) (h:0<=i/\i<σ.mem.size) (hz:Room 1 σ):Go.Eng.Fn Tryz.prog 200 [.pointer (some ⟨tb,0,none⟩),.int .i64 i,.int .u64 y] [pt tb (.cells #[.pointer (some ⟨ab,0,none⟩),.slice a σ.row.size c] 264),zam ab mb 139 29 (σ.mem),ownA zat 3 34 (.slice a σ.row.size c) (σ.row)] (fun x Bs=>∃ v2,x=.tuple #[]/\Bs=[pt tb (.cells #[.pointer (some ⟨ab,0,none⟩),v2] 264),zam ab mb 139 29 ((MemLike.st σ i y).mem),ownA zat 3 34 (v2) ((MemLike.st σ i y).row)]):=by
 have hs2:MemLike.st σ i y=⟨MemLike.st σ.mem i y,σ.row++#[⟨true,i,y⟩]⟩:=by rw [zjU,if_pos h]
 refine Fn.enter (Tryz.func200) rfl rfl (fun w0 R=>?_)
 refine sA (xmp rfl (xN0 rfl (xf 0 zfa rfl (xlp 0 zdL rfl rfl (xmi rfl (xmi rfl (xD [1] (zqJ hv h) zku rfl (TL.cmpT rfl rfl rfl (by decide) rfl rfl ?_))))))))
 refine TL.done (TQ.then (TC.condT rfl (TC.region (xmp rfl (xmp rfl (xN0 rfl (xf 1 zdk rfl (xls 0 zcc rfl rfl ?_))))))))
 refine xmi rfl (xmi rfl (TL.bld [.bool false,.int .i64 0,.int .u64 0] [(.bool true),(.int _ _),(.int _ _)] [_,_,_] zes zwo ⟨rfl,rfl,rfl,trivial⟩ ⟨rfl,rfl⟩ rfl rfl (TL.bsN 3 [_] (zat ⟨true,i,y⟩) zal zes ⟨rfl,trivial⟩ rfl (lit1 rfl) rfl rfl (fun bk3=>⟨trivial,?_⟩))))
 refine TL.appS 2 3 (d2:=#[(⟨true,i,y⟩:Acc)]) rfl (rfl) rfl (fun _=>rfl) rfl rfl (row1 rfl) zcz (by decide) zb7 (by have:=zcN.1 hz; simp; omega) rfl rfl (fun v4=>⟨trivial,?_⟩)
 refine TL.ownW 2 rfl (fun a9 g9 c9 hv9 _ _=>?_)
 cases hv9
 refine xN0 rfl (xf 1 zdk rfl (TL.st 0 #[_,_] _ rfl rfl rfl rfl rfl rfl zcc rfl rfl trivial (TL.done ?_)))
 refine FQ.end0 (Bs:=[_,_,_]) [0,1,2] rfl rfl ⟨rfl,rfl,rfl,trivial⟩ ?_
 rw [hs2]; exact ⟨_,rfl,rfl⟩
theorem zus {tb ab mb g c:Nat} {a:Option Addr} {σ:Tr} {i:Int} (ha:0<σ.row.size->a=some ⟨g,0,none⟩) (hac:σ.row.size<=c) {y:Int} (hv:0<=y/\y<18446744073709551616) (h:¬(0<=i/\i<σ.mem.size)) (hz:Room 1 σ):Go.Eng.Fn Tryz.prog 200 [.pointer (some ⟨tb,0,none⟩),.int .i64 i,.int .u64 y] [pt tb (.cells #[.pointer (some ⟨ab,0,none⟩),.slice a σ.row.size c] 264),zam ab mb 139 29 (σ.mem),ownA zat 3 34 (.slice a σ.row.size c) (σ.row)] (fun x Bs=>∃ v2,x=.tuple #[]/\Bs=[pt tb (.cells #[.pointer (some ⟨ab,0,none⟩),v2] 264),zam ab mb 139 29 ((MemLike.st σ i y).mem),ownA zat 3 34 (v2) ((MemLike.st σ i y).row)]):=by
 have hs2:MemLike.st σ i y=σ:=by rw [zjU,if_neg h]
 refine Fn.enter (Tryz.func200) rfl rfl (fun w0 R=>?_)
 refine sA (xmp rfl (xN0 rfl (xf 0 zfa rfl (xlp 0 zdL rfl rfl (xmi rfl (xmi rfl (xD [1] (zqI hv h) zku rfl (TL.cmpF rfl rfl rfl (by decide) rfl rfl ?_))))))))
 refine TL.done (TQ.then (TC.condF rfl (TC.skip ?_)))
 refine FQ.end0 (Bs:=[_,_,_]) [0,1,2] rfl rfl ⟨rfl,rfl,rfl,trivial⟩ ?_
 rw [hs2,zjP,if_neg h]; exact ⟨_,rfl,rfl⟩
theorem zoA {tb ab mb:Nat} {σ:Tr} {i:Int} (hz:Room 1 σ):FnD Tryz.prog 196 [.pointer (some ⟨tb,0,none⟩),.int .i64 i] [zbj tb ab mb 264 139 29 34 (σ)] (.int .u64 (MemLike.get σ i)) [zbj tb ab mb 264 139 29 34 (MemLike.ld σ i)] :=
 Fn.traceX fun a g c ha hac=>by
  by_cases h:0<=i/\i<σ.mem.size
  ·exact Go.Eng.Fn.mono (zwS ha hac h hz) fun v Bs ⟨v2,h1,h2⟩=>⟨v2,_,[],h2,h1,rfl⟩
  ·exact Go.Eng.Fn.mono (zwR ha hac h hz) fun v Bs ⟨v2,h1,h2⟩=>⟨v2,_,[],h2,h1,rfl⟩
theorem zl0 {tb ab mb:Nat} {σ:Tr} {i y:Int} (hv:0<=y/\y<18446744073709551616) (hz:Room 1 σ):FnD Tryz.prog 200 [.pointer (some ⟨tb,0,none⟩),.int .i64 i,.int .u64 y] [zbj tb ab mb 264 139 29 34 (σ)] (.tuple #[]) [zbj tb ab mb 264 139 29 34 (MemLike.st σ i y)] :=
 Fn.traceX fun a g c ha hac=>by
  by_cases h:0<=i/\i<σ.mem.size
  ·exact Go.Eng.Fn.mono (zut ha hac hv h hz) fun v Bs ⟨v2,h1,h2⟩=>⟨v2,_,[],h2,h1,rfl⟩
  ·exact Go.Eng.Fn.mono (zus ha hac hv h hz) fun v Bs ⟨v2,h1,h2⟩=>⟨v2,_,[],h2,h1,rfl⟩
theorem zdZ {tb ab mb:Nat}:MemI (S:=Tr) Tryz.prog 186 (.pointer (some ⟨tb,0,none⟩)) (zbj tb ab mb 264 139 29 34) :=
 ⟨⟨196,_,zil (by kernel_rfl) (by kernel_rfl),fun _ _ hz=>zoA hz⟩,⟨200,_,zil (by kernel_rfl) (by kernel_rfl),fun _ _ _ hv hz=>zl0 hv hz⟩⟩
theorem zmV {a:Option Addr} {b off n c:Nat} {A:Assn} {f:Nat->Acc} (ha:0<n->a=some ⟨b,off,none⟩) (hn:n<=137438953471) (hA:zbh A zat 3 b off n f):Go.Eng.Fn Tryz.prog 83 [.slice a n c] [A] (fun v Bs=>Bs=[A,ownA zat 3 34 v ((List.range n).map f).toArray]):=by
 refine Fn.enter (Tryz.func83) rfl rfl (fun w0 R=>?_)
 refine sA (TL.asg (.slice none 0 0) rfl rfl rfl (dB (xms rfl (TL.nilS rfl rfl zal rfl rfl (TL.cases rfl (fun q1=>?_) (fun q1=>?_))))))
 refine TL.done (TQ.then (TC.condT rfl (TC.seq ?_)))
 obtain rfl:n=0:=by
   rcases Nat.eq_zero_or_pos n with h | h
   ·exact h
   ·rw [ha h] at q1; simp at q1
 refine TC.nilA 1 (A:=ownA zat 3 34 (.slice none 0 0) ((List.range 0).map f).toArray) (.inl ⟨rfl,rfl⟩) (TC.region (TL.asg (.slice none 0 0) rfl rfl rfl (dRR ?_)))
 refine FQ.ret1 (v:=(.slice none 0 0)) (Bs:=[A,_]) [0,1] rfl rfl rfl ⟨rfl,rfl,trivial⟩ ?_
 rfl
 refine dF rfl (TL.bs0 2 zat zal rfl rfl (fun bk2=>⟨trivial,?_⟩))
 refine xms rfl ?_
 obtain ⟨ad,rfl⟩:∃ ad,a=some ad:=Option.ne_none_iff_exists'.1 (by rintro rfl; simp at q1)
 refine TL.appS 2 0 (d2:=((List.range n).map f).toArray) rfl (zek f n) rfl (ha) rfl rfl (hA.congr fun i hi=>(zkU f hi).symm) zcz (by decide) zb7 (by rw [zek]; show 0+n<=137438953472; omega) rfl rfl (fun v3=>⟨trivial,?_⟩)
 refine TL.conseq 2 (B:=ownA zat 3 34 v3 ((List.range n).map f).toArray) rfl (fun h hh=>by simpa using hh) trivial (xav rfl (dR ?_))
 refine FQ.ret1 (v:=_) (Bs:=[A,_]) [0,2] rfl rfl rfl ⟨rfl,rfl,trivial⟩ ?_
 rfl
theorem zza {tb ab mb g c:Nat} {a:Option Addr} {σ:Tr} (ha:0<σ.row.size->a=some ⟨g,0,none⟩) (hac:σ.row.size<=c) (hz:Room 0 σ):Go.Eng.Fn Tryz.prog 152 [.pointer (some ⟨tb,0,none⟩)] [pt tb (.cells #[.pointer (some ⟨ab,0,none⟩),.slice a σ.row.size c] 264),zam ab mb 139 29 (σ.mem),ownA zat 3 34 (.slice a σ.row.size c) (σ.row)] (fun x Bs=>Bs=[pt tb (.cells #[.pointer (some ⟨ab,0,none⟩),.slice a σ.row.size c] 264),zam ab mb 139 29 (σ.mem),ownA zat 3 34 (.slice a σ.row.size c) (σ.row),ownA zat 3 34 (x) (σ.row)]):=by
 refine Fn.enter (Tryz.func152) rfl rfl (fun w0 R=>?_)
 refine sA (TL.asg (.slice none 0 0) rfl rfl rfl (dA (xmp rfl (xN0 rfl (xf 1 zdk rfl (xls 0 zcc rfl rfl (TL.call [2] [2,3] (zmV (f:=fun i=>σ.row[i]!) ha (by have:=zcN.1 hz; omega) (zaL ha)) ⟨rfl,trivial⟩ ⟨rfl,trivial⟩ zwr rfl rfl rfl rfl ?_)))))))
 rintro v Bs rfl
 refine ⟨rfl,trivial,?_⟩
 refine xav rfl (dR ?_)
 refine FQ.ret1 (v:=_) (Bs:=[_,_,_,_]) [0,1,2,3] rfl rfl rfl ⟨rfl,rfl,rfl,rfl,trivial⟩ ?_
 rw [zif]
theorem znb {tb ab mb:Nat} {σ:Tr} (hz:Room 0 σ):Go.Eng.Fn Tryz.prog 152 [.pointer (some ⟨tb,0,none⟩)] [zbj tb ab mb 264 139 29 34 (σ)] (fun x Bs=>Bs=[zbj tb ab mb 264 139 29 34 (σ),ownA zat 3 34 (x) (σ.row)]) :=
 Fn.traceX fun a g c ha hac=>Go.Eng.Fn.mono (zza ha hac hz) fun v Bs h=>⟨_,σ,[ownA zat 3 34 (v) (σ.row)],h,rfl⟩
theorem zxm {ab mb:Nat} {σ:Array UInt64} {c:Cnt} (h0:0<σ.size) (h1:σ.size<=20000):Go.Eng.Fn Tryz.prog 149 [.pointer (some ⟨ab,0,none⟩)] [arenaC ab mb 139 29 (σ) (c)] (fun x Bs=>∃ tb ab2 mb2,x=.pointer (some ⟨tb,0,none⟩)/\Bs=[arenaC ab mb 139 29 (σ) (c),zbj tb ab2 mb2 264 139 29 34 (⟨σ,#[]⟩)]):=by
 refine Fn.enter (Tryz.func149) rfl rfl (fun w0 R=>?_)
 refine sA (TL.asg (.pointer none) rfl rfl rfl (dS (TC.nilA 1 (A:=ownA zat 3 34 (.slice none 0 0) (#[])) (.inl ⟨rfl,rfl⟩) (TC.region (xmp rfl (TL.call [0] [0,2] (zjS h0 h1) ⟨rfl,trivial⟩ ⟨rfl,trivial⟩ zsO rfl rfl rfl rfl ?_))))))
 rintro v Bs ⟨ab2,mb2,rfl,rfl⟩
 refine ⟨rfl,trivial,?_⟩
 refine TL.bld [.pointer none,.slice none 0 0] [(.pointer (some ⟨_,_,none⟩))] [_,_] zxN zxU ⟨rfl,trivial⟩ ⟨rfl,rfl⟩ rfl rfl (xB 3 rfl (fun bk3=>(xap rfl (dR (TQ.close 2 1 (star (zam _ _ 139 29 (σ)) (ownA zat 3 34 (.slice none 0 0) (#[]))) (by decide) rfl rfl (fun _ _ _ s1 s2 hd h1 h2=>⟨_,_,s1,s2,hd,⟨_,h1⟩,h2⟩) (TQ.close 3 2 (zbj _ _ _ 264 139 29 34 (⟨σ,#[]⟩)) (by decide) rfl rfl (fun _ _ _ s1 s2 hd h1 h2=>⟨_,_,_,s1,s2,hd,h1,h2⟩) ?_))))))
 refine FQ.ret1 (v:=(.pointer (some ⟨_,_,none⟩))) (Bs:=[_,_]) [0,3] rfl rfl rfl ⟨rfl,rfl,trivial⟩ ?_
 exact ⟨_,_,_,rfl,rfl⟩
theorem zsr {a:Option Addr} {b off n c:Nat} {A:Assn} {d:Array Int} {v:Int} (ha:0<n->a=some ⟨b,off,none⟩) (hn:n<=137438953472) (hsz:d.size=n) (hA:zbh A Tm.encI 1 b off n (fun i=>d[i]!))  : Go.Eng.Fn Tryz.prog 230 [.slice a n c,.int .i64 v] [A] (fun x Bs=>∃ k:Int,x=.int .i64 k/\Bs=[A]/\decide (0<=k)=decide (v∈d.toList)):=by
 refine Fn.enter (Tryz.func230) rfl rfl (fun w0 R=>?_)
 refine sA (xai rfl (dB (xms rfl (xz zak rfl (xmi rfl (dK (TC.loopK (X:=Nat) [0,1,7] [0] (fun i=>[(8,.int .i64 ((i:Nat):Int))]) (fun i=>[]) (fun i=>i<=n/\∀ j,j<i->d[j]!≠v) (fun i=>n - i) (0) ⟨Nat.zero_le _,fun j hj=>absurd hj (Nat.not_lt_zero _)⟩ ⟨rfl,trivial⟩ trivial (fun i hI=>?_))))))))
 obtain ⟨hi,hj⟩:=hI
 refine TC.sub (env':=[(8,_),(0,_),(1,_),(7,_)]) (L':=[(0,_)]) ⟨rfl,rfl,rfl,rfl,trivial⟩ ⟨rfl,trivial⟩ (sA (TL.lss rfl rfl rfl rfl (fun q1=>?_) (fun q1=>?_)))
 refine dS (TC.condT rfl (TC.skip (TQ.then (TC.seq (TC.block (sA (xmi rfl (xai rfl ?_))))))))
 refine dA (xmi rfl (xms rfl (xmi rfl (TL.iaO rfl ha rfl zak (by omega) rfl rfl (TL.ldRS 0 (.int _ _) rfl rfl hA (by omega) (rfl) zad rfl rfl (TL.eql rfl rfl rfl rfl (fun q2=>?_) (fun q2=>?_)))))))
 refine dT rfl (xmi rfl (xai rfl (dR (TQ.blockRet (TQ.thenRet (TQ.thenRet (TQ.blockRet (TQ.thenRet ?_))))))))
 refine FQ.ret1 (v:=(.int _ _)) (Bs:=[A]) [0] rfl rfl rfl ⟨rfl,trivial⟩ ?_
 exact ⟨_,rfl,rfl,by rw [decide_eq_true (by omega),decide_eq_true (zlO (i:=i) (by omega) (by first | exact q2.symm | exact q1.symm | simp_all))]⟩
 refine TL.done (TQ.then (TC.condF rfl (TC.skip (TQ.inBlock (TQ.then (TC.region (TL.add (((i+1:Nat):Int)) rfl rfl (wrN (by omega)) rfl rfl (xmi rfl ?_))))))))
 refine TL.done (TQ.roundK (i+1) ⟨⟨by omega,zxw hj (by first | exact fun h=>q2 h.symm | exact fun h=>q1 h.symm)⟩,by omega⟩ ⟨rfl,trivial⟩ trivial (kE3 rfl rfl rfl trivial) (kL1 rfl trivial))
 refine dS (TC.condF rfl (TC.exit (TQ.thenExit (TQ.thenExit (TQ.blockHere (TQ.then (sA (xai rfl ?_))))))))
 refine dR ?_
 refine FQ.ret1 (v:=(.int _ _)) (Bs:=[A]) [0] rfl rfl rfl ⟨rfl,trivial⟩ ?_
 exact ⟨_,rfl,rfl,by rw [decide_eq_false (by omega),decide_eq_false (zpI hsz fun j h=>hj j (by omega))]⟩
theorem zmU {a:Option Addr} {b off n c:Nat} {A:Assn} {d:Array Int} {v:Int} (ha:0<n->a=some ⟨b,off,none⟩) (hn:n<=137438953472) (hsz:d.size=n) (hA:zbh A Tm.encI 1 b off n (fun i=>d[i]!))  : FnD Tryz.prog 199 [.slice a n c,.int .i64 v] [A] (.bool (decide (v∈d.toList))) [A]:=by
 refine Fn.enter (Tryz.func199) rfl rfl (fun w0 R=>?_)
 refine sA (xaf rfl (dA (xms rfl (xmi rfl (TL.call [0] [0] (zsr ha hn hsz hA) ⟨rfl,rfl,trivial⟩ ⟨rfl,trivial⟩ zyf rfl rfl rfl rfl ?_)))))
 rintro x Bs ⟨k,rfl,rfl,hk⟩
 refine ⟨rfl,trivial,?_⟩
 refine TL.geqV rfl rfl rfl rfl (xab rfl (dR ?_))
 refine FQ.ret1 (v:=(.bool _)) (Bs:=[A]) [0] rfl rfl rfl ⟨rfl,trivial⟩ ?_
 exact ⟨by rw [<-hk],rfl⟩
theorem zvc {x:Int}:FnD Tryz.prog 226 [.int .i64 x] [] (.bool false) []:=by
 refine Fn.enter (Tryz.func226) rfl rfl (fun w0 R=>?_)
 refine sA (xaf rfl (dA (xmi rfl (xmi rfl (TL.neqV rfl rfl rfl rfl (xab rfl (dR ?_)))))))
 refine FQ.ret1 (v:=(.bool _)) (Bs:=[]) [] rfl rfl rfl trivial ?_
 first | exact ⟨congrArg Value.bool (decide_eq_false (by omega)),rfl⟩ | exact ⟨rfl,rfl⟩ | exact ⟨by simp,rfl⟩
theorem zsp {x:Int}:FnD Tryz.prog 252 [.int .i64 x] [] (.bool false) []:=by
 refine Fn.enter (Tryz.func252) rfl rfl (fun w0 R=>?_)
 refine sA (xaf rfl (dA (xmi rfl (xmi rfl (TL.neqV rfl rfl rfl rfl (xab rfl (dR ?_)))))))
 refine FQ.ret1 (v:=(.bool _)) (Bs:=[]) [] rfl rfl rfl trivial ?_
 first | exact ⟨congrArg Value.bool (decide_eq_false (by omega)),rfl⟩ | exact ⟨rfl,rfl⟩ | exact ⟨by simp,rfl⟩
theorem zvz {x y:Int}:FnD Tryz.prog 225 [.int .i64 x,.int .i64 y] [] (.bool (decide (x<y))) []:=by
 refine Fn.enter (Tryz.func225) rfl rfl (fun w0 R=>?_)
 refine sA (xaf rfl (dA (xmi rfl (xD [] zsp zyb rfl (xmf rfl (xo rfl (xo rfl (xo rfl ?_))))))))
 refine xpF rfl (xmf rfl (xmi rfl (xmi rfl (TL.lssV rfl rfl rfl rfl (TL.pickF (.bool _) rfl rfl rfl rfl (xab rfl (dR ?_)))))))
 refine FQ.ret1 (v:=(.bool _)) (Bs:=[]) [] rfl rfl rfl trivial ?_
 first | exact ⟨rfl,rfl⟩ | exact ⟨by simp [*],rfl⟩
theorem zkA {a:Option Addr} {b off n c:Nat} {A:Assn} {d:Array Int} {v:Int} (ha:0<n->a=some ⟨b,off,none⟩) (hn:n<=137438953472) (hsz:d.size=n) (hA:zbh A Tm.encI 1 b off n (fun i=>d[i]!)) (hs:∀ k j,k<=j->j<n->d[k]!<=d[j]!)  : Go.Eng.Fn Tryz.prog 194 [.slice a n c,.int .i64 v] [A] (fun x Bs=>∃ k:Int,x=.tuple #[.int .i64 k,.bool (decide (v∈d.toList))]/\Bs=[A]):=by
 refine Fn.enter (Tryz.func194) rfl rfl (fun w0 R=>?_)
 refine sA (xai rfl (xaf rfl (dA (xms rfl (xz zak rfl (xai rfl (dA (xmi rfl ?_))))))))
 refine xai rfl (xai rfl (dS (TC.block (TC.loopK (X:=Nat×Nat) [0,1,4,5,6] [0] (fun ⟨i,j⟩=>[(7,.int .i64 ((i:Nat):Int)),(8,.int .i64 ((j:Nat):Int))]) (fun ⟨i,j⟩=>[]) (fun ⟨i,j⟩=>i<=j/\j<=n/\(∀ k,k<i->d[k]!<v)/\(∀ k,j<=k->k<n->v<=d[k]!)) (fun ⟨i,j⟩=>j - i) ((0,n)) ⟨Nat.zero_le _,Nat.le_refl _,fun k hk=>absurd hk (Nat.not_lt_zero _),fun k h1 h2=>absurd h2 (by omega)⟩ ⟨rfl,rfl,trivial⟩ trivial (fun y hI=>?_)))))
 obtain ⟨i,j⟩:=y
 obtain ⟨hij,hjn,hlo,hhi⟩:=hI
 refine TC.sub (env':=[(7,_),(8,_),(0,_),(1,_),(4,_),(5,_),(6,_)]) (L':=[(0,_)]) ⟨rfl,rfl,rfl,rfl,rfl,rfl,rfl,trivial⟩ ⟨rfl,trivial⟩ (sB (xmi rfl (xmi rfl (TL.lss rfl rfl rfl rfl (fun q1=>?_) (fun q1=>?_)))))
 refine TL.done (TQ.then (TC.condT rfl (TC.skip (TQ.then (TC.block (sA (xmi rfl (xmi rfl ?_))))))))
 refine TL.add (((i+j:Nat):Int)) rfl rfl (wrN (by omega)) rfl rfl (TL.conv _ rfl zf9 zjm (zuk (by omega)) rfl rfl (TL.shr (((((i+j) / 2):Nat):Int)) rfl rfl (by omega) (by exact shr1 _) rfl rfl (TL.conv _ rfl zxT zaO (wr64 (by omega)) rfl rfl (xai rfl (dA (xms rfl (xmi rfl (TL.iaO rfl ha rfl zak (by omega) rfl rfl ?_))))))))
 refine TL.ldRS 0 (.int _ _) rfl rfl hA (by omega) (rfl) zad rfl rfl (xmi rfl (xD [] zvz zyh rfl (TL.cases rfl (fun q2=>?_) (fun q2=>?_))))
 refine TL.done (TQ.then (TC.condT rfl (TC.region (xmi rfl (TL.add (((((i+j) / 2)+1:Nat):Int)) rfl rfl (wrN (by omega)) rfl rfl (xai rfl (TL.done (TQ.inBlock ?_))))))))
 refine TQ.roundK ((((i+j) / 2)+1,j)) ⟨⟨(show ((i+j) / 2)+1<=j by omega),hjn,bs_lo hs (show ((i+j) / 2)<n by omega) (by first | exact of_decide_eq_true q2 | exact q2),hhi⟩,(show j - (((i+j) / 2)+1)<j - i by omega)⟩ ⟨rfl,rfl,trivial⟩ trivial (kE5 rfl rfl rfl rfl rfl trivial) (kL1 rfl trivial)
 refine TL.done (TQ.then (TC.condF rfl (TC.region (xmi rfl (xai rfl (TL.done (TQ.inBlock (TQ.roundK ((i,((i+j) / 2))) ⟨⟨(show i<=((i+j) / 2) by omega),(show ((i+j) / 2)<=n by omega),hlo,bs_hi hs (by first | exact of_decide_eq_false q2 | exact q2)⟩,(show ((i+j) / 2) - i<j - i by omega)⟩ ⟨rfl,rfl,trivial⟩ trivial (kE5 rfl rfl rfl rfl rfl trivial) (kL1 rfl trivial)))))))))
 refine dE rfl (sA (xmi rfl (xmi rfl (xmi rfl (TL.lss rfl rfl rfl rfl (fun q2=>?_) (fun q2=>?_))))))
 refine xmt rfl (xms rfl (xmi rfl (TL.iaO rfl ha rfl zak (by omega) rfl rfl (TL.ldRS 0 (.int _ _) rfl rfl hA (by omega) (rfl) zad rfl rfl (xmi rfl (TL.eql rfl rfl rfl rfl (fun q3=>?_) (fun q3=>?_)))))))
 refine xmt rfl (xo rfl (xo rfl (xo rfl (xo rfl (xo rfl (xo rfl (xo rfl (xo rfl ?_))))))))
 refine xo rfl (xpT rfl (xpT rfl (xai rfl (xat rfl (dR ?_)))))
 refine FQ.ret2 (v:=(.int _ _)) (x:=(.bool true)) (Bs:=[A]) [0] rfl rfl rfl rfl ⟨rfl,trivial⟩ ?_
 obtain rfl:i=j:=by omega
 exact ⟨_,by rw [decide_eq_true (zAg hsz (i:=i) (by omega) (by omega))],rfl⟩
 refine xmf rfl (xms rfl (xmi rfl (TL.iaO rfl ha rfl zak (by omega) rfl rfl (TL.ldRS 0 (.int _ _) rfl rfl hA (by omega) (rfl) zad rfl rfl (xD [] zvc zyg rfl (xmf rfl (xo rfl (xo rfl ?_))))))))
 refine xpF rfl (xpF rfl (xpG rfl (xai rfl (xaf rfl (dR ?_)))))
 refine FQ.ret2 (v:=(.int _ _)) (x:=(.bool false)) (Bs:=[A]) [0] rfl rfl rfl rfl ⟨rfl,trivial⟩ ?_
 obtain rfl:i=j:=by omega
 exact ⟨_,by rw [decide_eq_false (zAh hsz hlo hhi hs (fun _=>by omega))],rfl⟩
 refine xmf rfl (xo rfl (xo rfl (xo rfl (xo rfl (xo rfl (xo rfl (xo rfl (xo rfl ?_))))))))
 refine xo rfl (xo rfl (xo rfl (xo rfl (xo rfl (xo rfl (xo rfl (xo rfl (xo rfl ?_))))))))
 refine xpF rfl (xai rfl (xaf rfl (dR ?_)))
 refine FQ.ret2 (v:=(.int _ _)) (x:=(.bool false)) (Bs:=[A]) [0] rfl rfl rfl rfl ⟨rfl,trivial⟩ ?_
 obtain rfl:i=j:=by omega
 exact ⟨_,by rw [decide_eq_false (zAh hsz hlo hhi hs (fun _=>by omega))],rfl⟩
def zmA:Go.Shelf.Ren:=⟨fun | 189=>224 | 125=>121 | 257=>251 | 128=>164 | 129=>165 | 294=>266 | 295=>267 | 296=>268 | 297=>269 | 298=>270 | 299=>271 | 216=>225 | 300=>272 | 301=>273 | 328=>279 | 329=>280 | 330=>281 | 331=>282 | 332=>283 | 215=>252 | 343=>284 | n=>n,fun | 28=>48 | 3=>3 | 46=>203 | 0=>0 | 51=>241 | 53=>29 | 4=>4 | 183=>299 | 182=>298 | 131=>146 | 5=>5 | 9=>9 | 218=>304 | 222=>142 | 228=>309 | 229=>247 | n=>n,fun | n=>n⟩
theorem zpg:Go.Proofs.Lays.n189 Tryz.prog zmA where
 mixed:=by kernel_rfl
 f125:=Tryz.func121.trans (congrArg some (by kernel_rfl))
 f128:=Tryz.func164.trans (congrArg some (by kernel_rfl))
 f129:=Tryz.func165.trans (congrArg some (by kernel_rfl))
 f189:=Tryz.func224.trans (congrArg some (by kernel_rfl))
 f215:=Tryz.func252.trans (congrArg some (by kernel_rfl))
 f216:=Tryz.func225.trans (congrArg some (by kernel_rfl))
 f257:=Tryz.func251.trans (congrArg some (by kernel_rfl))
 f294:=Tryz.func266.trans (congrArg some (by kernel_rfl))
 f295:=Tryz.func267.trans (congrArg some (by kernel_rfl))
 f296:=Tryz.func268.trans (congrArg some (by kernel_rfl))
 f297:=Tryz.func269.trans (congrArg some (by kernel_rfl))
 f298:=Tryz.func270.trans (congrArg some (by kernel_rfl))
 f299:=Tryz.func271.trans (congrArg some (by kernel_rfl))
 f300:=Tryz.func272.trans (congrArg some (by kernel_rfl))
 f301:=Tryz.func273.trans (congrArg some (by kernel_rfl))
 f328:=Tryz.func279.trans (congrArg some (by kernel_rfl))
 f329:=Tryz.func280.trans (congrArg some (by kernel_rfl))
 f330:=Tryz.func281.trans (congrArg some (by kernel_rfl))
 f331:=Tryz.func282.trans (congrArg some (by kernel_rfl))
 f332:=Tryz.func283.trans (congrArg some (by kernel_rfl))
 f343:=Tryz.func284.trans (congrArg some (by kernel_rfl))
 t0:=Tryz.underlying0
 a0:=Tryz.isAgg0
 z0:=Tryz.sizeOf0
 v0:=Tryz.zeroValue0
 t3:=Tryz.underlying3
 a3:=Tryz.isAgg3
 z3:=Tryz.sizeOf3
 v3:=Tryz.zeroValue3
 t4:=Tryz.underlying4
 a4:=Tryz.isAgg4
 z4:=Tryz.sizeOf4
 v4:=Tryz.zeroValue4
 t5:=Tryz.underlying5
 a5:=Tryz.isAgg5
 z5:=Tryz.sizeOf5
 v5:=Tryz.zeroValue5
 t9:=Tryz.underlying9
 a9:=Tryz.isAgg9
 z9:=Tryz.sizeOf9
 v9:=Tryz.zeroValue9
 t28:=Tryz.underlying48
 a28:=Tryz.isAgg48
 z28:=Tryz.sizeOf48
 v28:=Tryz.zeroValue48
 t46:=Tryz.underlying203
 a46:=Tryz.isAgg203
 z46:=Tryz.sizeOf203
 v46:=Tryz.zeroValue203
 t51:=Tryz.underlying241
 a51:=Tryz.isAgg241
 z51:=Tryz.sizeOf241
 v51:=Tryz.zeroValue241
 t53:=Tryz.underlying29
 a53:=Tryz.isAgg29
 z53:=Tryz.sizeOf29
 v53:=Tryz.zeroValue29
 t131:=Tryz.underlying146
 a131:=Tryz.isAgg146
 z131:=Tryz.sizeOf146
 v131:=Tryz.zeroValue146
 t182:=Tryz.underlying298
 a182:=Tryz.isAgg298
 z182:=Tryz.sizeOf298
 v182:=Tryz.zeroValue298
 t183:=Tryz.underlying299
 a183:=Tryz.isAgg299
 z183:=Tryz.sizeOf299
 v183:=Tryz.zeroValue299
 t218:=Tryz.underlying304
 a218:=Tryz.isAgg304
 z218:=Tryz.sizeOf304
 v218:=Tryz.zeroValue304
 t222:=Tryz.underlying142
 a222:=Tryz.isAgg142
 z222:=Tryz.sizeOf142
 v222:=Tryz.zeroValue142
 t228:=Tryz.underlying309
 a228:=Tryz.isAgg309
 z228:=Tryz.sizeOf309
 v228:=Tryz.zeroValue309
 t229:=Tryz.underlying247
 a229:=Tryz.isAgg247
 z229:=Tryz.sizeOf247
 v229:=Tryz.zeroValue247
theorem zuw {e:Nat} {v:Value} {d:Array Int} (hn:d.size<4611686018427387904):FnD Tryz.prog 224 [v] [ownA Tm.encI 1 e v d] (.tuple #[]) [ownA Tm.encI 1 e v (srt d)] :=
 Go.Tm.Fn.sortI hn (fun blk off cap zs w=>Go.Proofs.Any.slices_Sort_int zpg blk off cap zs w) (fun p cap w=>Go.Proofs.Any.slices_Sort_int_none zpg p cap w)
theorem zzc {tb ab mb g c:Nat} {a:Option Addr} {σ:Tr} (ha:0<σ.row.size->a=some ⟨g,0,none⟩) (hac:σ.row.size<=c) (hz:Room 0 σ):Go.Eng.Fn Tryz.prog 192 [.pointer (some ⟨tb,0,none⟩)] [pt tb (.cells #[.pointer (some ⟨ab,0,none⟩),.slice a σ.row.size c] 264),zam ab mb 139 29 (σ.mem),ownA zat 3 34 (.slice a σ.row.size c) (σ.row)] (fun x Bs=>∃ d2,Bs=[pt tb (.cells #[.pointer (some ⟨ab,0,none⟩),.slice a σ.row.size c] 264),zam ab mb 139 29 (σ.mem),ownA zat 3 34 (.slice a σ.row.size c) (σ.row),rowS x d2]/\d2.toList=chgL σ.row):=by
 have hz9:=zcN.1 hz
 refine Fn.enter (Tryz.func192) rfl rfl (fun w0 R=>?_)
 refine sA (TL.asg (.slice none 0 0) rfl rfl rfl (dA (TL.asg (.slice none 0 0) rfl rfl rfl (dS (TC.seq (TC.nilA 3 (A:=ownA Tm.encI 1 3 (.slice none 0 0) #[]) (.inl ⟨rfl,rfl⟩) (TC.region (xmp rfl ?_))))))))
 refine xN0 rfl (xf 1 zdk rfl (xls 0 zcc rfl rfl (xz zal rfl (xmi rfl (dK (TC.loopK (X:=Nat×Value) [2,9,10] [0,1,2] (fun ⟨k,v⟩=>[(11,.int .i64 ((k:Nat):Int)),(3,v)]) (fun ⟨k,v⟩=>[(3,ownA Tm.encI 1 3 v (zbN σ.row k))]) (fun ⟨k,v⟩=>k<=σ.row.size) (fun ⟨k,v⟩=>σ.row.size - k) ((0,.slice none 0 0)) (Nat.zero_le _) ⟨rfl,rfl,trivial⟩ ⟨rfl,trivial⟩ (fun y hI=>?_)))))))
 obtain ⟨k,v⟩:=y
 replace hI:k<=σ.row.size:=hI
 refine TC.sub (env':=[(11,_),(3,_),(2,_),(9,_),(10,_)]) (L':=[(3,_),(0,_),(1,_),(2,_)]) ⟨rfl,rfl,rfl,rfl,rfl,trivial⟩ ⟨rfl,rfl,rfl,rfl,trivial⟩ (sA (TL.lss rfl rfl rfl rfl (fun q1=>?_) (fun q1=>?_)))
 refine dS (TC.condT rfl (TC.skip (TQ.then (TC.seq (TC.block (sA (TL.iaO rfl ha rfl zal (by omega) rfl rfl (TL.ldR 2 rfl rfl (zaL ha) (by omega) zci rfl rfl ?_))))))))
 refine TL.alloc 4 (cs:=#[.bool false,.int .i64 0,.int .u64 0]) zes rfl rfl rfl (fun _=>trivial) (fun bk4=>(TL.stW 4 3 [_,_,_] rfl rfl rfl rfl rfl rfl zci rfl rfl trivial (dA (xf 0 zdY rfl (xlb 4 zdb rfl rfl (TL.done (TQ.then (TC.cond rfl (fun q2=>?_) (fun q2=>?_)))))))))
 refine TC.region (xmv rfl (xf 1 zbP rfl (xli 4 zad rfl rfl (TL.bsN 5 [_] (Tm.encI σ.row[k]!.cell) zak zji ⟨rfl,trivial⟩ rfl (lit1 rfl) rfl rfl (fun bk5=>⟨trivial,?_⟩)))))
 refine TL.appS 3 5 (d2:=#[σ.row[k]!.cell]) rfl (rfl) rfl (fun _=>rfl) rfl rfl (row1 rfl) zix (by decide) zfY (by have:=zez σ.row k; simp; omega) rfl rfl (fun v6=>⟨trivial,?_⟩)
 refine xav rfl (dI (TL.add (((k+1:Nat):Int)) rfl rfl (wrN (by omega)) rfl rfl (xmi rfl (TL.done (TQ.roundK ((k+1,_)) ⟨(show k+1<=σ.row.size by omega),(show σ.row.size - (k+1)<σ.row.size - k by omega)⟩ ⟨rfl,rfl,trivial⟩ ⟨congrArg (fun z=>some (ownA Tm.encI 1 3 _ z)) (zne (by assumption)),trivial⟩ (kE3 rfl rfl rfl trivial) (kL3 rfl rfl rfl trivial))))))
 refine TC.skip (TQ.inBlock (TQ.then (TC.region (TL.add (((k+1:Nat):Int)) rfl rfl (wrN (by omega)) rfl rfl (xmi rfl (TL.done (TQ.roundK ((k+1,_)) ⟨(show k+1<=σ.row.size by omega),(show σ.row.size - (k+1)<σ.row.size - k by omega)⟩ ⟨rfl,rfl,trivial⟩ ⟨congrArg (fun z=>some (ownA Tm.encI 1 3 _ z)) (zpU (by assumption)),trivial⟩ (kE3 rfl rfl rfl trivial) (kL3 rfl rfl rfl trivial))))))))
 refine dS (TC.condF rfl (TC.exit (TQ.thenExit (TQ.thenExit (TQ.blockHere (TQ.then (sA (xmv rfl ?_))))))))
 refine xD [3] (zuw (by have:=zez σ.row k; omega)) zyi rfl (TL.ownW 3 rfl (fun a7 g7 c7 hv7 hc7 ha7=>?_))
 cases hv7
 refine dA (xmv rfl (TL.call [3] [3] (zjJ (by rw [zeg]; have:=zez σ.row k; omega) rfl) ⟨rfl,trivial⟩ ⟨rfl,trivial⟩ ztc rfl rfl rfl rfl ?_))
 rintro v Bs ⟨d2,rfl,hd2⟩
 refine ⟨rfl,trivial,?_⟩
 refine xav rfl (dR ?_)
 refine FQ.ret1 (v:=_) (Bs:=[_,_,_,_]) [0,1,2,3] rfl rfl rfl ⟨rfl,rfl,rfl,rfl,trivial⟩ ?_
 obtain rfl:k=σ.row.size:=by omega
 exact ⟨d2,rfl,by rw [hd2,zeg]; rfl⟩
theorem ziC {l:Lay} (hl:l.Ok) {wb tb:Nat} {hv:Value} {p:Pen} {u v:Int}  : Go.Eng.Fn Tryz.prog 193 [.pointer (some ⟨wb,0,none⟩)] [zf6 198 wb tb 186 (hv) l p (u) (v)] (fun x Bs=>Bs=[zf6 198 wb tb 186 (hv) l p (u) (v),ownA Tm.encI 1 3 x (zau l l.nodes.toNat)]):=by
 have hnb:=zaF hl
 obtain ⟨N,hN⟩:∃ N:Nat,l.nodes=(N:Int):=⟨l.nodes.toNat,by have:=zck hl; omega⟩
 refine Fn.enter (Tryz.func193) rfl rfl (fun w0 R=>?_)
 refine sA (TL.asg (.slice none 0 0) rfl rfl rfl (dA (TL.asg (.slice none 0 0) rfl rfl rfl (dS (TC.seq (TC.nilA 1 (A:=ownA Tm.encI 1 3 (.slice none 0 0) #[]) (.inl ⟨rfl,rfl⟩) (TC.region (xai rfl ?_))))))))
 refine dK (TC.loopK (X:=Nat×Value) [0,2] [0] (fun ⟨k,v⟩=>[(4,.int .i64 ((k+1:Nat):Int)),(3,v)]) (fun ⟨k,v⟩=>[(1,ownA Tm.encI 1 3 v (zau l k))]) (fun ⟨k,v⟩=>(k:Int)<=l.nodes) (fun ⟨k,v⟩=>N - k) ((0,.slice none 0 0)) (by show ((0:Nat):Int)<=l.nodes; omega) ⟨rfl,rfl,trivial⟩ ⟨rfl,trivial⟩ (fun y hI=>?_))
 obtain ⟨k,v⟩:=y
 replace hI:(k:Int)<=l.nodes:=hI
 refine TC.sub (env':=[(4,_),(3,_),(0,_),(2,_)]) (L':=[(1,_),(0,_)]) ⟨rfl,rfl,rfl,rfl,trivial⟩ ⟨rfl,rfl,trivial⟩ (sB (xmi rfl (xmp rfl (xN0 rfl (xf 1 zbo rfl (xL3 0 zab rfl rfl (xD [] (zem hl) zh3 rfl (TL.leq rfl rfl rfl rfl (fun q1=>?_) (fun q1=>?_)))))))))
 refine TL.done (TQ.then (TC.condT rfl (TC.skip (TQ.then (TC.seq (TC.block (sA (xmp rfl ?_))))))))
 refine xN0 rfl (xf 1 zbo rfl (xL3 0 zab rfl rfl (xmi rfl (xD [] (zht hl) zkt rfl (xmu rfl (TL.ext (.agg _) rfl rfl rfl rfl (TL.ext (.bool _) rfl rfl rfl rfl (TL.alloc 2 (cs:=#[.bool false,.int .i64 0,.int .i64 0,.int .i64 0,.int .i64 0]) zgf rfl rfl rfl (fun _=>trivial) (fun bk2=>?_)))))))))
 refine TL.stW 2 5 [_,_,_,_,_] rfl rfl rfl rfl rfl rfl zcL rfl rfl trivial (xab rfl (dA (xf 1 zhH rfl (xli 2 zad rfl rfl (TL.eql rfl rfl rfl rfl (fun q2=>?_) (fun q2=>?_))))))
 refine TL.done (TQ.then (TC.condT rfl (TC.region (xmv rfl (xmi rfl (TL.bsN 3 [_] (Tm.encI ((k+1:Nat):Int)) zak zji ⟨rfl,trivial⟩ rfl (lit1 rfl) rfl rfl (fun bk3=>⟨trivial,?_⟩)))))))
 refine TL.appS 1 3 (d2:=#[((k+1:Nat):Int)]) rfl (rfl) rfl (fun _=>rfl) rfl rfl (row1 rfl) zix (by decide) zfY (by have:=zdw l k; simp; omega) rfl rfl (fun v4=>⟨trivial,?_⟩)
 refine xav rfl (dI (xmi rfl (TL.add (((k+2:Nat):Int)) rfl rfl (wrN (by omega)) rfl rfl (xai rfl (TL.done (TQ.roundK ((k+1,_)) ⟨(show ((k+1:Nat):Int)<=l.nodes by omega),(show N - (k+1)<N - k by omega)⟩ ⟨rfl,rfl,trivial⟩ ⟨congrArg (fun z=>some (ownA Tm.encI 1 3 _ z)) (zp0 (by assumption)),trivial⟩ (kE2 rfl rfl trivial) (kL1 rfl trivial)))))))
 refine TL.done (TQ.then (TC.condF rfl (TC.skip (TQ.inBlock (TQ.then (TC.region (xmi rfl (TL.add (((k+2:Nat):Int)) rfl rfl (wrN (by omega)) rfl rfl ?_))))))))
 refine xai rfl (TL.done (TQ.roundK ((k+1,_)) ⟨(show ((k+1:Nat):Int)<=l.nodes by omega),(show N - (k+1)<N - k by omega)⟩ ⟨rfl,rfl,trivial⟩ ⟨congrArg (fun z=>some (ownA Tm.encI 1 3 _ z)) (zq4 (by assumption)),trivial⟩ (kE2 rfl rfl trivial) (kL1 rfl trivial)))
 refine dE rfl (sA (xmv rfl (xav rfl (dR ?_))))
 refine FQ.ret1 (v:=_) (Bs:=[_,_]) [0,1] rfl rfl rfl ⟨rfl,rfl,trivial⟩ ?_
 obtain rfl:k=l.nodes.toNat:=by omega
 rfl
theorem zqX {tb ab mb:Nat} {σ:Tr} (hz:Room 0 σ:=by exact zaC):Go.Eng.Fn Tryz.prog 192 [.pointer (some ⟨tb,0,none⟩)] [zbj tb ab mb 264 139 29 34 (σ)] (fun x Bs=>∃ d2,Bs=[zbj tb ab mb 264 139 29 34 (σ),rowS x d2]/\d2.toList=chgL σ.row) :=
 Fn.traceX fun a g c ha hac=>Go.Eng.Fn.mono (zzc ha hac hz) fun v Bs ⟨d2,h,h2⟩=>⟨_,σ,[rowS v d2],h,d2,rfl,h2⟩
theorem zoq {l:Lay} (hl:l.Ok) {wb tb ab mb:Nat} {hv:Value} {p:Pen} {u v:Int} {y:Int} (hy:0<=y/\y<18446744073709551616) {a1:Option Addr} {b1 o1 n1 c1:Nat} {A1:Assn} {d1:Array Int} (ha1:0<n1->a1=some ⟨b1,o1,none⟩) (hn1:n1<=137438953472) (hs1:d1.size=n1) (hA1:zbh A1 Tm.encI 1 b1 o1 n1 (fun i=>d1[i]!)) {a2:Option Addr} {b2 o2 n2 c2:Nat} {A2:Assn} {d2:Array Int} (ha2:0<n2->a2=some ⟨b2,o2,none⟩) (hn2:n2<=137438953472) (hs2:d2.size=n2) (hA2:zbh A2 Tm.encI 1 b2 o2 n2 (fun i=>d2[i]!)) {σ:Tr} (hz:Room n1 σ):FnD Tryz.prog 155 [.pointer (some ⟨wb,0,none⟩),.slice a1 n1 c1,.slice a2 n2 c2,.int .u64 y] [zf6 198 wb tb 186 (hv) l p (u) (v),zbj tb ab mb 264 139 29 34 (σ),A1,A2] (.tuple #[]) [zf6 198 wb tb 186 (hv) l p (u) (v),zbj tb ab mb 264 139 29 34 (zbl l d1 d2.toList y (n1) σ),A1,A2]:=by
 refine Fn.enter (Tryz.func155) rfl rfl (fun w0 R=>?_)
 refine sA (xms rfl (xz zak rfl (xmi rfl (dK (TC.loopK (X:=Nat) [0,2,3,10,11] [0,2,3] (fun k=>[(12,.int .i64 ((k:Nat):Int))]) (fun k=>[(1,zbj tb ab mb 264 139 29 34 (zbl l d1 d2.toList y (k) σ))]) (fun k=>k<=n1) (fun k=>n1 - k) (0) (Nat.zero_le _) ⟨rfl,trivial⟩ ⟨rfl,trivial⟩ (fun k hI=>(TC.sub (env':=[(12,_),(0,_),(2,_),(3,_),(10,_),(11,_)]) (L':=[(1,_),(0,_),(2,_),(3,_)]) ⟨rfl,rfl,rfl,rfl,rfl,rfl,trivial⟩ ⟨rfl,rfl,rfl,rfl,trivial⟩ (sA (TL.lss rfl rfl rfl rfl (fun q1=>?_) (fun q1=>?_))))))))))
 refine dS (TC.condT rfl (TC.skip (TQ.then (TC.seq (TC.block (sA (TL.iaO rfl ha1 rfl zak (by omega) rfl rfl (TL.ldRS 2 (.int _ _) rfl rfl hA1 (by omega) (rfl) zad rfl rfl ?_))))))))
 refine xai rfl (dA (xms rfl (xmi rfl (xD [3] (zmU ha2 hn2 hs2 hA2) zyp rfl (TL.cases rfl (fun q2=>?_) (fun q2=>?_))))))
 refine xnt rfl (TL.done (TQ.then (TC.condF rfl (TC.skip (TQ.inBlock (TQ.then (TC.region (TL.add (((k+1:Nat):Int)) rfl rfl (wrN (by omega)) rfl rfl ?_))))))))
 refine xmi rfl (TL.done (TQ.roundK (k+1) ⟨by omega,by omega⟩ ⟨rfl,trivial⟩ ⟨congrArg (fun z=>some (zbj tb ab mb 264 139 29 34 (z))) (zsd (by simpa using q2)),trivial⟩ (kE5 rfl rfl rfl rfl rfl trivial) (kL3 rfl rfl rfl trivial)))
 refine xnf rfl (TL.done (TQ.then (TC.condT rfl (TC.draw (od [1,3,5,7,9,11,13,15,17,21,18,22]) [0] fc_m (by kernel_rfl) (xmp rfl (xN0 rfl (xf 0 zbd rfl (xlp 0 zc5 rfl rfl ?_))))))))
 refine xmp rfl (xN0 rfl (xf 1 zbo rfl (xL3 0 zab rfl rfl (xmi rfl (xmi rfl (xd [] (zaV hl) zbQ rfl (kL1 rfl trivial) (xd [1] (zl0 hy (zdh (n:=1) (hz.le (by omega)))) zyo rfl (kL1 rfl trivial) (dI ?_))))))))
 refine TL.add (((k+1:Nat):Int)) rfl rfl (wrN (by omega)) rfl rfl (xmi rfl (TL.done (TQ.roundK (k+1) ⟨by omega,by omega⟩ ⟨rfl,trivial⟩ ⟨congrArg (fun z=>some (zbj tb ab mb 264 139 29 34 (z))) (zu6 (by simpa using q2)),trivial⟩ (kE5 rfl rfl rfl rfl rfl trivial) (kL3 rfl rfl rfl trivial))))
 refine dS (TC.condF rfl (TC.exit (TQ.thenExit (TQ.thenExit (TQ.blockHere ?_)))))
 refine FQ.end0 (Bs:=[_,_,A1,A2]) [0,1,2,3] rfl rfl ⟨rfl,rfl,rfl,rfl,trivial⟩ ?_
 obtain rfl:k=n1:=by omega
 exact ⟨rfl,rfl⟩
theorem zqP {l:Lay} (hl:l.Ok) {wb tb ab mb:Nat} {hv:Value} {p:Pen} {u v:Int} {σ:Tr} (hz:Room (4 * (zau l l.nodes.toNat).size) σ):FnD Tryz.prog 157 [.pointer (some ⟨wb,0,none⟩)] [zf6 198 wb tb 186 (hv) l p (u) (v),zbj tb ab mb 264 139 29 34 (σ)] (.tuple #[]) [zf6 198 wb tb 186 (hv) l p (u) (v),zbj tb ab mb 264 139 29 34 (cleanW l (chgL σ.row) (zau l l.nodes.toNat) (zau l l.nodes.toNat).size σ)]:=by
 have hnb:=zaF hl
 have hrz:=zcN.1 hz
 have hsl:=zdw l l.nodes.toNat
 obtain ⟨SA,hSA⟩:∃ SA,SA=zau l l.nodes.toNat:=⟨_,rfl⟩
 rw [<-hSA] at hz hsl hrz ⊢
 refine Fn.enter (Tryz.func157) rfl rfl (fun w0 R=>?_)
 refine sA (xmp rfl (xN0 rfl (xf 0 zbd rfl (xlp 0 zc5 rfl rfl (TL.call [1] [1,2] zqX ⟨rfl,trivial⟩ ⟨rfl,trivial⟩ ztb rfl rfl rfl rfl ?_)))))
 rintro x Bs ⟨ch,rfl,hch⟩
 refine ⟨rfl,trivial,?_⟩
 refine TL.rowS 2 rfl (fun a8 b8 o8 c8 hv8 hc8 ha8=>⟨trivial,?_⟩)
 cases hv8
 have hcs:=zkz hch
 have hcz:ch.size<=137438953472:=by have:=zpE hch; omega
 refine xas rfl (dA (xmp rfl (TL.call [0] [0,3] (ziC hl) ⟨rfl,trivial⟩ ⟨rfl,trivial⟩ zn6 rfl rfl rfl rfl ?_)))
 rintro x Bs rfl
 refine ⟨rfl,trivial,?_⟩
 rw [<-hSA]
 refine TL.ownW 3 rfl (fun a7 g7 c7 hv7 hc7 ha7=>?_)
 cases hv7
 refine xz zak rfl (xmi rfl (dK (TC.loopK (X:=Nat) [0,2,16,17] [0,2,3] (fun k=>[(18,.int .i64 ((k:Nat):Int))]) (fun k=>[(1,zbj tb ab mb 264 139 29 34 (cleanW l (chgL σ.row) SA (k) σ))]) (fun k=>k<=SA.size) (fun k=>SA.size - k) (0) (Nat.zero_le _) ⟨rfl,trivial⟩ ⟨rfl,trivial⟩ (fun k hI=>(TC.sub (env':=[(18,_),(0,_),(2,_),(16,_),(17,_)]) (L':=[(1,_),(0,_),(2,_),(3,_)]) ⟨rfl,rfl,rfl,rfl,rfl,trivial⟩ ⟨rfl,rfl,rfl,rfl,trivial⟩ (sA (TL.lss rfl rfl rfl rfl (fun q1=>?_) (fun q1=>?_))))))))
 refine dS (TC.condT rfl (TC.skip (TQ.then (TC.seq (TC.block (sA (TL.iaO rfl ha7 rfl zak (by omega) rfl rfl (TL.ldRS 3 (.int _ _) rfl rfl (zaL ha7) (by omega) (rfl) zad rfl rfl ?_))))))))
 refine xai rfl (dA (TL.bldA [.int .i64 0,.int .i64 0] [(.int _ _),(.int _ _)] [_,_] zsI zdT ⟨rfl,rfl,trivial⟩ ⟨rfl,rfl⟩ rfl rfl (xmi rfl (dK (TC.loopK (X:=Nat) [0,2,4,16,17,18,22] [0,2,3] (fun j=>[(23,.int .i64 ((j:Nat):Int))]) (fun j=>[(1,zbj tb ab mb 264 139 29 34 (zkx l (chgL σ.row) SA k σ j))]) (fun j=>j<=2) (fun j=>2 - j) (0) (Nat.zero_le _) ⟨rfl,trivial⟩ ⟨rfl,trivial⟩ (fun j hI=>(TC.sub (env':=[(23,_),(0,_),(2,_),(4,_),(16,_),(17,_),(18,_),(22,_)]) (L':=[(1,_),(0,_),(2,_),(3,_)]) ⟨rfl,rfl,rfl,rfl,rfl,rfl,rfl,rfl,trivial⟩ ⟨rfl,rfl,rfl,rfl,trivial⟩ (sA (TL.lss rfl rfl rfl rfl (fun q2=>?_) (fun q2=>?_))))))))))
 refine dS (TC.condT rfl (TC.skip (TQ.then (TC.seq (TC.block (sA (TL.ixA (.int .i64 (2 - (j:Int))) rfl rfl zdT zad (by omega) (by omega) (by have h9:j=0\/j=1:=(by omega); rcases h9 with rfl | rfl<;>rfl) rfl rfl (xai rfl ?_))))))))
 refine dA (xmp rfl (xN0 rfl (xf 1 zbo rfl (xL3 0 zab rfl rfl (xmi rfl (xmi rfl (xD [] (zaV hl) zbQ rfl (xai rfl ?_))))))))
 refine dA (xms rfl (xmi rfl (TL.call [2] [2] (zkA ha8 hcz rfl zcP hcs) ⟨rfl,rfl,trivial⟩ ⟨rfl,trivial⟩ zta rfl rfl rfl rfl ?_)))
 rintro x Bs ⟨k9,rfl,rfl⟩
 refine ⟨rfl,trivial,?_⟩
 refine xmu rfl (xei rfl rfl (TL.ext (.bool _) rfl rfl rfl rfl (xai rfl (xab rfl (dA (xmb rfl (TL.cases rfl (fun q3=>?_) (fun q3=>?_))))))))
 refine TL.done (TQ.then (TC.condT rfl (TC.draw (od [1,3,5,7,9,11,13,15,17,19,20]) [0] fc_m (by kernel_rfl) (xmp rfl (xN0 rfl (xf 4 zdl rfl (xL2 0 za9 rfl rfl (xmp rfl ?_))))))))
 refine xN0 rfl (xf 0 zbd rfl (xlp 0 zc5 rfl rfl (TL.miN (v:=(.pointer (some ⟨_,_,none⟩))) rfl zfG rfl rfl (xmi rfl (xd [1] (zpC zdZ (zog (n:=0) (by omega) (hz.le (by omega)))) zto rfl (kL1 rfl trivial) (dI (TL.add (((j+1:Nat):Int)) rfl rfl (wrN (by omega)) rfl rfl (xmi rfl ?_))))))))
 refine TL.done (TQ.roundK (j+1) ⟨by omega,by omega⟩ ⟨rfl,trivial⟩ ⟨congrArg (fun z=>some (zbj tb ab mb 264 139 29 34 (z))) (ztM (by omega) (by rw [<-hch]; first | exact of_decide_eq_true q3 | exact of_decide_eq_false q3)),trivial⟩ (kE7 rfl rfl rfl rfl rfl rfl rfl trivial) (kL3 rfl rfl rfl trivial))
 refine TL.done (TQ.then (TC.condF rfl (TC.skip (TQ.inBlock (TQ.then (TC.region (TL.add (((j+1:Nat):Int)) rfl rfl (wrN (by omega)) rfl rfl (xmi rfl ?_))))))))
 refine TL.done (TQ.roundK (j+1) ⟨by omega,by omega⟩ ⟨rfl,trivial⟩ ⟨congrArg (fun z=>some (zbj tb ab mb 264 139 29 34 (z))) (zqC (by omega) (by rw [<-hch]; first | exact of_decide_eq_true q3 | exact of_decide_eq_false q3)),trivial⟩ (kE7 rfl rfl rfl rfl rfl rfl rfl trivial) (kL3 rfl rfl rfl trivial))
 refine dS (TC.condF rfl (TC.exit (TQ.thenExit (TQ.thenExit (TQ.blockHere (TQ.inBlock (TQ.then (TC.region ?_))))))))
 refine TL.add (((k+1:Nat):Int)) rfl rfl (wrN (by omega)) rfl rfl (xmi rfl (TL.done (TQ.roundK (k+1) ⟨by omega,by omega⟩ ⟨rfl,trivial⟩ ⟨by obtain rfl:j=2:=(by omega); rfl,trivial⟩ (kE4 rfl rfl rfl rfl trivial) (kL3 rfl rfl rfl trivial))))
 refine dS (TC.condF rfl (TC.exit (TQ.thenExit (TQ.thenExit (TQ.blockHere ?_)))))
 refine FQ.end0 (Bs:=[_,_]) [0,1] rfl rfl ⟨rfl,rfl,trivial⟩ ?_
 obtain rfl:k=SA.size:=by omega
 exact ⟨rfl,rfl⟩
theorem zuj {l:Lay} (hl:l.Ok) {wb tb ab mb:Nat} {hv:Value} {p:Pen} {u v:Int} {σ:Tr} (hz:Room (4 * (zau l l.nodes.toNat).size) σ):FnD Tryz.prog 154 [.pointer (some ⟨wb,0,none⟩)] [zf6 198 wb tb 186 (hv) l p (u) (v),zbj tb ab mb 264 139 29 34 (σ)] (.tuple #[]) [zf6 198 wb tb 186 (hv) l p (u) (v),zbj tb ab mb 264 139 29 34 (zb1 l p (chgL σ.row) (zau l l.nodes.toNat) (zau l l.nodes.toNat).size σ)]:=by
 have hnb:=zaF hl
 have hrz:=zcN.1 hz
 have hsl:=zdw l l.nodes.toNat
 obtain ⟨SA,hSA⟩:∃ SA,SA=zau l l.nodes.toNat:=⟨_,rfl⟩
 rw [<-hSA] at hz hsl hrz ⊢
 refine Fn.enter (Tryz.func154) rfl rfl (fun w0 R=>?_)
 refine sA (xmp rfl (xN0 rfl (xf 0 zbd rfl (xlp 0 zc5 rfl rfl (TL.call [1] [1,2] zqX ⟨rfl,trivial⟩ ⟨rfl,trivial⟩ ztb rfl rfl rfl rfl ?_)))))
 rintro x Bs ⟨ch,rfl,hch⟩
 refine ⟨rfl,trivial,?_⟩
 refine TL.rowS 2 rfl (fun a8 b8 o8 c8 hv8 hc8 ha8=>⟨trivial,?_⟩)
 cases hv8
 have hcs:=zkz hch
 have hcz:ch.size<=137438953472:=by have:=zpE hch; omega
 refine xas rfl (dA (xmp rfl (TL.call [0] [0,3] (ziC hl) ⟨rfl,trivial⟩ ⟨rfl,trivial⟩ zn6 rfl rfl rfl rfl ?_)))
 rintro x Bs rfl
 refine ⟨rfl,trivial,?_⟩
 rw [<-hSA]
 refine TL.ownW 3 rfl (fun a7 g7 c7 hv7 hc7 ha7=>?_)
 cases hv7
 refine xz zak rfl (xmi rfl (dK (TC.loopK (X:=Nat) [0,2,17,18] [0,2,3] (fun k=>[(19,.int .i64 ((k:Nat):Int))]) (fun k=>[(1,zbj tb ab mb 264 139 29 34 (zb1 l p (chgL σ.row) SA (k) σ))]) (fun k=>k<=SA.size) (fun k=>SA.size - k) (0) (Nat.zero_le _) ⟨rfl,trivial⟩ ⟨rfl,trivial⟩ (fun k hI=>(TC.sub (env':=[(19,_),(0,_),(2,_),(17,_),(18,_)]) (L':=[(1,_),(0,_),(2,_),(3,_)]) ⟨rfl,rfl,rfl,rfl,rfl,trivial⟩ ⟨rfl,rfl,rfl,rfl,trivial⟩ (sA (TL.lss rfl rfl rfl rfl (fun q1=>?_) (fun q1=>?_))))))))
 refine dS (TC.condT rfl (TC.skip (TQ.then (TC.seq (TC.block (sA (TL.iaO rfl ha7 rfl zak (by omega) rfl rfl (TL.ldRS 3 (.int _ _) rfl rfl (zaL ha7) (by omega) (rfl) zad rfl rfl ?_))))))))
 refine xai rfl (dA (xmp rfl (xN0 rfl (xf 1 zbo rfl (xL3 0 zab rfl rfl (xmi rfl (xD [] (zaV hl) zbQ rfl (xai rfl ?_))))))))
 refine dB (xms rfl (xmi rfl (TL.call [2] [2] (zkA ha8 hcz rfl zcP hcs) ⟨rfl,rfl,trivial⟩ ⟨rfl,trivial⟩ zta rfl rfl rfl rfl ?_)))
 rintro x Bs ⟨k9,rfl,rfl⟩
 refine ⟨rfl,trivial,?_⟩
 refine xmu rfl (xei rfl rfl (TL.ext (.bool _) rfl rfl rfl rfl (xai rfl (xab rfl (dA (xmb rfl (TL.cases rfl (fun q2=>?_) (fun q2=>?_))))))))
 refine xnt rfl (dF rfl (xmp rfl (xN0 rfl (xf 0 zbd rfl (xlp 0 zc5 rfl rfl (xmi rfl (xD [1] (zoA (zcT (n:=1) (hz.le (by omega)))) zyq rfl (xD [] zdu zfH rfl ?_))))))))
 refine xmu rfl (TL.ext (.agg _) rfl rfl rfl rfl (xei rfl rfl (TL.alloc 4 (cs:=#[.int .i64 0,.int .i64 0,.int .i64 0,.int .i64 0]) zb6 rfl rfl rfl (fun _=>trivial) (fun bk4=>(TL.stW 4 4 [_,_,_,_] rfl rfl rfl rfl rfl rfl zaI rfl rfl trivial (xai rfl (dA (xf 0 zb8 rfl (xli 4 zad rfl rfl ?_)))))))))
 refine TL.eql rfl rfl rfl rfl (fun q3=>?_) (fun q3=>?_)
 refine xmt rfl (xo rfl (xo rfl (xo rfl (xpT rfl (dT rfl (xmp rfl (xN0 rfl (xf 1 zbo rfl ?_))))))))
 refine xL3 0 zab rfl rfl (xmi rfl (xD [] (zaV hl) zbQ rfl (xai rfl (TL.done (TQ.then (TC.draw (od [1,3,5,7,9,11,13,15,17,19,21,23,25,27,29,31,32,35,36]) [0] fc_m (by kernel_rfl) (xmp rfl (xN0 rfl ?_))))))))
 refine xf 4 zdl rfl (xL2 0 za9 rfl rfl (xmp rfl (xN0 rfl (xf 0 zbd rfl (xlp 0 zc5 rfl rfl (TL.miN (v:=(.pointer (some ⟨_,_,none⟩))) rfl zfG rfl rfl (xmi rfl (xmp rfl ?_))))))))
 refine xN0 rfl (xf 0 zbd rfl (xlp 0 zc5 rfl rfl (TL.miN (v:=(.pointer (some ⟨_,_,none⟩))) rfl zfG rfl rfl (xmi rfl (xd [1] (zrS zdZ (ld_f (zcT (n:=2) (hz.le (by omega))))) zn4 rfl (kL1 rfl trivial) (TL.add _ rfl rfl (rfl) rfl rfl (xd [1] (zkG zdZ (ld_f (ld_f (zcT (n:=4) (hz.le (by omega)))))) zn5 rfl (kL1 rfl trivial) (dI ?_))))))))
 refine TL.add (((k+1:Nat):Int)) rfl rfl (wrN (by omega)) rfl rfl (xmi rfl (TL.done (TQ.roundK (k+1) ⟨by omega,by omega⟩ ⟨rfl,trivial⟩ ⟨congrArg (fun z=>some (zbj tb ab mb 264 139 29 34 (z))) (by rw [zkH (by rw [<-hch]; first | exact of_decide_eq_true q2 | exact of_decide_eq_false q2 | simpa using q2),if_pos (.inl (by assumption))]),trivial⟩ (kE4 rfl rfl rfl rfl trivial) (kL3 rfl rfl rfl trivial))))
 refine xmf rfl (xf 1 zcq rfl (xli 4 zad rfl rfl (TL.eql rfl rfl rfl rfl (fun q4=>?_) (fun q4=>?_))))
 refine xpH rfl (dT rfl (xmp rfl (xN0 rfl (xf 1 zbo rfl (xL3 0 zab rfl rfl (xmi rfl (xD [] (zaV hl) zbQ rfl (xai rfl ?_))))))))
 refine TL.done (TQ.then (TC.draw (od [1,3,5,7,9,11,13,15,17,19,21,23,25,27,29,31,32,35,36]) [0] fc_m (by kernel_rfl) (xmp rfl (xN0 rfl (xf 4 zdl rfl (xL2 0 za9 rfl rfl (xmp rfl (xN0 rfl ?_))))))))
 refine xf 0 zbd rfl (xlp 0 zc5 rfl rfl (TL.miN (v:=(.pointer (some ⟨_,_,none⟩))) rfl zfG rfl rfl (xmi rfl (xmp rfl (xN0 rfl (xf 0 zbd rfl (xlp 0 zc5 rfl rfl (TL.miN (v:=(.pointer (some ⟨_,_,none⟩))) rfl zfG rfl rfl ?_))))))))
 refine xmi rfl (xd [1] (zrS zdZ (ld_f (zcT (n:=2) (hz.le (by omega))))) zn4 rfl (kL1 rfl trivial) (TL.add _ rfl rfl (rfl) rfl rfl (xd [1] (zkG zdZ (ld_f (ld_f (zcT (n:=4) (hz.le (by omega)))))) zn5 rfl (kL1 rfl trivial) (dI (TL.add (((k+1:Nat):Int)) rfl rfl (wrN (by omega)) rfl rfl (xmi rfl (TL.done (TQ.roundK (k+1) ⟨by omega,by omega⟩ ⟨rfl,trivial⟩ ⟨congrArg (fun z=>some (zbj tb ab mb 264 139 29 34 (z))) (by rw [zkH (by rw [<-hch]; first | exact of_decide_eq_true q2 | exact of_decide_eq_false q2 | simpa using q2),if_pos (.inr (by assumption))]),trivial⟩ (kE4 rfl rfl rfl rfl trivial) (kL3 rfl rfl rfl trivial)))))))))
 refine xpF rfl (TL.done (TQ.then (TC.condF rfl (TC.skip (TQ.inBlock (TQ.then (TC.region (TL.add (((k+1:Nat):Int)) rfl rfl (wrN (by omega)) rfl rfl ?_))))))))
 refine xmi rfl (TL.done (TQ.roundK (k+1) ⟨by omega,by omega⟩ ⟨rfl,trivial⟩ ⟨congrArg (fun z=>some (zbj tb ab mb 264 139 29 34 (z))) (by rw [zkH (by rw [<-hch]; first | exact of_decide_eq_true q2 | exact of_decide_eq_false q2 | simpa using q2),if_neg (fun h9=>h9.elim (by assumption) (by assumption))]),trivial⟩ (kE4 rfl rfl rfl rfl trivial) (kL3 rfl rfl rfl trivial)))
 refine xnf rfl (TL.done (TQ.then (TC.condT rfl (TC.exit (TQ.thenExit (TQ.blockHere (TQ.then (TC.region ?_))))))))
 refine TL.add (((k+1:Nat):Int)) rfl rfl (wrN (by omega)) rfl rfl (xmi rfl (TL.done (TQ.roundK (k+1) ⟨by omega,by omega⟩ ⟨rfl,trivial⟩ ⟨congrArg (fun z=>some (zbj tb ab mb 264 139 29 34 (z))) (zqR (by rw [<-hch]; first | exact of_decide_eq_true q2 | exact of_decide_eq_false q2 | simpa using q2)),trivial⟩ (kE4 rfl rfl rfl rfl trivial) (kL3 rfl rfl rfl trivial))))
 refine dS (TC.condF rfl (TC.exit (TQ.thenExit (TQ.thenExit (TQ.blockHere ?_)))))
 refine FQ.end0 (Bs:=[_,_]) [0,1] rfl rfl ⟨rfl,rfl,trivial⟩ ?_
 obtain rfl:k=SA.size:=by omega
 exact ⟨rfl,rfl⟩
theorem zum {a:Option Addr} {b off n c:Nat} {A:Assn} {d:Array Acc} {v:Int} (ha:0<n->a=some ⟨b,off,none⟩) (hn:n<=137438953472) (hsz:d.size=n) (hA:zbh A zat 3 b off n (fun i=>d[i]!)):FnD Tryz.prog 153 [.slice a n c,.int .i64 v] [A] (.int .i64 (zev d v n)) [A]:=by
 refine Fn.enter (Tryz.func153) rfl rfl (fun w0 R=>?_)
 refine sA (xai rfl (dB (xms rfl (xz zal rfl (TL.sub _ rfl rfl (wr64 (by omega)) rfl rfl (xai rfl (dK (TC.loopK (X:=Nat) [0,1] [0] (fun k=>[(5,.int .i64 ((k:Int) - 1))]) (fun k=>[]) (fun k=>k<=n/\zev d v n=zev d v k) (fun k=>k) (n) ⟨Nat.le_refl _,rfl⟩ ⟨rfl,trivial⟩ trivial (fun k hI=>?_)))))))))
 obtain ⟨hk,hI⟩:=hI
 refine TC.sub (env':=[(5,_),(0,_),(1,_)]) (L':=[(0,_)]) ⟨rfl,rfl,rfl,trivial⟩ ⟨rfl,trivial⟩ (sB (xmi rfl (TL.geq rfl rfl rfl rfl (fun q1=>?_) (fun q1=>?_))))
 refine TL.done (TQ.then (TC.condT rfl (TC.skip (TQ.then (TC.seq (TC.block (TC.seq ?_)))))))
 have e9:((k:Nat):Int) - 1=((k - 1:Nat):Int):=by omega
 rw [e9]
 refine TC.region (xms rfl (xmi rfl (TL.iaO rfl ha rfl zal (by omega) rfl rfl (xf 0 zdY rfl (TL.ldRF 0 (.bool _) rfl rfl hA (by omega) rfl rfl zdb rfl rfl (xmb rfl (TL.cases rfl (fun q2=>?_) (fun q2=>?_))))))))
 refine xms rfl (xmi rfl (TL.iaO rfl ha rfl zal (by omega) rfl rfl (xf 1 zbP rfl (TL.ldRF 0 (.int _ _) rfl rfl hA (by omega) rfl rfl zad rfl rfl (xmi rfl (TL.eql rfl rfl rfl rfl (fun q3=>?_) (fun q3=>?_)))))))
 refine xpT rfl (dT rfl (xmi rfl (xai rfl (dR (TQ.blockRet (TQ.thenRet (TQ.thenRet (TQ.blockRet ?_))))))))
 refine TQ.thenRet ?_
 refine FQ.ret1 (v:=(.int _ _)) (Bs:=[A]) [0] rfl rfl rfl ⟨rfl,trivial⟩ ?_
 exact ⟨iE (by rw [hI]; exact zsk (by omega) (by assumption) (by assumption)),rfl⟩
 refine xpG rfl (TL.done (TQ.then (TC.condF rfl (TC.skip (TQ.inBlock (TQ.then (TC.region (xmi rfl ?_))))))))
 refine TL.sub _ rfl rfl (wr64 (by omega)) rfl rfl (xai rfl (TL.done (TQ.roundK (k - 1) ⟨⟨by omega,zph hI (by omega) (by first | exact .inl (by simpa using q2) | exact .inr q3 | trace_state)⟩,by omega⟩ ⟨rfl,trivial⟩ trivial (kE2 rfl rfl trivial) (kL1 rfl trivial))))
 refine xo rfl (xo rfl (xo rfl (xo rfl (xo rfl (xo rfl (xo rfl (xpF rfl (TL.done ?_))))))))
 refine TQ.then (TC.condF rfl (TC.skip (TQ.inBlock (TQ.then (TC.region (xmi rfl (TL.sub _ rfl rfl (wr64 (by omega)) rfl rfl (xai rfl ?_))))))))
 refine TL.done (TQ.roundK (k - 1) ⟨⟨by omega,zph hI (by omega) (by first | exact .inl (by simpa using q2) | exact .inr q3 | trace_state)⟩,by omega⟩ ⟨rfl,trivial⟩ trivial (kE2 rfl rfl trivial) (kL1 rfl trivial))
 refine dE rfl (sA (xai rfl (dR ?_)))
 refine FQ.ret1 (v:=(.int _ _)) (Bs:=[A]) [0] rfl rfl rfl ⟨rfl,trivial⟩ ?_
 obtain rfl:k=0:=by omega
 exact ⟨iE (by rw [hI]; rfl),rfl⟩
theorem zlS {l:Lay} (hl:l.Ok) {wb tb ab mb:Nat} {hv:Value} {p:Pen} {u v:Int} {σ σ1 σ2:Tr} {k:Nat} {x y:Int} (h1:root l k σ (l.vertex 0 u)=some (x,σ1)) (h2:root l k σ1 (l.vertex 0 v)=some (y,σ2)) (hz:Room (2 * k) σ):Go.Eng.Fn Tryz.prog 151 [.pointer (some ⟨wb,0,none⟩)] [zf6 198 wb tb 186 (hv) l p (u) (v),zbj tb ab mb 264 139 29 34 (σ)] (fun r Bs=>Bs=[zf6 198 wb tb 186 (hv) l p (u) (v),zbj tb ab mb 264 139 29 34 (σ2),rowS r (zar x y)]):=by
 refine Fn.enter (Tryz.func151) rfl rfl (fun w0 R=>?_)
 refine sA (TL.asg (.slice none 0 0) rfl rfl rfl (dS (TC.draw (od [1,3,5,7,9,11,13,15,17,19,21,23,25,27,29,31,37,39,41,43,45,47,49,51,53,55,57,59,61,63,65,67,32,34,68,70,73,75]) [0] fc_m (by kernel_rfl) (xmp rfl (xN0 rfl (xf 6 zcr rfl (xf 0 zaT rfl (xf 0 zap rfl ?_))))))))
 refine xf 0 zbe rfl (xf 0 zaj rfl (xL6 0 zaa rfl rfl (xmp rfl (xN0 rfl (xf 1 zbo rfl (xL3 0 zab rfl rfl (xmp rfl (xN0 rfl ?_))))))))
 refine xf 17 zb0 rfl (xli 0 zad rfl rfl (xmp rfl (xN0 rfl (xf 6 zcr rfl (xf 0 zaT rfl (xf 0 zap rfl (xf 0 zbe rfl (xf 0 zaj rfl ?_))))))))
 refine xL6 0 zaa rfl rfl (xmp rfl (xN0 rfl (xf 1 zbo rfl (xL3 0 zab rfl rfl (xmp rfl (xN0 rfl (xf 18 zbZ rfl (xli 0 zad rfl rfl ?_))))))))
 refine xd [] (zcX hl) zfh rfl (kL1 rfl trivial) (xd [1] (zeY zdZ hl h1) zfg rfl (kL1 rfl trivial) (xd [] (zcX hl) zfh rfl (kL1 rfl trivial) (xd [1] (zeY zdZ hl h2) zfg rfl (kL1 rfl trivial) (xai rfl (xai rfl (dA (xmi rfl (xmi rfl ?_))))))))
 refine TL.min2 rfl rfl rfl rfl (xmi rfl (xmi rfl (TL.max2 rfl rfl rfl rfl (TL.bsN 2 [_,_] ([.int .i64 (min x y),.int .i64 (max x y)]) zak zji ⟨rfl,rfl,trivial⟩ rfl (lit2) rfl rfl (fun bk2=>⟨trivial,?_⟩)))))
 refine TL.conseq 2 (B:=ownA Tm.encI 1 3 (.slice (some ⟨bk2,0,none⟩) 2 2) (#[min x y,max x y])) rfl (fun h hh=>zuW hh) trivial (TL.call [2] [2] (zjJ (n:=2) (d:=#[min x y,max x y]) (by decide) rfl) ⟨rfl,trivial⟩ ⟨rfl,trivial⟩ ztc rfl rfl rfl rfl ?_)
 rintro v Bs ⟨d2,rfl,hd2⟩
 refine ⟨rfl,trivial,?_⟩
 obtain rfl:d2=zar x y:=by rw [<-zyU,<-hd2]
 refine xav rfl (dR ?_)
 refine FQ.ret1 (v:=_) (Bs:=[_,_,_]) [0,1,2] rfl rfl rfl ⟨rfl,rfl,rfl,trivial⟩ ?_
 rfl
theorem zgN {rb n c:Nat} {a:Option Addr} {at_:Int} {bad:Bool}:FnD Tryz.prog 19 [.pointer (some ⟨rb,0,none⟩)] [pt rb (.cells #[.slice a n c,.int .i64 (at_),.bool (bad)] 145)] (.bool (decide (at_=(n:Int)))) [pt rb (.cells #[.slice a n c,.int .i64 (at_),.bool (bad)] 145)]:=by
 refine Fn.enter (Tryz.func19) rfl rfl (fun w0 R=>?_)
 refine sA (xaf rfl (dS (TC.draw (od [1,3,5,7,9,11,13,15,17,19,21]) [0] fc_m (by kernel_rfl) (xmp rfl (xN0 rfl (xf 1 zcs rfl (xli 0 zad rfl rfl (xmp rfl ?_))))))))
 refine xN0 rfl (xf 0 zjp rfl (xls 0 zcc rfl rfl (xz zal rfl (TL.eqlV rfl rfl rfl rfl (xab rfl (dR ?_))))))
 refine FQ.ret1 (v:=(.bool _)) (Bs:=[_]) [0] rfl rfl rfl ⟨rfl,trivial⟩ ?_
 exact ⟨rfl,rfl⟩
theorem ziY {rb n c:Nat} {a:Option Addr} {at_:Int} {bad:Bool}:FnD Tryz.prog 21 [.pointer (some ⟨rb,0,none⟩)] [pt rb (.cells #[.slice a n c,.int .i64 (at_),.bool (bad)] 145)] (.int .i64 at_) [pt rb (.cells #[.slice a n c,.int .i64 (at_),.bool (bad)] 145)]:=by
 refine Fn.enter (Tryz.func21) rfl rfl (fun w0 R=>?_)
 refine sA (xai rfl (dA (xmp rfl (xN0 rfl (xf 1 zcs rfl (xli 0 zad rfl rfl (xai rfl (dR ?_))))))))
 refine FQ.ret1 (v:=(.int _ _)) (Bs:=[_]) [0] rfl rfl rfl ⟨rfl,trivial⟩ ?_
 exact ⟨rfl,rfl⟩
theorem zkV {rb n c:Nat} {a:Option Addr} {at_:Int} {bad:Bool}:FnD Tryz.prog 22 [.pointer (some ⟨rb,0,none⟩)] [pt rb (.cells #[.slice a n c,.int .i64 (at_),.bool (bad)] 145)] (.bool (!bad)) [pt rb (.cells #[.slice a n c,.int .i64 (at_),.bool (bad)] 145)]:=by
 refine Fn.enter (Tryz.func22) rfl rfl (fun w0 R=>?_)
 refine sA (xaf rfl (dA (xmp rfl (xN0 rfl (xf 2 zfd rfl (xlb 0 zdb rfl rfl (TL.not _ _ rfl rfl rfl rfl (xab rfl ?_))))))))
 refine dR ?_
 refine FQ.ret1 (v:=(.bool _)) (Bs:=[_]) [0] rfl rfl rfl ⟨rfl,trivial⟩ ?_
 exact ⟨rfl,rfl⟩
theorem zi4 {a:Option Addr} {b off n c:Nat} {A:Assn} {f:Nat->Acc} (ha:0<n->a=some ⟨b,off,none⟩) (hn:n<=137438953471) (hA:zbh A zat 3 b off n f):Go.Eng.Fn Tryz.prog 18 [.slice a n c] [A] (fun x Bs=>∃ rb v,x=.pointer (some ⟨rb,0,none⟩)/\Bs=[A,pt rb (.cells #[v,.int .i64 (0),.bool (false)] 145),ownA zat 3 34 (v) (((List.range n).map f).toArray)]):=by
 refine Fn.enter (Tryz.func18) rfl rfl (fun w0 R=>?_)
 refine sA (TL.asg (.pointer none) rfl rfl rfl (dA (xms rfl (TL.call [0] [0,1] (zmV ha hn hA) ⟨rfl,trivial⟩ ⟨rfl,trivial⟩ zwr rfl rfl rfl rfl ?_))))
 rintro v Bs rfl
 refine ⟨rfl,trivial,?_⟩
 refine TL.ownW 1 rfl (fun a7 g7 c7 hv7 hc7 ha7=>?_)
 cases hv7
 refine TL.bld [.slice none 0 0,.int .i64 0,.bool false] [_] [_,_,_] zxS zx3 ⟨rfl,trivial⟩ ⟨rfl,rfl⟩ rfl rfl (xB 2 rfl (fun bk2=>(xap rfl (dR ?_))))
 refine FQ.ret1 (v:=(.pointer (some ⟨_,_,none⟩))) (Bs:=[A,_,_]) [0,2,1] rfl rfl rfl ⟨rfl,rfl,rfl,trivial⟩ ?_
 exact ⟨_,_,rfl,rfl⟩
theorem zp4 {ab mb:Nat} {a:Option Addr} {b off c:Nat} {A:Assn} {σ:Array UInt64} {x:Acc} (ha:0<1->a=some ⟨b,off,none⟩) (hA:zbh A zat 3 b off 1 (fun _=>x)) (hv:0<=x.val/\x.val<18446744073709551616):FnD Tryz.prog 84 [.iface 149 (.agg #[.pointer (some ⟨ab,0,none⟩)]),.slice a 1 c] [zam ab mb 139 29 (σ),A] (.tuple #[.int .i64 (if accG x σ=true then 1 else 0),.bool (accG x σ)]) [zam ab mb 139 29 (acc1 x σ),A]:=by
 refine Fn.enter (Tryz.func84) rfl rfl (fun w0 R=>?_)
 refine sA (xai rfl (xaf rfl (dB (xms rfl (xz zal rfl (xmi rfl (dK (TC.loopK (X:=Nat) [0,1,8,9] [1] (fun k=>[(10,.int .i64 ((k:Nat):Int))]) (fun k=>[(0,zam ab mb 139 29 (accJ x σ k))]) (fun k=>k<=1/\(k=1->accG x σ=true)) (fun k=>1 - k) (0) ⟨Nat.zero_le _,fun h=>by cases h⟩ ⟨rfl,trivial⟩ ⟨rfl,trivial⟩ (fun k hI=>?_)))))))))
 obtain ⟨hk,hg⟩:=hI
 refine TC.sub (env':=[(10,_),(0,_),(1,_),(8,_),(9,_)]) (L':=[(0,_),(1,_)]) ⟨rfl,rfl,rfl,rfl,rfl,trivial⟩ ⟨rfl,rfl,trivial⟩ (sA (TL.lss rfl rfl rfl rfl (fun q1=>?_) (fun q1=>?_)))
 refine dS (TC.condT rfl (TC.skip (TQ.then (TC.seq (TC.block (TC.seq ?_))))))
 obtain rfl:k=0:=by omega
 refine TC.region (xmi rfl (TL.iaO rfl ha rfl zal (by omega) rfl rfl (TL.ldR 1 rfl rfl hA (by omega) zci rfl rfl (TL.alloc 2 (cs:=#[.bool false,.int .i64 0,.int .u64 0]) zes rfl rfl rfl (fun _=>trivial) (fun bk2=>(xai rfl (TL.stW 2 3 [_,_,_] rfl rfl rfl rfl rfl rfl zci rfl rfl trivial (dK (sA ?_)))))))))
 refine xf 0 zdY rfl (xlb 2 zdb rfl rfl (xab rfl (TL.done (TQ.then (TC.cond rfl (fun q2=>?_) (fun q2=>?_))))))
 refine TC.region (xmc rfl (xf 1 zbP rfl (xli 2 zad rfl rfl (xf 2 zks rfl (xli 2 zkl rfl rfl (TL.mstore 0 zfn rfl rfl rfl hv rfl rfl rfl trivial (TL.done (TQ.inBlock ?_))))))))
 refine TQ.inBlock (TQ.then (TC.region (TL.add (((0+1:Nat):Int)) rfl rfl (wrN (by omega)) rfl rfl (xmi rfl (TL.done (TQ.roundK (0+1) ⟨⟨by omega,fun _=>zug (by assumption)⟩,by omega⟩ ⟨rfl,trivial⟩ ⟨congrArg (fun z=>some (zam ab mb 139 29 (z))) (zAm (by assumption)),trivial⟩ (kE4 rfl rfl rfl rfl trivial) (kL1 rfl trivial)))))))
 refine TC.seq (TC.draw (od [1,3,5,9,11,6,13,15]) [2] fc_m (by kernel_rfl) (xmc rfl (xf 1 zbP rfl (xli 2 zad rfl rfl (xf 2 zks rfl (xli 2 zkl rfl rfl (TL.mload 0 zfn rfl rfl rfl rfl rfl (kL1 rfl trivial) (TL.neq rfl rfl rfl rfl (fun q3=>?_) (fun q3=>?_)))))))))
 refine xat rfl (dT rfl (xmi rfl (xai rfl (xaf rfl (dR (TQ.blockRet (TQ.blockRet (TQ.thenRet ?_))))))))
 refine TQ.thenRet (TQ.blockRet (TQ.thenRet ?_))
 refine FQ.ret2 (v:=(.int _ _)) (x:=(.bool false)) (Bs:=[_,A]) [0,1] rfl rfl rfl rfl ⟨rfl,rfl,trivial⟩ ?_
 have h9:=zAn (σ:=σ) (x:=x) (by assumption) (by assumption)
 exact ⟨by rw [h9]; rfl,by rw [<-zuh (by assumption)]; rfl⟩
 refine xaf rfl (TL.done (TQ.then (TC.condF rfl (TC.skip (TQ.inBlock (TQ.inBlock (TQ.then (TC.region ?_))))))))
 refine TL.add (((0+1:Nat):Int)) rfl rfl (wrN (by omega)) rfl rfl (xmi rfl (TL.done (TQ.roundK (0+1) ⟨⟨by omega,fun _=>zuf (Decidable.not_not.1 (by assumption))⟩,by omega⟩ ⟨rfl,trivial⟩ ⟨congrArg (fun z=>some (zam ab mb 139 29 (z))) (zwD (by assumption)),trivial⟩ (kE4 rfl rfl rfl rfl trivial) (kL1 rfl trivial))))
 refine dS (TC.condF rfl (TC.exit (TQ.thenExit (TQ.thenExit (TQ.blockHere (TQ.then (sA (xms rfl ?_))))))))
 refine xz zal rfl (xai rfl (xat rfl (dR ?_)))
 refine FQ.ret2 (v:=(.int _ _)) (x:=(.bool true)) (Bs:=[_,A]) [0,1] rfl rfl rfl rfl ⟨rfl,rfl,trivial⟩ ?_
 obtain rfl:k=1:=by omega
 exact ⟨by rw [hg rfl]; rfl,rfl⟩
theorem znn {rb ab mb c k g:Nat} {a:Option Addr} {bad:Bool} {d:Array Acc} {σ:Array UInt64} (hn:d.size<=137438953471) (hac:d.size<=c) (ha:0<d.size->a=some ⟨g,0,none⟩) (hk:k<d.size) (hv:∀ i,i<d.size->0<=d[i]!.val/\d[i]!.val<18446744073709551616):FnD Tryz.prog 20 [.pointer (some ⟨rb,0,none⟩),.pointer (some ⟨ab,0,none⟩)] [pt rb (.cells #[.slice a d.size c,.int .i64 (((k:Nat):Int)),.bool (bad)] 145),ownA zat 3 34 (.slice a d.size c) (d),zam ab mb 139 29 (σ)] (.bool (decide (k+1=d.size))) [pt rb (.cells #[.slice a d.size c,.int .i64 (((k+1:Nat):Int)),.bool (bad || !accG d[k]! σ)] 145),ownA zat 3 34 (.slice a d.size c) (d),zam ab mb 139 29 (acc1 d[k]! σ)]:=by
 refine Fn.enter (Tryz.func20) rfl rfl (fun w0 R=>?_)
 refine sA (xaf rfl (dB (xmp rfl (xD [0] zgN zmN rfl ?_))))
 rw [decide_eq_false (show ¬((k:Nat):Int)=(d.size:Int) by omega)]
 refine TL.done (TQ.then (TC.condF rfl (TC.skip (TQ.then (TC.seq (TC.draw (od [1,7,9,11,13,15,17,19,21,23,25,27,29,31,33,2,5,34,37,39,41,43,45]) [0] fc_m (by kernel_rfl) (xmp rfl (xmp rfl ?_))))))))
 refine xN0 rfl (xf 0 zjp rfl (xls 0 zcc rfl rfl (xmp rfl (xN0 rfl (xf 1 zcs rfl (xli 0 zad rfl rfl (xmp rfl (xN0 rfl ?_))))))))
 refine xf 1 zcs rfl (xli 0 zad rfl rfl (TL.add (((k+1:Nat):Int)) rfl rfl (wrN (by omega)) rfl rfl (TL.slLH rfl rfl rfl zal (by omega) (by omega) rfl rfl (xd [] ze4 zjs rfl (kL1 rfl trivial) (TL.miN (v:=(.agg _)) rfl zgt rfl rfl ?_)))))
 have e9:k+1 - k=1:=by omega
 rw [e9]
 refine xd [2,1] (zp4 (x:=d[k]!) (fun _=>zfw ha (by omega) (by omega)) (((zaL ha).drop k 1 (by omega)).congr fun i hi=>by obtain rfl:i=0:=(by omega); rfl) (hv k hk)) zzW rfl (kL1 rfl trivial) (xmu rfl (xei rfl rfl (TL.ext (.bool _) rfl rfl rfl rfl (xai rfl (xab rfl (dA (xmp rfl (xmp rfl ?_))))))))
 refine xN0 rfl (xf 2 zfd rfl (xlb 0 zdb rfl rfl (xmb rfl (TL.cases rfl (fun q1=>?_) (fun q1=>?_)))))
 refine xo rfl (xo rfl (xpT rfl (xN0 rfl (xf 2 zfd rfl (TL.st 0 #[_,_,_] (.bool true) rfl rfl rfl rfl rfl rfl zdb rfl rfl trivial (dA (xmp rfl (xN0 rfl ?_))))))))
 refine xf 1 zcs rfl (xli 0 zad rfl rfl (TL.add (((k+1:Nat):Int)) rfl rfl (wrN (by omega)) rfl rfl (xN0 rfl (xf 1 zcs rfl (TL.st 0 #[_,_,_] (.int _ _) rfl rfl rfl rfl rfl rfl zad rfl rfl trivial (dA (xmp rfl (xD [0] zgN zmN rfl ?_))))))))
 refine xab rfl (dR ?_)
 refine FQ.ret1 (v:=(.bool _)) (Bs:=[_,_,_]) [0,1,2] rfl rfl rfl ⟨rfl,rfl,rfl,trivial⟩ ?_
 exact ⟨congrArg Value.bool (decide_eq_decide.2 (by omega)),by first | rfl | (simp only [*]; rfl) | simp [*]⟩
 refine xmb rfl (TL.not _ _ rfl rfl rfl rfl (TL.pickF (.bool _) rfl rfl rfl rfl (xN0 rfl (xf 2 zfd rfl (TL.st 0 #[_,_,_] (.bool _) rfl rfl rfl rfl rfl rfl zdb rfl rfl trivial (dA (xmp rfl (xN0 rfl ?_))))))))
 refine xf 1 zcs rfl (xli 0 zad rfl rfl (TL.add (((k+1:Nat):Int)) rfl rfl (wrN (by omega)) rfl rfl (xN0 rfl (xf 1 zcs rfl (TL.st 0 #[_,_,_] (.int _ _) rfl rfl rfl rfl rfl rfl zad rfl rfl trivial (dA (xmp rfl (xD [0] zgN zmN rfl ?_))))))))
 refine xab rfl (dR ?_)
 refine FQ.ret1 (v:=(.bool _)) (Bs:=[_,_,_]) [0,1,2] rfl rfl rfl ⟨rfl,rfl,rfl,trivial⟩ ?_
 exact ⟨congrArg Value.bool (decide_eq_decide.2 (by omega)),by first | rfl | (simp only [*]; rfl) | simp [*]⟩
set_option maxHeartbeats 2000000 in
theorem zul {l:Lay} (hl:l.Ok) {wb tb:Nat} {hv:Value} {p:Pen} {u v:Int} {a:Option Addr} {b off n c pn:Nat} {A:Assn} {d:Array Acc} (ha:0<n->a=some ⟨b,off,none⟩) (hn:n<=137438953471) (hsz:d.size=n) (hA:zbh A zat 3 b off n (fun i=>d[i]!)) (hpn:pn<=n) (hnc:n<=c):Go.Eng.Fn Tryz.prog 159 [.pointer (some ⟨wb,0,none⟩),.slice a n c,.int .i64 (pn:Int)] [zf6 198 wb tb 186 (hv) l p (u) (v),A] (fun x Bs=>∃ v9,x=.tuple #[v9,.int .i64 (zgs l d pn).2]/\Bs=[zf6 198 wb tb 186 (hv) l p (u) (v),A,ownA zat 3 34 (v9) ((zgs l d pn).1)]):=by
 have hnb:=zaF hl
 have hsl:=zdw l l.nodes.toNat
 obtain ⟨SA,hSA⟩:∃ SA,SA=zau l l.nodes.toNat:=⟨_,rfl⟩
 rw [<-hSA] at hsl
 refine Fn.enter (Tryz.func159) rfl rfl (fun w0 R=>?_)
 refine sA (TL.asg (.slice none 0 0) rfl rfl rfl (xai rfl (dA (TL.mkMA 2 (fun z:Int=>.int .i64 z) (intV) rfl rfl (fun bk2=>⟨trivial,?_⟩)))))
 refine TL.mkMA 3 (fun z:Int=>.int .i64 z) (intV) rfl rfl (fun bk3=>⟨trivial,?_⟩)
 refine TL.asg (.map _) rfl rfl rfl (TL.asg (.map _) rfl rfl rfl (dB (xmp rfl (TL.call [0] [0,4] (ziC hl) ⟨rfl,trivial⟩ ⟨rfl,trivial⟩ zn6 rfl rfl rfl rfl ?_))))
 rintro x Bs rfl
 refine ⟨rfl,trivial,?_⟩
 rw [<-hSA]
 refine TL.ownW 4 rfl (fun a6 g6 c6 hv6 hc6 ha6=>?_)
 cases hv6
 refine xz zak rfl (xmi rfl (dK (TC.loopK (X:=Nat) [0,1,2,6,7,8,9,26,27] [0,1,4] (fun k=>[(28,.int .i64 ((k:Nat):Int))]) (fun k=>[(2,mapA bk2 (fun z:Int=>.int .i64 z) intV ((zgq l d pn SA (k)).1)),(3,mapA bk3 (fun z:Int=>.int .i64 z) intV ((zgq l d pn SA (k)).2))]) (fun k=>k<=SA.size) (fun k=>SA.size - k) (0) (Nat.zero_le _) ⟨rfl,trivial⟩ ⟨rfl,rfl,trivial⟩ (fun k hI=>(TC.sub (env':=[(28,_),(0,_),(1,_),(2,_),(6,_),(7,_),(8,_),(9,_),(26,_),(27,_)]) (L':=[(2,_),(3,_),(0,_),(1,_),(4,_)]) ⟨rfl,rfl,rfl,rfl,rfl,rfl,rfl,rfl,rfl,rfl,trivial⟩ ⟨rfl,rfl,rfl,rfl,rfl,trivial⟩ (sA ?_))))))
 refine TL.lss rfl rfl rfl rfl (fun q1=>?_) (fun q1=>?_)
 refine dS (TC.condT rfl (TC.skip (TQ.then (TC.seq (TC.block (sA (TL.iaO rfl ha6 rfl zak (by omega) rfl rfl (TL.ldRS 4 (.int _ _) rfl rfl (zaL ha6) (by omega) (rfl) zad rfl rfl ?_))))))))
 refine xai rfl (dA (xmp rfl (xN0 rfl (xf 1 zbo rfl (xL3 0 zab rfl rfl (xmi rfl (xD [] (zaV hl) zbQ rfl (xai rfl ?_))))))))
 refine dA (xms rfl (xmi rfl (TL.slHi rfl rfl zal (by omega) rfl rfl (xz zal rfl (xmi rfl (dK (TC.loopK (X:=Nat) [0,1,2,6,7,8,9,12,26,27,28,40,41] [0,1,4] (fun i=>[(42,.int .i64 ((i:Nat):Int))]) (fun i=>[(2,mapA bk2 (fun z:Int=>.int .i64 z) intV ((zdG d (l.field SA[k]! 2) (i) (zgq l d pn SA (k))).1)),(3,mapA bk3 (fun z:Int=>.int .i64 z) intV ((zdG d (l.field SA[k]! 2) (i) (zgq l d pn SA (k))).2))]) (fun i=>i<=pn) (fun i=>pn - i) (0) (Nat.zero_le _) ⟨rfl,trivial⟩ ⟨rfl,rfl,trivial⟩ (fun i hI=>?_))))))))
 refine TC.sub (env':=[(42,_),(0,_),(1,_),(2,_),(6,_),(7,_),(8,_),(9,_),(12,_),(26,_),(27,_),(28,_),(40,_),(41,_)]) (L':=[(2,_),(3,_),(0,_),(1,_),(4,_)]) ⟨rfl,rfl,rfl,rfl,rfl,rfl,rfl,rfl,rfl,rfl,rfl,rfl,rfl,rfl,trivial⟩ ⟨rfl,rfl,rfl,rfl,rfl,trivial⟩ (sA (TL.lss rfl rfl rfl rfl (fun q2=>?_) (fun q2=>?_)))
 refine dS (TC.condT rfl (TC.skip (TQ.then (TC.seq (TC.block (sA (xmi rfl (TL.iaO rfl (fun _=>zfw ha hnc (by omega)) rfl zal (by omega) rfl rfl ?_))))))))
 refine TL.ldR 1 rfl rfl (hA.take hpn) (by omega) zci rfl rfl (TL.alloc 5 (cs:=#[.bool false,.int .i64 0,.int .u64 0]) zes rfl rfl rfl (fun _=>trivial) (fun bk5=>(xai rfl (TL.stW 5 3 [_,_,_] rfl rfl rfl rfl rfl rfl zci rfl rfl trivial (dB (xf 0 zdY rfl (xlb 5 zdb rfl rfl (TL.not _ _ rfl rfl rfl rfl (xmb rfl ?_)))))))))
 refine TL.cases rfl (fun q3=>?_) (fun q3=>?_)
 refine xo rfl (xo rfl (xo rfl (xo rfl (xpT rfl (TL.done (TQ.then (TC.condT rfl (TC.exit ?_))))))))
 refine TQ.thenExit (TQ.blockHere (TQ.then (TC.region (TL.add (((i+1:Nat):Int)) rfl rfl (wrN (by omega)) rfl rfl (xmi rfl (TL.done (TQ.roundK (i+1) ⟨by omega,by omega⟩ ⟨rfl,trivial⟩ ⟨congrArg (fun z:List (Int×Int)×List (Int×Int)=>some (mapA bk2 (fun z:Int=>.int .i64 z) intV (z.1))) (zij (row:=d) (i:=i) (fun h9=>by simp_all)),congrArg (fun z:List (Int×Int)×List (Int×Int)=>some (mapA bk3 (fun z:Int=>.int .i64 z) intV (z.2))) (zij (row:=d) (i:=i) (fun h9=>by simp_all)),trivial⟩ (kE8 rfl rfl rfl rfl rfl rfl rfl rfl (kE5 rfl rfl rfl rfl rfl trivial)) (kL3 rfl rfl rfl trivial))))))))
 refine xf 1 zbP rfl (xli 5 zad rfl rfl (xmi rfl (TL.neq rfl rfl rfl rfl (fun q4=>?_) (fun q4=>?_))))
 refine xpH rfl (TL.done (TQ.then (TC.condT rfl (TC.exit (TQ.thenExit (TQ.blockHere (TQ.then (TC.region ?_))))))))
 refine TL.add (((i+1:Nat):Int)) rfl rfl (wrN (by omega)) rfl rfl (xmi rfl (TL.done (TQ.roundK (i+1) ⟨by omega,by omega⟩ ⟨rfl,trivial⟩ ⟨congrArg (fun z:List (Int×Int)×List (Int×Int)=>some (mapA bk2 (fun z:Int=>.int .i64 z) intV (z.1))) (zij (row:=d) (i:=i) (fun h9=>by simp_all)),congrArg (fun z:List (Int×Int)×List (Int×Int)=>some (mapA bk3 (fun z:Int=>.int .i64 z) intV (z.2))) (zij (row:=d) (i:=i) (fun h9=>by simp_all)),trivial⟩ (kE8 rfl rfl rfl rfl rfl rfl rfl rfl (kE5 rfl rfl rfl rfl rfl trivial)) (kL3 rfl rfl rfl trivial))))
 refine xpF rfl (TL.done (TQ.then (TC.condF rfl (TC.skip (TQ.then (sB (TL.mv (.map _) rfl rfl rfl (xmi rfl ?_))))))))
 refine TL.lkD2 2 (q:=l.field SA[k]! 2) ((0:Int)) rfl rfl rfl zct (zge zaO) zji rfl rfl trivial (xmu rfl (xei rfl rfl (TL.ext (.bool _) rfl rfl rfl rfl (xai rfl (xab rfl (dA (xmb rfl (TL.cases rfl (fun q5=>?_) (fun q5=>?_)))))))))
 refine xnt rfl (TL.done (TQ.then (TC.condF rfl (TC.skip (TQ.then (TC.region (TL.mv (.map _) rfl rfl rfl (xmi rfl ?_))))))))
 refine xmi rfl (TL.muA 3 (q:=l.field SA[k]! 2) (b:=(i:Int)) rfl rfl rfl rfl zct (zge zaO) rfl rfl trivial (dI (TL.add (((i+1:Nat):Int)) rfl rfl (wrN (by omega)) rfl rfl (xmi rfl (TL.done ?_)))))
 refine TQ.roundK (i+1) ⟨by omega,by omega⟩ ⟨rfl,trivial⟩ ⟨congrArg (fun z=>some (mapA bk2 (fun z:Int=>.int .i64 z) intV (z))) (zmo (show d[i]!.store=true by simpa using q3) (show d[i]!.cell=l.field SA[k]! 2 from Decidable.not_not.1 q4) q5).1,congrArg (fun z=>some (mapA bk3 (fun z:Int=>.int .i64 z) intV (z))) (zmo (show d[i]!.store=true by simpa using q3) (show d[i]!.cell=l.field SA[k]! 2 from Decidable.not_not.1 q4) q5).2,trivial⟩ (kE8 rfl rfl rfl rfl rfl rfl rfl rfl (kE5 rfl rfl rfl rfl rfl trivial)) (kL3 rfl rfl rfl trivial)
 refine xnf rfl (TL.done (TQ.then (TC.condT rfl (TC.region (TL.mv (.map _) rfl rfl rfl (xmi rfl (xmi rfl (TL.muA 2 (q:=l.field SA[k]! 2) (b:=(i:Int)) rfl rfl rfl rfl zct (zge zaO) rfl rfl trivial ?_))))))))
 refine dG (TL.mv (.map _) rfl rfl rfl (xmi rfl (xmi rfl (TL.muA 3 (q:=l.field SA[k]! 2) (b:=(i:Int)) rfl rfl rfl rfl zct (zge zaO) rfl rfl trivial (dI (TL.add (((i+1:Nat):Int)) rfl rfl (wrN (by omega)) rfl rfl (xmi rfl (TL.done ?_))))))))
 refine TQ.roundK (i+1) ⟨by omega,by omega⟩ ⟨rfl,trivial⟩ ⟨congrArg (fun z=>some (mapA bk2 (fun z:Int=>.int .i64 z) intV (z))) (zmp (show d[i]!.store=true by simpa using q3) (show d[i]!.cell=l.field SA[k]! 2 from Decidable.not_not.1 q4) q5).1,congrArg (fun z=>some (mapA bk3 (fun z:Int=>.int .i64 z) intV (z))) (zmp (show d[i]!.store=true by simpa using q3) (show d[i]!.cell=l.field SA[k]! 2 from Decidable.not_not.1 q4) q5).2,trivial⟩ (kE8 rfl rfl rfl rfl rfl rfl rfl rfl (kE5 rfl rfl rfl rfl rfl trivial)) (kL3 rfl rfl rfl trivial)
 refine dS (TC.condF rfl (TC.exit (TQ.thenExit (TQ.thenExit (TQ.blockHere (TQ.inBlock (TQ.then (TC.region ?_))))))))
 refine TL.add (((k+1:Nat):Int)) rfl rfl (wrN (by omega)) rfl rfl (xmi rfl (TL.done (TQ.roundK (k+1) ⟨by omega,by omega⟩ ⟨rfl,trivial⟩ ⟨by obtain rfl:i=pn:=(by omega); rfl,by obtain rfl:i=pn:=(by omega); rfl,trivial⟩ (kE8 rfl rfl rfl rfl rfl rfl rfl rfl (kE1 rfl trivial)) (kL3 rfl rfl rfl trivial))))
 refine dS (TC.condF rfl (TC.exit (TQ.thenExit (TQ.thenExit (TQ.blockHere (TQ.then (TC.seq ?_)))))))
 obtain rfl:k=SA.size:=by omega
 obtain ⟨Q,hQ⟩:∃ Q,Q=zgq l d pn SA (SA.size):=⟨_,rfl⟩
 rw [<-hQ]
 refine TC.region (TL.asg (.slice none 0 0) rfl rfl rfl (dS (TC.nilA 6 (A:=ownA zat 3 34 (.slice none 0 0) #[]) (.inl ⟨rfl,rfl⟩) (TC.region (xai rfl (dB (xms rfl (xz zal rfl ?_))))))))
 refine xmi rfl (dK (TC.loopK (X:=Nat×Value) [2,6,7,8,9,72,73] [0,1,2,3,4] (fun ⟨k,v7⟩=>[(74,.int .i64 ((k:Nat):Int)),(17,v7),(18,.int .i64 (onceO d pn Q (k)).2)]) (fun ⟨k,v7⟩=>[(6,ownA zat 3 34 (v7) ((onceO d pn Q (k)).1))]) (fun ⟨k,v7⟩=>k<=n) (fun ⟨k,v7⟩=>n - k) ((0,.slice none 0 0)) (Nat.zero_le _) ⟨rfl,rfl,rfl,trivial⟩ ⟨rfl,trivial⟩ (fun y hI=>?_)))
 obtain ⟨k,v7⟩:=y
 replace hI:k<=n:=hI
 refine TC.sub (env':=[(74,_),(17,_),(18,_),(2,_),(6,_),(7,_),(8,_),(9,_),(72,_),(73,_)]) (L':=[(6,_),(0,_),(1,_),(2,_),(3,_),(4,_)]) ⟨rfl,rfl,rfl,rfl,rfl,rfl,rfl,rfl,rfl,rfl,trivial⟩ ⟨rfl,rfl,rfl,rfl,rfl,rfl,trivial⟩ (sA (TL.lss rfl rfl rfl rfl (fun q2=>?_) (fun q2=>?_)))
 refine dS (TC.condT rfl (TC.skip (TQ.then (TC.seq (TC.block (sA (xmi rfl (TL.iaO rfl ha rfl zal (by omega) rfl rfl ?_))))))))
 refine TL.ldR 1 rfl rfl hA (by omega) zci rfl rfl (TL.alloc 7 (cs:=#[.bool false,.int .i64 0,.int .u64 0]) zes rfl rfl rfl (fun _=>trivial) (fun bk7=>(xai rfl (TL.stW 7 3 [_,_,_] rfl rfl rfl rfl rfl rfl zci rfl rfl trivial (dB (xmi rfl (xmi rfl (TL.eql rfl rfl rfl rfl (fun q3=>?_) (fun q3=>?_)))))))))
 refine TL.done (TQ.then (TC.condT rfl (TC.ownW 6 rfl (fun a7 g7 c7 hv7 hc7 ha7=>?_))))
 cases hv7
 refine TC.region (xmv rfl (xz zal rfl (xai rfl (dB (TL.mv (.map _) rfl rfl rfl (xf 1 zbP rfl (xli 7 zad rfl rfl (TL.lkD2 2 (q:=d[k]!.cell) ((0:Int)) rfl rfl rfl zct (zge zaO) zji rfl rfl trivial ?_))))))))
 refine xmu rfl (xei rfl rfl (TL.ext (.bool _) rfl rfl rfl rfl (xai rfl (xab rfl (dA (xmb rfl (TL.cases rfl (fun q4=>?_) (fun q4=>?_))))))))
 refine xmt rfl (xmi rfl (xmi rfl (TL.geq rfl rfl rfl rfl (fun q5=>?_) (fun q5=>?_))))
 refine xpT rfl (xmt rfl (xmi rfl (TL.mv (.map _) rfl rfl rfl (xf 1 zbP rfl (xli 7 zad rfl rfl (TL.lkD1 3 (q:=d[k]!.cell) ((0:Int)) rfl rfl rfl zct (zge zaO) zji rfl rfl trivial (TL.lss rfl rfl rfl rfl (fun q6=>?_) (fun q6=>?_))))))))
 refine xpT rfl (TL.done (TQ.then (TC.condT rfl (TC.exit (TQ.thenExit (TQ.blockHere (TQ.then (TC.region ?_))))))))
 refine TL.add (((k+1:Nat):Int)) rfl rfl (wrN (by omega)) rfl rfl (xmi rfl (TL.done (TQ.roundK ((k+1,_)) ⟨(show k+1<=n by omega),(show n - (k+1)<n - k by omega)⟩ ⟨rfl,rfl,congrArg (fun z=>some (Value.int .i64 z)) (zk6 (by assumption)),trivial⟩ ⟨congrArg (fun z=>some (ownA zat 3 34 (_) (z))) (zrM (zl7 (by assumption) (by assumption) (by assumption))),trivial⟩ (kE7 rfl rfl rfl rfl rfl rfl rfl trivial) (kL5 rfl rfl rfl rfl rfl trivial))))
 refine xpG rfl (TL.done (TQ.then (TC.condF rfl (TC.skip (TQ.then (TC.region (xmv rfl (xL3 7 zci rfl rfl ?_))))))))
 refine TL.bsN 8 [_] (zat d[k]!) zal zes ⟨rfl,trivial⟩ rfl (lit1 rfl) rfl rfl (fun bk8=>⟨trivial,?_⟩)
 refine TL.appS 6 8 (d2:=#[d[k]!]) rfl (rfl) rfl (fun _=>rfl) rfl rfl (row1 rfl) zcz (by decide) zb7 (by have:=ze2 (row:=d) (pt:=pn) (q:=Q) k; simp; omega) rfl rfl (fun v9=>⟨trivial,?_⟩)
 refine xav rfl (dI (TL.add (((k+1:Nat):Int)) rfl rfl (wrN (by omega)) rfl rfl (xmi rfl (TL.done (TQ.roundK ((k+1,_)) ⟨(show k+1<=n by omega),(show n - (k+1)<n - k by omega)⟩ ⟨rfl,rfl,congrArg (fun z=>some (Value.int .i64 z)) (zk6 (by assumption)),trivial⟩ ⟨congrArg (fun z=>some (ownA zat 3 34 (_) (z))) (zhs (zoD (by assumption))),trivial⟩ (kE7 rfl rfl rfl rfl rfl rfl rfl trivial) (kL5 rfl rfl rfl rfl rfl trivial))))))
 refine xpG rfl (xmf rfl (xo rfl (xo rfl (xo rfl (xo rfl (xo rfl (xo rfl (xpF rfl ?_))))))))
 refine TL.done (TQ.then (TC.condF rfl (TC.skip (TQ.then (TC.region (xmv rfl (xL3 7 zci rfl rfl (TL.bsN 10 [_] (zat d[k]!) zal zes ⟨rfl,trivial⟩ rfl (lit1 rfl) rfl rfl (fun bk10=>⟨trivial,?_⟩)))))))))
 refine TL.appS 6 10 (d2:=#[d[k]!]) rfl (rfl) rfl (fun _=>rfl) rfl rfl (row1 rfl) zcz (by decide) zb7 (by have:=ze2 (row:=d) (pt:=pn) (q:=Q) k; simp; omega) rfl rfl (fun v11=>⟨trivial,?_⟩)
 refine xav rfl (dI (TL.add (((k+1:Nat):Int)) rfl rfl (wrN (by omega)) rfl rfl (xmi rfl (TL.done (TQ.roundK ((k+1,_)) ⟨(show k+1<=n by omega),(show n - (k+1)<n - k by omega)⟩ ⟨rfl,rfl,congrArg (fun z=>some (Value.int .i64 z)) (zk6 (by assumption)),trivial⟩ ⟨congrArg (fun z=>some (ownA zat 3 34 (_) (z))) (zhs (zoE (by assumption))),trivial⟩ (kE7 rfl rfl rfl rfl rfl rfl rfl trivial) (kL5 rfl rfl rfl rfl rfl trivial))))))
 refine xmf rfl (xo rfl (xo rfl (xo rfl (xpF rfl (xmf rfl (xo rfl (xo rfl (xo rfl ?_))))))))
 refine xo rfl (xo rfl (xo rfl (xpF rfl (TL.done (TQ.then (TC.condF rfl (TC.skip (TQ.then ?_))))))))
 refine TC.region (xmv rfl (xL3 7 zci rfl rfl (TL.bsN 12 [_] (zat d[k]!) zal zes ⟨rfl,trivial⟩ rfl (lit1 rfl) rfl rfl (fun bk12=>⟨trivial,?_⟩))))
 refine TL.appS 6 12 (d2:=#[d[k]!]) rfl (rfl) rfl (fun _=>rfl) rfl rfl (row1 rfl) zcz (by decide) zb7 (by have:=ze2 (row:=d) (pt:=pn) (q:=Q) k; simp; omega) rfl rfl (fun v13=>⟨trivial,?_⟩)
 refine xav rfl (dI (TL.add (((k+1:Nat):Int)) rfl rfl (wrN (by omega)) rfl rfl (xmi rfl (TL.done (TQ.roundK ((k+1,_)) ⟨(show k+1<=n by omega),(show n - (k+1)<n - k by omega)⟩ ⟨rfl,rfl,congrArg (fun z=>some (Value.int .i64 z)) (zk6 (by assumption)),trivial⟩ ⟨congrArg (fun z=>some (ownA zat 3 34 (_) (z))) (zhs (zoF (by assumption))),trivial⟩ (kE7 rfl rfl rfl rfl rfl rfl rfl trivial) (kL5 rfl rfl rfl rfl rfl trivial))))))
 refine TL.done (TQ.then (TC.condF rfl (TC.skip (TQ.then (sB (TL.mv (.map _) rfl rfl rfl (xf 1 zbP rfl (xli 7 zad rfl rfl ?_))))))))
 refine TL.lkD2 2 (q:=d[k]!.cell) ((0:Int)) rfl rfl rfl zct (zge zaO) zji rfl rfl trivial (xmu rfl (xei rfl rfl (TL.ext (.bool _) rfl rfl rfl rfl (xai rfl (xab rfl (dA (xmb rfl (TL.cases rfl (fun q4=>?_) (fun q4=>?_)))))))))
 refine xmt rfl (xmi rfl (xmi rfl (TL.geq rfl rfl rfl rfl (fun q5=>?_) (fun q5=>?_))))
 refine xpT rfl (xmt rfl (xmi rfl (TL.mv (.map _) rfl rfl rfl (xf 1 zbP rfl (xli 7 zad rfl rfl (TL.lkD1 3 (q:=d[k]!.cell) ((0:Int)) rfl rfl rfl zct (zge zaO) zji rfl rfl trivial (TL.lss rfl rfl rfl rfl (fun q6=>?_) (fun q6=>?_))))))))
 refine xpT rfl (TL.done (TQ.then (TC.condT rfl (TC.exit (TQ.thenExit (TQ.blockHere (TQ.then (TC.region ?_))))))))
 refine TL.add (((k+1:Nat):Int)) rfl rfl (wrN (by omega)) rfl rfl (xmi rfl (TL.done (TQ.roundK ((k+1,_)) ⟨(show k+1<=n by omega),(show n - (k+1)<n - k by omega)⟩ ⟨rfl,rfl,congrArg (fun z=>some (Value.int .i64 z)) (zk7 (by assumption)),trivial⟩ ⟨congrArg (fun z=>some (ownA zat 3 34 (_) (z))) (zrM (zl7 (by assumption) (by assumption) (by assumption))),trivial⟩ (kE7 rfl rfl rfl rfl rfl rfl rfl trivial) (kL5 rfl rfl rfl rfl rfl trivial))))
 refine xpG rfl (TL.done (TQ.then (TC.condF rfl (TC.skip (TQ.then (TC.region (xmv rfl (xL3 7 zci rfl rfl ?_))))))))
 refine TL.bsN 14 [_] (zat d[k]!) zal zes ⟨rfl,trivial⟩ rfl (lit1 rfl) rfl rfl (fun bk14=>⟨trivial,?_⟩)
 refine TL.appS 6 14 (d2:=#[d[k]!]) rfl (rfl) rfl (fun _=>rfl) rfl rfl (row1 rfl) zcz (by decide) zb7 (by have:=ze2 (row:=d) (pt:=pn) (q:=Q) k; simp; omega) rfl rfl (fun v15=>⟨trivial,?_⟩)
 refine xav rfl (dI (TL.add (((k+1:Nat):Int)) rfl rfl (wrN (by omega)) rfl rfl (xmi rfl (TL.done (TQ.roundK ((k+1,_)) ⟨(show k+1<=n by omega),(show n - (k+1)<n - k by omega)⟩ ⟨rfl,rfl,congrArg (fun z=>some (Value.int .i64 z)) (zk7 (by assumption)),trivial⟩ ⟨congrArg (fun z=>some (ownA zat 3 34 (_) (z))) (zhs (zoD (by assumption))),trivial⟩ (kE7 rfl rfl rfl rfl rfl rfl rfl trivial) (kL5 rfl rfl rfl rfl rfl trivial))))))
 refine xpG rfl (xmf rfl (xo rfl (xo rfl (xo rfl (xo rfl (xo rfl (xo rfl (xpF rfl ?_))))))))
 refine TL.done (TQ.then (TC.condF rfl (TC.skip (TQ.then (TC.region (xmv rfl (xL3 7 zci rfl rfl (TL.bsN 16 [_] (zat d[k]!) zal zes ⟨rfl,trivial⟩ rfl (lit1 rfl) rfl rfl (fun bk16=>⟨trivial,?_⟩)))))))))
 refine TL.appS 6 16 (d2:=#[d[k]!]) rfl (rfl) rfl (fun _=>rfl) rfl rfl (row1 rfl) zcz (by decide) zb7 (by have:=ze2 (row:=d) (pt:=pn) (q:=Q) k; simp; omega) rfl rfl (fun v17=>⟨trivial,?_⟩)
 refine xav rfl (dI (TL.add (((k+1:Nat):Int)) rfl rfl (wrN (by omega)) rfl rfl (xmi rfl (TL.done (TQ.roundK ((k+1,_)) ⟨(show k+1<=n by omega),(show n - (k+1)<n - k by omega)⟩ ⟨rfl,rfl,congrArg (fun z=>some (Value.int .i64 z)) (zk7 (by assumption)),trivial⟩ ⟨congrArg (fun z=>some (ownA zat 3 34 (_) (z))) (zhs (zoE (by assumption))),trivial⟩ (kE7 rfl rfl rfl rfl rfl rfl rfl trivial) (kL5 rfl rfl rfl rfl rfl trivial))))))
 refine xmf rfl (xo rfl (xo rfl (xo rfl (xpF rfl (xmf rfl (xo rfl (xo rfl (xo rfl ?_))))))))
 refine xo rfl (xo rfl (xo rfl (xpF rfl (TL.done (TQ.then (TC.condF rfl (TC.skip (TQ.then ?_))))))))
 refine TC.region (xmv rfl (xL3 7 zci rfl rfl (TL.bsN 18 [_] (zat d[k]!) zal zes ⟨rfl,trivial⟩ rfl (lit1 rfl) rfl rfl (fun bk18=>⟨trivial,?_⟩))))
 refine TL.appS 6 18 (d2:=#[d[k]!]) rfl (rfl) rfl (fun _=>rfl) rfl rfl (row1 rfl) zcz (by decide) zb7 (by have:=ze2 (row:=d) (pt:=pn) (q:=Q) k; simp; omega) rfl rfl (fun v19=>⟨trivial,?_⟩)
 refine xav rfl (dI (TL.add (((k+1:Nat):Int)) rfl rfl (wrN (by omega)) rfl rfl (xmi rfl (TL.done (TQ.roundK ((k+1,_)) ⟨(show k+1<=n by omega),(show n - (k+1)<n - k by omega)⟩ ⟨rfl,rfl,congrArg (fun z=>some (Value.int .i64 z)) (zk7 (by assumption)),trivial⟩ ⟨congrArg (fun z=>some (ownA zat 3 34 (_) (z))) (zhs (zoF (by assumption))),trivial⟩ (kE7 rfl rfl rfl rfl rfl rfl rfl trivial) (kL5 rfl rfl rfl rfl rfl trivial))))))
 refine dS (TC.condF rfl (TC.exit (TQ.thenExit (TQ.thenExit (TQ.blockHere (TQ.then (sA (xmv rfl ?_))))))))
 refine xmi rfl (xav rfl (xai rfl (dR ?_)))
 refine FQ.ret2 (v:=_) (x:=(.int _ _)) (Bs:=[_,_,_]) [0,1,6] rfl rfl rfl rfl ⟨rfl,rfl,rfl,trivial⟩ ?_
 obtain rfl:k=n:=by omega
 exact ⟨_,by subst hQ hSA hsz; rfl,by subst hQ hSA hsz; rfl⟩
theorem zwJ {l:Lay} (hl:l.Ok) {wb tb ab mb:Nat} {hv:Value} {p:Pen} {u v:Int} {held:Array Int} {k:Nat} {σ σ1 σ2:Tr} {x y:Int} (hr1:root l k σ (l.vertex 0 u)=some (x,σ1)) (hr2:root l k σ1 (l.vertex 0 v)=some (y,σ2)) (hk:k<=561) (hh2:held.size<=2) (hz:Room 20000 σ):Go.Eng.Fn Tryz.prog 119 [.pointer (some ⟨wb,0,none⟩),.bool false] [zf6 198 wb tb 186 (hv) l p (u) (v),zbj tb ab mb 264 139 29 34 (σ),rowS (hv) (held)] (fun r Bs=>∃ xa xc ya yc B1 B2 B3,r=.agg #[.slice xa ((⟨σ2.row,zev σ2.row (l.edge u v) σ2.row.size,false,zar x y⟩:PlanS)).work.size xc,.int .i64 ((⟨σ2.row,zev σ2.row (l.edge u v) σ2.row.size,false,zar x y⟩:PlanS)).point,.bool ((⟨σ2.row,zev σ2.row (l.edge u v) σ2.row.size,false,zar x y⟩:PlanS)).tree,.slice ya ((⟨σ2.row,zev σ2.row (l.edge u v) σ2.row.size,false,zar x y⟩:PlanS)).roots.size yc]/\Bs=[B1,B2,B3,ownA zat 3 34 (.slice xa ((⟨σ2.row,zev σ2.row (l.edge u v) σ2.row.size,false,zar x y⟩:PlanS)).work.size xc) (((⟨σ2.row,zev σ2.row (l.edge u v) σ2.row.size,false,zar x y⟩:PlanS)).work),rowS (.slice ya ((⟨σ2.row,zev σ2.row (l.edge u v) σ2.row.size,false,zar x y⟩:PlanS)).roots.size yc) ((⟨σ2.row,zev σ2.row (l.edge u v) σ2.row.size,false,zar x y⟩:PlanS)).roots]):=by
 have hnb:=zaF hl
 have hsl:=zdw l l.nodes.toNat
 have hz2:Room 15000 σ2:=zdJ hr2 (zdJ hr1 (hz.le (by omega)))
 have hsn:(zau l l.nodes.toNat).size<=560:=by omega
 have hwl:=zds (x:=x) (y:=y)
 refine Fn.enter (Tryz.func119) rfl rfl (fun w0 R=>?_)
 refine sA (TL.alloc 3 (cs:=#[.slice none 0 0,.int .i64 0,.bool false,.slice none 0 0]) zbY rfl rfl rfl (fun _=>trivial) (fun bk3=>(dA (xmf rfl (xmp rfl (TL.call [0,1] [0,1,4] (zlS hl hr1 hr2 (hz.le (by omega))) ⟨rfl,trivial⟩ ⟨rfl,rfl,trivial⟩ ztn rfl rfl rfl rfl ?_))))))
 rintro r Bs rfl
 refine ⟨rfl,trivial,?_⟩
 refine TL.rowS 4 rfl (fun a8 b8 o8 c8 hv8 hc8 ha8=>⟨trivial,?_⟩)
 cases hv8
 refine TL.bld [.slice none 0 0,.int .i64 0,.bool false,.slice none 0 0] [(.bool false),(.slice _ _ _)] [_,_,_,_] zbY zeJ ⟨rfl,rfl,trivial⟩ ⟨rfl,rfl⟩ rfl rfl (TL.alloc 5 (cs:=#[.slice none 0 0,.int .i64 0,.bool false,.slice none 0 0]) zbY rfl rfl rfl (fun _=>trivial) (fun bk5=>(TL.stW 5 4 [_,_,_,_] rfl rfl rfl rfl rfl rfl zaq rfl rfl trivial (dB (xmf rfl (xnf rfl (dT rfl (xmp rfl (xN0 rfl ?_)))))))))
 refine xf 0 zbd rfl (xlp 0 zc5 rfl rfl (TL.call [1] [1,6] (znb (hz2.le (by omega))) ⟨rfl,trivial⟩ ⟨rfl,trivial⟩ zn9 rfl rfl rfl rfl ?_))
 rintro v Bs rfl
 refine ⟨rfl,trivial,?_⟩
 refine TL.ownW 6 rfl (fun a7 g7 c7 hv7 hc7 ha7=>?_)
 cases hv7
 refine xf 0 za8 rfl (TL.st 5 #[_,_,_,_] (.slice _ _ _) rfl rfl rfl rfl rfl rfl zcc rfl rfl trivial (dS (TC.draw2 [(0,true),(1,true),(2,true),(3,true),(4,true),(5,true),(6,true),(7,true),(8,true),(9,true),(10,true),(11,true),(12,true),(13,true),(14,false),(15,false),(16,true)] 17 [] [0,5] fc_m (by kernel_rfl) (xf 0 za8 rfl (xls 5 zcc rfl rfl (xmp rfl (xN0 rfl (xf 1 zbo rfl ?_))))))))
 refine xL3 0 zab rfl rfl (xmp rfl (xN0 rfl (xf 17 zb0 rfl (xli 0 zad rfl rfl (xmp rfl (xN0 rfl (xf 18 zbZ rfl (xli 0 zad rfl rfl ?_))))))))
 refine xd [] (zjF hl) zjA rfl (kL2 rfl rfl trivial) (xd [6] (zum ha7 (by have:=zcN.1 hz2; omega) rfl (zaL ha7)) zyD rfl (kL2 rfl rfl trivial) (xf 1 zce rfl (TL.late (TL.st 5 #[_,_,_,_] (.int _ _) rfl rfl rfl rfl rfl rfl zad rfl rfl trivial (dA (xL4 5 zaq rfl rfl (TL.stW 3 4 [_,_,_,_] rfl rfl rfl rfl rfl rfl zaq rfl rfl trivial (dRR ?_))))))))
 refine TQ.conseq 4 (B:=rowS _ (zar x y)) rfl (fun _ h=>⟨_,_,_,_,rfl,hc8,ha8,h⟩) ?_
 refine FQ.retG (rs:=[.cell 4 50]) [(.agg _)] (Bs:=[_,_,_,_,_]) [0,1,2,6,4] rfl ⟨⟨_,_,_,_,_,3,rfl,rfl,.inr ⟨4,[_,_,_,_],zaq,rfl,rfl⟩⟩,trivial⟩ rfl rfl ⟨rfl,rfl,rfl,rfl,rfl,trivial⟩ ?_
 exact ⟨_,_,_,_,_,_,_,rfl,rfl⟩
set_option maxHeartbeats 2000000 in
theorem zwI {l:Lay} (hl:l.Ok) {wb tb ab mb:Nat} {hv:Value} {p:Pen} {u v:Int} {held:Array Int} {k:Nat} {σ σ1 σ2:Tr} {x y:Int} (hr1:root l k σ (l.vertex 0 u)=some (x,σ1)) (hr2:root l k σ1 (l.vertex 0 v)=some (y,σ2)) (hk:k<=561) (hh2:held.size<=2) (hz:Room 20000 σ) (hne:0<σ2.row.size):Go.Eng.Fn Tryz.prog 119 [.pointer (some ⟨wb,0,none⟩),.bool true] [zf6 198 wb tb 186 (hv) l p (u) (v),zbj tb ab mb 264 139 29 34 (σ),rowS (hv) (held)] (fun r Bs=>∃ xa xc ya yc B1 B2 B3,r=.agg #[.slice xa (planT l p held (zar x y) σ2).work.size xc,.int .i64 (planT l p held (zar x y) σ2).point,.bool (planT l p held (zar x y) σ2).tree,.slice ya (planT l p held (zar x y) σ2).roots.size yc]/\Bs=[B1,B2,B3,ownA zat 3 34 (.slice xa (planT l p held (zar x y) σ2).work.size xc) ((planT l p held (zar x y) σ2).work),rowS (.slice ya (planT l p held (zar x y) σ2).roots.size yc) (planT l p held (zar x y) σ2).roots]):=by
 have hnb:=zaF hl
 have hsl:=zdw l l.nodes.toNat
 have hz2:Room 15000 σ2:=zdJ hr2 (zdJ hr1 (hz.le (by omega)))
 have hsn:(zau l l.nodes.toNat).size<=560:=by omega
 have hwl:=zds (x:=x) (y:=y)
 refine Fn.enter (Tryz.func119) rfl rfl (fun w0 R=>?_)
 refine TC.seq (TC.rowS 2 rfl (fun a9 b9 o9 c9 hv9 hc9 ha9=>?_))
 subst hv9
 refine TC.region (TL.alloc 3 (cs:=#[.slice none 0 0,.int .i64 0,.bool false,.slice none 0 0]) zbY rfl rfl rfl (fun _=>trivial) (fun bk3=>(dA (xmt rfl (xmp rfl (TL.call [0,1] [0,1,4] (zlS hl hr1 hr2 (hz.le (by omega))) ⟨rfl,trivial⟩ ⟨rfl,rfl,trivial⟩ ztn rfl rfl rfl rfl ?_))))))
 rintro r Bs rfl
 refine ⟨rfl,trivial,?_⟩
 refine TL.rowS 4 rfl (fun a8 b8 o8 c8 hv8 hc8 ha8=>⟨trivial,?_⟩)
 cases hv8
 refine TL.bld [.slice none 0 0,.int .i64 0,.bool false,.slice none 0 0] [(.bool true),(.slice _ _ _)] [_,_,_,_] zbY zeJ ⟨rfl,rfl,trivial⟩ ⟨rfl,rfl⟩ rfl rfl (TL.alloc 5 (cs:=#[.slice none 0 0,.int .i64 0,.bool false,.slice none 0 0]) zbY rfl rfl rfl (fun _=>trivial) (fun bk5=>(TL.stW 5 4 [_,_,_,_] rfl rfl rfl rfl rfl rfl zaq rfl rfl trivial (dB (xmt rfl (xnt rfl (dF rfl (xmp rfl (xD [0,1] (zuj hl (hz2.le (by omega))) zyC rfl ?_)))))))))
 obtain ⟨τ1,hτ1⟩:∃ τ,τ=zb1 l p (chgL σ2.row) (zau l l.nodes.toNat) (zau l l.nodes.toNat).size σ2:=⟨_,rfl⟩
 have hy1:Room 10000 τ1:=by rw [hτ1]; exact zcT (hz2.le (by omega))
 rw [<-hτ1]
 refine dS (TC.draw (od [1,3,5,7,9,11,13,15,17,19,21,23,25,26]) [0,5] fc_m (by kernel_rfl) (xmp rfl (xf 3 zdj rfl (xls 5 zha rfl rfl (xmp rfl (xN0 rfl (xf 16 zh2 rfl (xls 0 zha rfl rfl ?_))))))))
 refine xmp rfl (xN0 rfl (xf 4 zdl rfl (xf 0 zdo rfl (xli 0 zad rfl rfl (TL.conv _ rfl zf9 zbs (rfl) rfl rfl (xd [0,1,4,2] (zoq hl (zcR _) ha8 (by omega) rfl zcP ha9 (by omega) rfl zcP (hy1.le (by omega))) ztm rfl (kL2 rfl rfl trivial) ?_))))))
 obtain ⟨τ2,hτ2⟩:∃ τ,τ=zbl l (zar x y) held.toList (IntKind.u64.wrap p.thread) (zar x y).size τ1:=⟨_,rfl⟩
 have hy2:Room 9000 τ2:=by rw [hτ2]; exact zdh (hy1.le (by omega))
 rw [<-hτ2]
 refine dS (TC.draw (od [1,3,5,7,9,11,13,15,17,19,21,23,25,26]) [0] fc_m (by kernel_rfl) (xmp rfl (xN0 rfl (xf 4 zdl rfl (xL2 0 za9 rfl rfl (xmp rfl (xN0 rfl (xf 0 zbd rfl ?_))))))))
 refine xlp 0 zc5 rfl rfl (TL.miN (v:=(.pointer (some ⟨_,_,none⟩))) rfl zfG rfl rfl (xmp rfl (xN0 rfl (xf 1 zbo rfl (xL3 0 zab rfl rfl (xd [1] (zp9 zdZ (show zgU Tryz.prog 186 "Store" 200=true by kernel_rfl) hl (hy2.le (by omega))) zyB rfl (kL1 rfl trivial) ?_))))))
 obtain ⟨τ3,hτ3⟩:∃ τ,τ=zaZ l p τ2 p.tag true:=⟨_,rfl⟩
 have hy3:Room 8000 τ3:=by rw [hτ3]; exact ze0 (hy2.le (by omega))
 have hsz3:=zcN.1 hy3
 rw [<-hτ3]
 refine dS ?_
 have hn3:0<τ3.row.size:=by rw [hτ3,hτ2,hτ1]; exact Nat.lt_of_lt_of_le hne (((Pre.vers _).trans (.lock _)).trans (.state _ _ _)).size
 refine TC.region (xmp rfl (xN0 rfl (xf 0 zbd rfl (xlp 0 zc5 rfl rfl (TL.call [1] [1,6] (znb (hy3.le (by omega))) ⟨rfl,trivial⟩ ⟨rfl,trivial⟩ zn9 rfl rfl rfl rfl ?_)))))
 rintro v Bs rfl
 refine ⟨rfl,trivial,?_⟩
 refine TL.ownW 6 rfl (fun a7 g7 c7 hv7 hc7 ha7=>?_)
 cases hv7
 refine xz zal rfl (TL.sub (((τ3.row.size - 1:Nat):Int)) rfl rfl (wrN (by omega)) rfl rfl (xai rfl (dA (xmp rfl (xD [0,1] (zqP hl (hy3.le (by omega))) zyA rfl ?_)))))
 obtain ⟨τ4,hτ4⟩:∃ τ,τ=cleanW l (chgL τ3.row) (zau l l.nodes.toNat) (zau l l.nodes.toNat).size τ3:=⟨_,rfl⟩
 have hy4:Room 5000 τ4:=by rw [hτ4]; exact zed (hy3.le (by omega))
 rw [<-hτ4]
 refine dS (TC.draw (od [1,3,5,7,9,11,13,15,17,19,21,23,25,26]) [0] fc_m (by kernel_rfl) (xmp rfl (xN0 rfl (xf 4 zdl rfl (xL2 0 za9 rfl rfl (xmp rfl (xN0 rfl (xf 0 zbd rfl ?_))))))))
 refine xlp 0 zc5 rfl rfl (TL.miN (v:=(.pointer (some ⟨_,_,none⟩))) rfl zfG rfl rfl (xmp rfl (xN0 rfl (xf 1 zbo rfl (xL3 0 zab rfl rfl (xd [1] (zxh zdZ (show zgU Tryz.prog 186 "Store" 200=true by kernel_rfl) hl (hy4.le (by omega))) zyz rfl (kL1 rfl trivial) ?_))))))
 obtain ⟨τ5,hτ5⟩:∃ τ,τ=zaZ l p τ4 (IntKind.i64.wrap (p.tag+1)) false:=⟨_,rfl⟩
 have hy5:Room 4000 τ5:=by rw [hτ5]; exact ze0 (hy4.le (by omega))
 rw [<-hτ5]
 refine dS (TC.draw (od [1,3,5,7,9,11,13,14]) [0,5] fc_m (by kernel_rfl) (xmp rfl (xmp rfl (xN0 rfl (xf 16 zh2 rfl (xls 0 zha rfl rfl (xf 3 zdj rfl (xls 5 zha rfl rfl ?_))))))))
 refine xd [0,1,2,4] (zoq hl (by decide) ha9 (by omega) rfl zcP ha8 (by omega) rfl zcP (hy5.le (by omega))) ztm rfl (kL2 rfl rfl trivial) ?_
 obtain ⟨τ6,hτ6⟩:∃ τ,τ=zbl l held (zar x y).toList 65535 held.size τ5:=⟨_,rfl⟩
 have hy6:Room 1000 τ6:=by rw [hτ6]; exact zdh (hy5.le (by omega))
 have hsz6:=zcN.1 hy6
 rw [<-hτ6]
 refine dS ?_
 have hle:τ3.row.size - 1<=τ6.row.size:=by have h9:Pre τ3 τ6:=(by rw [hτ6,hτ5,hτ4]; exact ((Pre.cleanW _).trans (.state _ _ _)).trans (.lock _)); have:=h9.size; omega
 refine TC.region (xmp rfl (xmp rfl (xN0 rfl (xf 0 zbd rfl (xlp 0 zc5 rfl rfl (TL.call [1] [1,7] (znb (hy6.le (by omega))) ⟨rfl,trivial⟩ ⟨rfl,trivial⟩ zn9 rfl rfl rfl rfl ?_))))))
 rintro v Bs rfl
 refine ⟨rfl,trivial,?_⟩
 refine TL.ownW 7 rfl (fun a6 g6 c6 hv6 hc6 ha6=>?_)
 cases hv6
 refine xmi rfl (TL.call [0,7] [0,7,8] (zul hl ha6 (by omega) rfl (zaL ha6) hle hc6) ⟨rfl,rfl,rfl,trivial⟩ ⟨rfl,rfl,trivial⟩ zyy rfl rfl rfl rfl ?_)
 rintro x Bs ⟨v9,rfl,rfl⟩
 refine ⟨rfl,trivial,?_⟩
 refine TL.ownW 8 rfl (fun a5 g5 c5 hv5 hc5 ha5=>?_)
 cases hv5
 refine xmu rfl (xes rfl rfl (xei rfl rfl (xf 0 za8 rfl (TL.st 5 #[_,_,_,_] (.slice _ _ _) rfl rfl rfl rfl rfl rfl zcc rfl rfl trivial (xf 1 zce rfl (TL.st 5 #[_,_,_,_] (.int _ _) rfl rfl rfl rfl rfl rfl zad rfl rfl trivial (dA (xL4 5 zaq rfl rfl ?_))))))))
 refine TL.stW 3 4 [_,_,_,_] rfl rfl rfl rfl rfl rfl zaq rfl rfl trivial (dR (TQ.conseq 4 (B:=rowS _ (zar x y)) rfl (fun _ h=>⟨_,_,_,_,rfl,hc8,ha8,h⟩) ?_))
 refine FQ.retG (rs:=[.cell 4 50]) [(.agg _)] (Bs:=[_,_,_,_,_]) [0,1,2,8,4] rfl ⟨⟨_,_,_,_,_,3,rfl,rfl,.inr ⟨4,[_,_,_,_],zaq,rfl,rfl⟩⟩,trivial⟩ rfl rfl ⟨rfl,rfl,rfl,rfl,rfl,trivial⟩ ?_
 subst hτ6 hτ5 hτ4 hτ3 hτ2 hτ1; exact ⟨_,_,_,_,_,_,_,rfl,rfl⟩
theorem zfQ {l:Lay} (hl:l.Ok) {wb tb ab mb:Nat} {hv:Value} {p:Pen} {u v:Int} {held:Array Int} {k:Nat} {σ:Tr} {tree:Bool} (P:PlanS) (hP:planF l p k held tree u v σ=some P) (hk:k<=561) (hh2:held.size<=2) (hz:Room 20000 σ) (hne:0<σ.row.size):Go.Eng.Fn Tryz.prog 119 [.pointer (some ⟨wb,0,none⟩),.bool tree] [zf6 198 wb tb 186 (hv) l p (u) (v),zbj tb ab mb 264 139 29 34 (σ),rowS (hv) (held)] (fun r Bs=>∃ xa xc ya yc B1 B2 B3,r=.agg #[.slice xa (P).work.size xc,.int .i64 (P).point,.bool (P).tree,.slice ya (P).roots.size yc]/\Bs=[B1,B2,B3,ownA zat 3 34 (.slice xa (P).work.size xc) ((P).work),rowS (.slice ya (P).roots.size yc) (P).roots]):=by
 unfold planF at hP
 obtain ⟨⟨x,σ1⟩,hr1,hP⟩:=Option.bind_eq_some_iff.1 hP
 obtain ⟨⟨y,σ2⟩,hr2,hP⟩:=Option.bind_eq_some_iff.1 hP
 cases hP
 cases tree
 ·exact zwJ hl hr1 hr2 hk hh2 hz
 ·exact zwI hl hr1 hr2 hk hh2 hz (Nat.lt_of_lt_of_le hne ((Pre.root hr1).trans (Pre.root hr2)).size)
set_option maxHeartbeats 2000000 in
theorem zlX {l:Lay} (hl:l.Ok) {ab mb:Nat} {p:Pen} {σ:Array UInt64} {c:Cnt} {a1:Option Addr} {b1 o1 n1 c1:Nat} {A1:Assn} {d1:Array Int} (ha1:0<n1->a1=some ⟨b1,o1,none⟩) (hn1:n1<=2) (hs1:d1.size=n1) (hA1:zbh A1 Tm.encI 1 b1 o1 n1 (fun i=>d1[i]!)) (h0:0<σ.size) (h1:σ.size<=20000):Go.Eng.Fn Tryz.prog 118 [.pointer (some ⟨ab,0,none⟩),layV l,.agg #[.int .i64 p.thread,.int .i64 p.tag],.slice a1 n1 c1] [arenaC ab mb 139 29 (σ) (c),A1] (fun x Bs=>∃ wb tb ab2 mb2 hv,x=.pointer (some ⟨wb,0,none⟩)/\Bs=[arenaC ab mb 139 29 (σ) (c),A1,zf6 198 wb tb 186 (hv) l p (0) (0),zbj tb ab2 mb2 264 139 29 34 (⟨σ,#[]⟩),rowS hv d1]):=by
 refine Fn.enter (Tryz.func118) rfl rfl (fun w0 R=>?_)
 refine sA (xB 2 rfl (fun bk2=>(xB 3 rfl (fun bk3=>(TL.asg (.pointer none) rfl rfl rfl (dA (xmp rfl (TL.call [0] [0,4] (zxm h0 h1) ⟨rfl,trivial⟩ ⟨rfl,trivial⟩ zyF rfl rfl rfl rfl ?_))))))))
 rintro x Bs ⟨tb,ab2,mb2,rfl,rfl⟩
 refine ⟨rfl,trivial,?_⟩
 refine xap rfl (dS (TC.draw (od [1,3,5,7,9,11,13,17,14,18,21,22,25]) [2,3] fc_m (by kernel_rfl) (xmp rfl (xL3 2 zab rfl rfl (xL2 3 za9 rfl rfl (xL3 2 zab rfl rfl (xmp rfl (TL.miN (v:=(.pointer (some ⟨_,_,none⟩))) rfl zfG rfl rfl ?_))))))))
 refine xL2 3 za9 rfl rfl (xms rfl (xd [] (zg6 (p:=p)) zjC rfl (kL2 rfl rfl trivial) (TL.call [1] [1,5] (ztK ha1 (by omega) hA1) ⟨rfl,trivial⟩ ⟨rfl,trivial⟩ zyE rfl rfl rfl rfl ?_)))
 rintro v Bs rfl
 refine ⟨rfl,(kL2 rfl rfl trivial),?_⟩
 rw [zw5 hs1]
 refine TL.conseq 5 (B:=rowS _ d1) rfl (fun _ h=>zfV h) (kL2 rfl rfl trivial) (TL.rowS 5 rfl (fun a7 b7 o7 c7 hv7 hc7 ha7=>⟨(kL2 rfl rfl trivial),?_⟩))
 cases hv7
 refine TL.bld [.pointer none,.int .i64 0,.int .i64 0,.int .i64 0,.int .i64 0,.int .i64 0,.int .i64 0,.int .i64 0,.int .i64 0,.nilIface,.int .i64 0,.int .i64 0,.int .i64 0,.int .i64 0,.int .i64 0,.nilIface,.slice none 0 0,.int .i64 0,.int .i64 0] [(.pointer (some ⟨_,_,none⟩)),(.agg _),(.agg _),(.agg _),(.slice _ _ _)] [_,_,_,_,_,_,_,_,_,_,_,_,_,_,_,_,_,_,_] zxO zxW ⟨rfl,rfl,rfl,rfl,rfl,trivial⟩ ⟨rfl,rfl⟩ rfl rfl (TL.boxA 6 rfl rfl rfl (fun _=>(kL2 rfl rfl trivial)) (fun bk6=>(xap rfl (dR (TQ.conseq 5 (B:=rowS _ d1) rfl (fun _ h=>⟨_,_,_,_,rfl,hc7,ha7,h⟩) ?_)))))
 refine FQ.ret1 (v:=(.pointer (some ⟨_,_,none⟩))) (Bs:=[_,A1,_,_,_]) [0,1,6,4,5] rfl rfl rfl ⟨rfl,rfl,rfl,rfl,rfl,trivial⟩ ?_
 exact ⟨_,_,_,_,_,rfl,rfl⟩
theorem zhk {l:Lay} (hl:l.Ok) {ab mb:Nat} {p:Pen} {σ:Array UInt64} {c:Cnt} {a1:Option Addr} {b1 o1 n1 c1:Nat} {A1:Assn} {d1:Array Int} (ha1:0<n1->a1=some ⟨b1,o1,none⟩) (hn1:n1<=2) (hs1:d1.size=n1) (hA1:zbh A1 Tm.encI 1 b1 o1 n1 (fun i=>d1[i]!)) (h0:0<σ.size) (h1:σ.size<=20000) {s u v:Int} {b:Bool} {τ:Tr} {P:PlanS} (hg:zbt l p 561 (⟨σ,#[]⟩:Tr) s u v=some (b,τ)) (hP:planF l p 561 d1 b u v τ=some P) (hne:0<τ.row.size):Go.Eng.Fn Tryz.prog 81 [.pointer (some ⟨ab,0,none⟩),layV l,.agg #[.int .i64 p.thread,.int .i64 p.tag],.slice a1 n1 c1,.int .i64 s,.int .i64 u,.int .i64 v] [arenaC ab mb 139 29 (σ) (c),A1] (fun r Bs=>∃ xa xc ya yc,r=.agg #[.slice xa (P).work.size xc,.int .i64 (P).point,.bool (P).tree,.slice ya (P).roots.size yc]/\Bs=[arenaC ab mb 139 29 (σ) (c),A1,ownA zat 3 34 (.slice xa (P).work.size xc) (P.work),rowS (.slice ya (P).roots.size yc) P.roots]):=by
 have hz0:Room 100000000 (⟨σ,#[]⟩:Tr):=zcN.2 (by show 0+100000000<=_; decide)
 have hz:Room 20000 τ:=zjd hg (hz0.le (by decide))
 refine Fn.enter (Tryz.func81) rfl rfl (fun w0 R=>?_)
 refine sA (xB 2 rfl (fun bk2=>(xB 3 rfl (fun bk3=>(TL.alloc 4 (cs:=#[.slice none 0 0,.int .i64 0,.bool false,.slice none 0 0]) zbY rfl rfl rfl (fun _=>trivial) (fun bk4=>(dA (xmp rfl (xL3 2 zab rfl rfl (xL2 3 za9 rfl rfl (xms rfl ?_)))))))))))
 refine TL.call [0,1] [0,1,5,6,7] (zlX hl ha1 hn1 hs1 hA1 h0 h1) ⟨rfl,rfl,rfl,rfl,trivial⟩ ⟨rfl,rfl,trivial⟩ ztr rfl rfl rfl rfl ?_
 rintro x Bs ⟨wb,tb,ab2,mb2,hv,rfl,rfl⟩
 refine ⟨rfl,trivial,?_⟩
 refine xap rfl (dA (xmp rfl (xmp rfl (xmi rfl (xmi rfl (xN0 rfl (xf 17 zb0 rfl (TL.st 5 #[_,_,_,_,_,_,_,_,_,_,_,_,_,_,_,_,_,_,_] (.int _ _) rfl rfl rfl rfl rfl rfl zad rfl rfl trivial ?_))))))))
 refine xN0 rfl (xf 18 zbZ rfl (TL.st 5 #[_,_,_,_,_,_,_,_,_,_,_,_,_,_,_,_,_,_,_] (.int _ _) rfl rfl rfl rfl rfl rfl zad rfl rfl trivial (dA (xmp rfl (xmp rfl (xN0 rfl (xf 6 zcr rfl (xL10 5 zcf rfl rfl ?_))))))))
 refine xmi rfl (xmi rfl (xmi rfl (xD [6] (zqs zdZ hl hg (hz0.le (by decide))) zyH rfl (TL.call [5,6,7] [5,6,7,8,9] (zfQ hl P hP (by omega) (by omega) hz hne) ⟨rfl,rfl,trivial⟩ ⟨rfl,rfl,rfl,trivial⟩ zhO rfl rfl rfl rfl ?_))))
 rintro r9 Bs ⟨xa,xc,ya,yc,B1,B2,B3,rfl,rfl⟩
 refine ⟨rfl,trivial,?_⟩
 refine TL.stW 4 4 [_,_,_,_] rfl rfl rfl rfl rfl rfl zaq rfl rfl trivial (dR ?_)
 refine FQ.retG (rs:=[.cell 14 50]) [(.agg _)] (Bs:=[_,A1,_,_]) [0,1,8,9] rfl ⟨⟨_,_,_,_,_,4,rfl,rfl,.inr ⟨4,[_,_,_,_],zaq,rfl,rfl⟩⟩,trivial⟩ rfl rfl ⟨rfl,rfl,rfl,rfl,trivial⟩ ?_
 exact ⟨_,_,_,_,rfl,rfl⟩
theorem zpO {l:Lay} (hl:l.Ok) {ab mb:Nat} {p:Pen} {σ:Array UInt64} {c:Cnt} {a1:Option Addr} {b1 o1 n1 c1:Nat} {A1:Assn} {d1:Array Int} (ha1:0<n1->a1=some ⟨b1,o1,none⟩) (hn1:n1<=2) (hs1:d1.size=n1) (hA1:zbh A1 Tm.encI 1 b1 o1 n1 (fun i=>d1[i]!)) (h0:0<σ.size) (h1:σ.size<=20000) {s o:Int} {b ok:Bool} {τ:Tr} {P:PlanS} (hg:zbu l p 561 (⟨σ,#[]⟩:Tr) s=some ((b,o,ok),τ)) (hP:planF l p 561 d1 b (eget l σ s).u (eget l σ s).v τ=some P) (hne:0<τ.row.size):Go.Eng.Fn Tryz.prog 105 [.pointer (some ⟨ab,0,none⟩),layV l,.agg #[.int .i64 p.thread,.int .i64 p.tag],.slice a1 n1 c1,.int .i64 s] [arenaC ab mb 139 29 (σ) (c),A1] (fun r Bs=>∃ xa xc ya yc,r=.agg #[.slice xa (P).work.size xc,.int .i64 (P).point,.bool (P).tree,.slice ya (P).roots.size yc]/\Bs=[arenaC ab mb 139 29 (σ) (c),A1,ownA zat 3 34 (.slice xa (P).work.size xc) (P.work),rowS (.slice ya (P).roots.size yc) P.roots]):=by
 have hz0:Room 130000000000 (⟨σ,#[]⟩:Tr):=zcN.2 (by show 0+130000000000<=_; decide)
 have hz:Room 20000 τ:=zjg hg (hz0.le (by decide))
 refine Fn.enter (Tryz.func105) rfl rfl (fun w0 R=>?_)
 refine sA (xB 2 rfl (fun bk2=>(xB 3 rfl (fun bk3=>(TL.alloc 4 (cs:=#[.slice none 0 0,.int .i64 0,.bool false,.slice none 0 0]) zbY rfl rfl rfl (fun _=>trivial) (fun bk4=>(dA (xmp rfl (xL3 2 zab rfl rfl (xL2 3 za9 rfl rfl (xms rfl ?_)))))))))))
 refine TL.call [0,1] [0,1,5,6,7] (zlX hl ha1 hn1 hs1 hA1 h0 h1) ⟨rfl,rfl,rfl,rfl,trivial⟩ ⟨rfl,rfl,trivial⟩ ztr rfl rfl rfl rfl ?_
 rintro x Bs ⟨wb,tb,ab2,mb2,hv,rfl,rfl⟩
 refine ⟨rfl,trivial,?_⟩
 refine xap rfl (dS (TC.drawT (.br [(0,true),(1,true),(5,true),(10,true)] 2 12 (.br [] 3 12 (.br [(4,true)] 6 12 (.br [(7,true),(8,true),(9,true)] 11 12 (.fin [(12,false),(13,false)]) (.fin [(11,false),(13,false)])) (.fin [(6,false),(7,true),(8,true),(9,true),(11,false),(13,false)])) (.fin [(3,false),(4,true),(6,false),(7,true),(8,true),(9,true),(11,false),(13,false)])) (.fin [(2,false),(3,false),(4,true),(6,false),(7,true),(8,true),(9,true),(11,false),(13,false)])) [2,3] fc_m (by kernel_rfl) (TT.br (xL3 2 zab rfl rfl (xmp rfl (xL2 3 za9 rfl rfl (xmi rfl (TL.both ?_ ?_))))))))
 refine TL.call [0] [0,8] (zjS h0 h1) ⟨rfl,trivial⟩ ⟨rfl,trivial⟩ zsO rfl rfl rfl rfl ?_
 rintro v Bs ⟨ab2,mb2,rfl,rfl⟩
 refine ⟨rfl,(kL2 rfl rfl trivial),?_⟩
 refine TL.conseq 8 (B:=zam _ _ 139 29 (σ)) rfl (fun h hh=>zfk hh) (kL2 rfl rfl trivial) (TL.tree (TT.br (TL.both ?_ ?_)))
 refine xd [] ze4 zjs rfl (kL2 rfl rfl trivial) (TL.tree (TT.br (TL.miN (v:=(.agg _)) rfl zgt rfl rfl (TL.both ?_ ?_))))
 refine xd [] (zg6 (p:=p)) zjC rfl (kL2 rfl rfl trivial) (TL.tree (TT.br (TL.fvA 0 194 10 [_,_,_,_,_,_,_,_,_,_] rfl zc6 zaY rfl rfl rfl (TL.fvA 0 192 10 [_,_,_,_,_,_,_,_,_,_] rfl zc7 zao rfl rfl rfl (TL.fvA 6 190 4 [_,_,_,_] rfl zc8 za2 rfl rfl rfl (TL.both ?_ ?_))))))
 refine xd [8] (zdq zfn hl) zdp rfl (kL2 rfl rfl trivial) (TL.tree (TT.fin (TL.alloc 9 (cs:=#[.int .i64 0,.int .i64 0,.int .i64 0,.bool false]) zdi rfl rfl rfl (fun _=>(kL2 rfl rfl trivial)) (fun bk9=>(TL.stW 9 4 [_,_,_,_] rfl rfl rfl rfl rfl rfl zbR rfl rfl (kL2 rfl rfl trivial) (dS (TC.draw (od [1,3,5,7,9,11,13,15,16,19,21,22]) [9] fc_m (by kernel_rfl) (xmp rfl (xmp rfl (xf 0 zbn rfl ?_))))))))))
 refine xli 9 zad rfl rfl (xf 1 zbm rfl (xli 9 zad rfl rfl (xN0 rfl (xf 17 zb0 rfl (TL.st 5 #[_,_,_,_,_,_,_,_,_,_,_,_,_,_,_,_,_,_,_] (.int _ _) rfl rfl rfl rfl rfl rfl zad rfl rfl (kL1 rfl trivial) (xN0 rfl (xf 18 zbZ rfl (TL.st 5 #[_,_,_,_,_,_,_,_,_,_,_,_,_,_,_,_,_,_,_] (.int _ _) rfl rfl rfl rfl rfl rfl zad rfl rfl (kL1 rfl trivial) ?_))))))))
 refine dA (xmp rfl (xN0 rfl (xf 6 zcr rfl (xL10 5 zcf rfl rfl (xmi rfl (xD [6] (zeI zdZ hl hg (hz0.le (by decide))) zjB rfl (xmu rfl (TL.ext (.bool _) rfl rfl rfl rfl ?_))))))))
 refine xei rfl rfl (TL.ext (.bool _) rfl rfl rfl rfl (xab rfl (xai rfl (xab rfl (dA (xmp rfl (xmb rfl (TL.call [5,6,7] [5,6,7,10,11] (zfQ hl P hP (by omega) (by omega) hz hne) ⟨rfl,rfl,trivial⟩ ⟨rfl,rfl,rfl,trivial⟩ zhO rfl rfl rfl rfl ?_))))))))
 rintro r9 Bs ⟨xa,xc,ya,yc,B1,B2,B3,rfl,rfl⟩
 refine ⟨rfl,trivial,?_⟩
 refine TL.stW 4 4 [_,_,_,_] rfl rfl rfl rfl rfl rfl zaq rfl rfl trivial (dR ?_)
 refine FQ.retG (rs:=[.cell 10 50]) [(.agg _)] (Bs:=[_,A1,_,_]) [0,1,10,11] rfl ⟨⟨_,_,_,_,_,4,rfl,rfl,.inr ⟨4,[_,_,_,_],zaq,rfl,rfl⟩⟩,trivial⟩ rfl rfl ⟨rfl,rfl,rfl,rfl,trivial⟩ ?_
 exact ⟨_,_,_,_,rfl,rfl⟩
 refine TL.alloc 12 (cs:=#[.int .i64 0,.int .i64 0,.int .i64 0,.bool false]) zdi rfl rfl rfl (fun _=>(kL2 rfl rfl trivial)) (fun bk12=>(TL.tree (TT.fin (xd [8] (zdq zfn hl) zdp rfl (kL2 rfl rfl trivial) (TL.stW 12 4 [_,_,_,_] rfl rfl rfl rfl rfl rfl zbR rfl rfl (kL2 rfl rfl trivial) (dS (TC.draw (od [1,3,5,7,9,11,13,15,16,19,21,22]) [12] fc_m (by kernel_rfl) (xmp rfl (xmp rfl (xf 0 zbn rfl ?_))))))))))
 refine xli 12 zad rfl rfl (xf 1 zbm rfl (xli 12 zad rfl rfl (xN0 rfl (xf 17 zb0 rfl (TL.st 5 #[_,_,_,_,_,_,_,_,_,_,_,_,_,_,_,_,_,_,_] (.int _ _) rfl rfl rfl rfl rfl rfl zad rfl rfl (kL1 rfl trivial) (xN0 rfl (xf 18 zbZ rfl (TL.st 5 #[_,_,_,_,_,_,_,_,_,_,_,_,_,_,_,_,_,_,_] (.int _ _) rfl rfl rfl rfl rfl rfl zad rfl rfl (kL1 rfl trivial) ?_))))))))
 refine dA (xmp rfl (xN0 rfl (xf 6 zcr rfl (xL10 5 zcf rfl rfl (xmi rfl (xD [6] (zeI zdZ hl hg (hz0.le (by decide))) zjB rfl (xmu rfl (TL.ext (.bool _) rfl rfl rfl rfl ?_))))))))
 refine xei rfl rfl (TL.ext (.bool _) rfl rfl rfl rfl (xab rfl (xai rfl (xab rfl (dA (xmp rfl (xmb rfl (TL.call [5,6,7] [5,6,7,13,14] (zfQ hl P hP (by omega) (by omega) hz hne) ⟨rfl,rfl,trivial⟩ ⟨rfl,rfl,rfl,trivial⟩ zhO rfl rfl rfl rfl ?_))))))))
 rintro r9 Bs ⟨xa,xc,ya,yc,B1,B2,B3,rfl,rfl⟩
 refine ⟨rfl,trivial,?_⟩
 refine TL.stW 4 4 [_,_,_,_] rfl rfl rfl rfl rfl rfl zaq rfl rfl trivial (dR ?_)
 refine FQ.retG (rs:=[.cell 10 50]) [(.agg _)] (Bs:=[_,A1,_,_]) [0,1,13,14] rfl ⟨⟨_,_,_,_,_,4,rfl,rfl,.inr ⟨4,[_,_,_,_],zaq,rfl,rfl⟩⟩,trivial⟩ rfl rfl ⟨rfl,rfl,rfl,rfl,trivial⟩ ?_
 exact ⟨_,_,_,_,rfl,rfl⟩
 refine TL.alloc 15 (cs:=#[.int .i64 0,.int .i64 0,.int .i64 0,.bool false]) zdi rfl rfl rfl (fun _=>(kL2 rfl rfl trivial)) (fun bk15=>(TL.tree (TT.fin (xd [] (zg6 (p:=p)) zjC rfl (kL2 rfl rfl trivial) (TL.fvA 0 194 10 [_,_,_,_,_,_,_,_,_,_] rfl zc6 zaY rfl rfl rfl (TL.fvA 0 192 10 [_,_,_,_,_,_,_,_,_,_] rfl zc7 zao rfl rfl rfl (TL.fvA 6 190 4 [_,_,_,_] rfl zc8 za2 rfl rfl rfl (xd [8] (zdq zfn hl) zdp rfl (kL2 rfl rfl trivial) (TL.stW 15 4 [_,_,_,_] rfl rfl rfl rfl rfl rfl zbR rfl rfl (kL2 rfl rfl trivial) (dS ?_))))))))))
 refine TC.draw (od [1,3,5,7,9,11,13,15,16,19,21,22]) [15] fc_m (by kernel_rfl) (xmp rfl (xmp rfl (xf 0 zbn rfl (xli 15 zad rfl rfl (xf 1 zbm rfl (xli 15 zad rfl rfl (xN0 rfl (xf 17 zb0 rfl ?_))))))))
 refine TL.st 5 #[_,_,_,_,_,_,_,_,_,_,_,_,_,_,_,_,_,_,_] (.int _ _) rfl rfl rfl rfl rfl rfl zad rfl rfl (kL1 rfl trivial) (xN0 rfl (xf 18 zbZ rfl (TL.st 5 #[_,_,_,_,_,_,_,_,_,_,_,_,_,_,_,_,_,_,_] (.int _ _) rfl rfl rfl rfl rfl rfl zad rfl rfl (kL1 rfl trivial) (dA (xmp rfl (xN0 rfl (xf 6 zcr rfl (xL10 5 zcf rfl rfl ?_))))))))
 refine xmi rfl (xD [6] (zeI zdZ hl hg (hz0.le (by decide))) zjB rfl (xmu rfl (TL.ext (.bool _) rfl rfl rfl rfl (xei rfl rfl (TL.ext (.bool _) rfl rfl rfl rfl (xab rfl (xai rfl (xab rfl ?_))))))))
 refine dA (xmp rfl (xmb rfl (TL.call [5,6,7] [5,6,7,16,17] (zfQ hl P hP (by omega) (by omega) hz hne) ⟨rfl,rfl,trivial⟩ ⟨rfl,rfl,rfl,trivial⟩ zhO rfl rfl rfl rfl ?_)))
 rintro r9 Bs ⟨xa,xc,ya,yc,B1,B2,B3,rfl,rfl⟩
 refine ⟨rfl,trivial,?_⟩
 refine TL.stW 4 4 [_,_,_,_] rfl rfl rfl rfl rfl rfl zaq rfl rfl trivial (dR ?_)
 refine FQ.retG (rs:=[.cell 10 50]) [(.agg _)] (Bs:=[_,A1,_,_]) [0,1,16,17] rfl ⟨⟨_,_,_,_,_,4,rfl,rfl,.inr ⟨4,[_,_,_,_],zaq,rfl,rfl⟩⟩,trivial⟩ rfl rfl ⟨rfl,rfl,rfl,rfl,trivial⟩ ?_
 exact ⟨_,_,_,_,rfl,rfl⟩
 refine TL.alloc 18 (cs:=#[.int .i64 0,.int .i64 0,.int .i64 0,.bool false]) zdi rfl rfl rfl (fun _=>(kL2 rfl rfl trivial)) (fun bk18=>(TL.tree (TT.fin (xd [] ze4 zjs rfl (kL2 rfl rfl trivial) (TL.miN (v:=(.agg _)) rfl zgt rfl rfl (xd [] (zg6 (p:=p)) zjC rfl (kL2 rfl rfl trivial) (TL.fvA 0 194 10 [_,_,_,_,_,_,_,_,_,_] rfl zc6 zaY rfl rfl rfl (TL.fvA 0 192 10 [_,_,_,_,_,_,_,_,_,_] rfl zc7 zao rfl rfl rfl (TL.fvA 6 190 4 [_,_,_,_] rfl zc8 za2 rfl rfl rfl (xd [8] (zdq zfn hl) zdp rfl (kL2 rfl rfl trivial) ?_))))))))))
 refine TL.stW 18 4 [_,_,_,_] rfl rfl rfl rfl rfl rfl zbR rfl rfl (kL2 rfl rfl trivial) (dS (TC.draw (od [1,3,5,7,9,11,13,15,16,19,21,22]) [18] fc_m (by kernel_rfl) (xmp rfl (xmp rfl (xf 0 zbn rfl (xli 18 zad rfl rfl (xf 1 zbm rfl (xli 18 zad rfl rfl ?_))))))))
 refine xN0 rfl (xf 17 zb0 rfl (TL.st 5 #[_,_,_,_,_,_,_,_,_,_,_,_,_,_,_,_,_,_,_] (.int _ _) rfl rfl rfl rfl rfl rfl zad rfl rfl (kL1 rfl trivial) (xN0 rfl (xf 18 zbZ rfl (TL.st 5 #[_,_,_,_,_,_,_,_,_,_,_,_,_,_,_,_,_,_,_] (.int _ _) rfl rfl rfl rfl rfl rfl zad rfl rfl (kL1 rfl trivial) (dA (xmp rfl (xN0 rfl ?_))))))))
 refine xf 6 zcr rfl (xL10 5 zcf rfl rfl (xmi rfl (xD [6] (zeI zdZ hl hg (hz0.le (by decide))) zjB rfl (xmu rfl (TL.ext (.bool _) rfl rfl rfl rfl (xei rfl rfl (TL.ext (.bool _) rfl rfl rfl rfl (xab rfl ?_))))))))
 refine xai rfl (xab rfl (dA (xmp rfl (xmb rfl (TL.call [5,6,7] [5,6,7,19,20] (zfQ hl P hP (by omega) (by omega) hz hne) ⟨rfl,rfl,trivial⟩ ⟨rfl,rfl,rfl,trivial⟩ zhO rfl rfl rfl rfl ?_)))))
 rintro r9 Bs ⟨xa,xc,ya,yc,B1,B2,B3,rfl,rfl⟩
 refine ⟨rfl,trivial,?_⟩
 refine TL.stW 4 4 [_,_,_,_] rfl rfl rfl rfl rfl rfl zaq rfl rfl trivial (dR ?_)
 refine FQ.retG (rs:=[.cell 10 50]) [(.agg _)] (Bs:=[_,A1,_,_]) [0,1,19,20] rfl ⟨⟨_,_,_,_,_,4,rfl,rfl,.inr ⟨4,[_,_,_,_],zaq,rfl,rfl⟩⟩,trivial⟩ rfl rfl ⟨rfl,rfl,rfl,rfl,trivial⟩ ?_
 exact ⟨_,_,_,_,rfl,rfl⟩
 refine TL.alloc 21 (cs:=#[.int .i64 0,.int .i64 0,.int .i64 0,.bool false]) zdi rfl rfl rfl (fun _=>(kL2 rfl rfl trivial)) (fun bk21=>(TL.tree (TT.fin (TL.call [0] [0,22] (zjS h0 h1) ⟨rfl,trivial⟩ ⟨rfl,trivial⟩ zsO rfl rfl rfl rfl ?_))))
 rintro v Bs ⟨ab2,mb2,rfl,rfl⟩
 refine ⟨rfl,(kL2 rfl rfl trivial),?_⟩
 refine TL.conseq 22 (B:=zam _ _ 139 29 (σ)) rfl (fun h hh=>zfk hh) (kL2 rfl rfl trivial) (xd [] ze4 zjs rfl (kL2 rfl rfl trivial) (TL.miN (v:=(.agg _)) rfl zgt rfl rfl (xd [] (zg6 (p:=p)) zjC rfl (kL2 rfl rfl trivial) (TL.fvA 0 194 10 [_,_,_,_,_,_,_,_,_,_] rfl zc6 zaY rfl rfl rfl (TL.fvA 0 192 10 [_,_,_,_,_,_,_,_,_,_] rfl zc7 zao rfl rfl rfl (TL.fvA 6 190 4 [_,_,_,_] rfl zc8 za2 rfl rfl rfl (xd [22] (zdq zfn hl) zdp rfl (kL2 rfl rfl trivial) (TL.stW 21 4 [_,_,_,_] rfl rfl rfl rfl rfl rfl zbR rfl rfl (kL2 rfl rfl trivial) ?_))))))))
 refine dS (TC.draw (od [1,3,5,7,9,11,13,15,16,19,21,22]) [21] fc_m (by kernel_rfl) (xmp rfl (xmp rfl (xf 0 zbn rfl (xli 21 zad rfl rfl (xf 1 zbm rfl (xli 21 zad rfl rfl (xN0 rfl ?_))))))))
 refine xf 17 zb0 rfl (TL.st 5 #[_,_,_,_,_,_,_,_,_,_,_,_,_,_,_,_,_,_,_] (.int _ _) rfl rfl rfl rfl rfl rfl zad rfl rfl (kL1 rfl trivial) (xN0 rfl (xf 18 zbZ rfl (TL.st 5 #[_,_,_,_,_,_,_,_,_,_,_,_,_,_,_,_,_,_,_] (.int _ _) rfl rfl rfl rfl rfl rfl zad rfl rfl (kL1 rfl trivial) (dA (xmp rfl (xN0 rfl (xf 6 zcr rfl ?_))))))))
 refine xL10 5 zcf rfl rfl (xmi rfl (xD [6] (zeI zdZ hl hg (hz0.le (by decide))) zjB rfl (xmu rfl (TL.ext (.bool _) rfl rfl rfl rfl (xei rfl rfl (TL.ext (.bool _) rfl rfl rfl rfl (xab rfl (xai rfl ?_))))))))
 refine xab rfl (dA (xmp rfl (xmb rfl (TL.call [5,6,7] [5,6,7,23,24] (zfQ hl P hP (by omega) (by omega) hz hne) ⟨rfl,rfl,trivial⟩ ⟨rfl,rfl,rfl,trivial⟩ zhO rfl rfl rfl rfl ?_))))
 rintro r9 Bs ⟨xa,xc,ya,yc,B1,B2,B3,rfl,rfl⟩
 refine ⟨rfl,trivial,?_⟩
 refine TL.stW 4 4 [_,_,_,_] rfl rfl rfl rfl rfl rfl zaq rfl rfl trivial (dR ?_)
 refine FQ.retG (rs:=[.cell 10 50]) [(.agg _)] (Bs:=[_,A1,_,_]) [0,1,23,24] rfl ⟨⟨_,_,_,_,_,4,rfl,rfl,.inr ⟨4,[_,_,_,_],zaq,rfl,rfl⟩⟩,trivial⟩ rfl rfl ⟨rfl,rfl,rfl,rfl,trivial⟩ ?_
 exact ⟨_,_,_,_,rfl,rfl⟩
theorem zoV {v:Int} (hv:0<=v/\v<18446744073709551616):FnD Tryz.prog 33 [.int .u64 v] [] (.agg #[.int .i64 (v / 65536 % 65536),.int .i64 (v % 65536),.int .i64 (v / 65536 / 65536 % 256),.int .i64 (v / 65536 / 65536 / 256)]) []:=by
 refine Fn.enter (Tryz.func33) rfl rfl (fun w0 R=>?_)
 refine sA (TL.alloc 0 (cs:=#[.int .i64 0,.int .i64 0,.int .i64 0,.int .i64 0]) zmL rfl rfl rfl (fun _=>trivial) (fun bk0=>(dA (xmi rfl (TL.rem _ rfl rfl (by omega) (znr (by omega)) rfl rfl (TL.conv _ rfl zdK zaO (wr64 (by omega)) rfl rfl (TL.bld [.int .i64 0,.int .i64 0,.int .i64 0,.int .i64 0] [(.int _ _)] [_,_,_,_] zmL zzP ⟨rfl,trivial⟩ ⟨rfl,rfl⟩ rfl rfl (TL.alloc 1 (cs:=#[.int .i64 0,.int .i64 0,.int .i64 0,.int .i64 0]) zmL rfl rfl rfl (fun _=>trivial) (fun bk1=>(TL.stW 1 4 [_,_,_,_] rfl rfl rfl rfl rfl rfl zf1 rfl rfl trivial ?_))))))))))
 refine dA (xmi rfl (TL.quo _ rfl rfl (by omega) (quoU (by omega) (by omega) (by omega)) rfl rfl (xai rfl (dA (xmi rfl (TL.rem _ rfl rfl (by omega) (znr (by omega)) rfl rfl (TL.conv _ rfl zdK zaO (wr64 (by omega)) rfl rfl (xf 0 zhG rfl ?_))))))))
 refine TL.st 1 #[_,_,_,_] (.int _ _) rfl rfl rfl rfl rfl rfl zad rfl rfl trivial (dA (xmi rfl (TL.quo _ rfl rfl (by omega) (quoU (by omega) (by omega) (by omega)) rfl rfl (xai rfl (dA (xmi rfl (TL.rem _ rfl rfl (by omega) (znr (by omega)) rfl rfl (TL.conv _ rfl zdK zaO (wr64 (by omega)) rfl rfl ?_))))))))
 refine xf 2 zeL rfl (TL.st 1 #[_,_,_,_] (.int _ _) rfl rfl rfl rfl rfl rfl zad rfl rfl trivial (dA (xmi rfl (TL.quo _ rfl rfl (by omega) (quoU (by omega) (by omega) (by omega)) rfl rfl (TL.conv _ rfl zdK zaO (wr64 (by omega)) rfl rfl (xf 3 zhF rfl (TL.st 1 #[_,_,_,_] (.int _ _) rfl rfl rfl rfl rfl rfl zad rfl rfl trivial (dA ?_))))))))
 refine xL4 1 zf1 rfl rfl (TL.stW 0 4 [_,_,_,_] rfl rfl rfl rfl rfl rfl zf1 rfl rfl trivial (dR ?_))
 refine FQ.retG (rs:=[.cell 2 63]) [(.agg _)] (Bs:=[]) [] rfl ⟨⟨_,_,_,_,_,0,rfl,rfl,.inr ⟨4,[_,_,_,_],zf1,rfl,rfl⟩⟩,trivial⟩ rfl rfl trivial ?_
 exact ⟨rfl,rfl⟩
theorem zns {v s:Int} (hv:0<=v/\v<18446744073709551616) (hs:0<=s/\s<18446744073709551616):FnD Tryz.prog 102 [.int .u64 v,.int .u64 s] [] (.int .i64 (refM v s)) []:=by
 refine Fn.enter (Tryz.func102) rfl rfl (fun w0 R=>?_)
 refine sA (xai rfl (dA (xmi rfl (xD [] (zoV hv) zwt rfl (TL.alloc 0 (cs:=#[.int .i64 0,.int .i64 0,.int .i64 0,.int .i64 0]) zmL rfl rfl rfl (fun _=>trivial) (fun bk0=>(TL.stW 0 4 [_,_,_,_] rfl rfl rfl rfl rfl rfl zf1 rfl rfl trivial (dB (xf 2 zeL rfl ?_)))))))))
 refine xli 0 zad rfl rfl (TL.eql rfl rfl rfl rfl (fun q1=>?_) (fun q1=>?_))
 refine xmt rfl (xo rfl (xo rfl (xo rfl (xo rfl (xo rfl (xo rfl (xpT rfl (xmt rfl ?_))))))))
 refine xo rfl (xo rfl (xo rfl (xo rfl (xo rfl (xo rfl (xo rfl (xo rfl (xo rfl ?_))))))))
 refine xo rfl (xo rfl (xpT rfl (dT rfl (xf 1 zeM rfl (xli 0 zad rfl rfl (xai rfl (dRR ?_)))))))
 refine FQ.ret1 (v:=(.int _ _)) (Bs:=[]) [] rfl rfl rfl trivial ?_
 first | exact ⟨iE (by unfold refM; rw [if_pos (by omega)]),rfl⟩ | exact ⟨iE (by unfold refM; rw [if_neg (by omega)]),rfl⟩
 refine xmf rfl (xmi rfl (TL.quo _ rfl rfl (by omega) (quoU (by omega) (by omega) (by omega)) rfl rfl (TL.conv _ rfl zdK zaO (wr64 (by omega)) rfl rfl (xf 3 zhF rfl (xli 0 zad rfl rfl (TL.gtr rfl rfl rfl rfl (fun q2=>?_) (fun q2=>?_)))))))
 refine xpH rfl (xmt rfl (xo rfl (xo rfl (xo rfl (xo rfl (xo rfl (xo rfl (xo rfl ?_))))))))
 refine xo rfl (xo rfl (xo rfl (xo rfl (xpT rfl (dT rfl (xf 1 zeM rfl (xli 0 zad rfl rfl (xai rfl ?_))))))))
 refine dRR ?_
 refine FQ.ret1 (v:=(.int _ _)) (Bs:=[]) [] rfl rfl rfl trivial ?_
 first | exact ⟨iE (by unfold refM; rw [if_pos (by omega)]),rfl⟩ | exact ⟨iE (by unfold refM; rw [if_neg (by omega)]),rfl⟩
 refine xpF rfl (xmf rfl (xmi rfl (TL.quo _ rfl rfl (by omega) (quoU (by omega) (by omega) (by omega)) rfl rfl (TL.conv _ rfl zdK zaO (wr64 (by omega)) rfl rfl (xf 3 zhF rfl (xli 0 zad rfl rfl (TL.eql rfl rfl rfl rfl (fun q3=>?_) (fun q3=>?_))))))))
 refine xmt rfl (xmi rfl (TL.rem _ rfl rfl (by omega) (znr (by omega)) rfl rfl (TL.eql rfl rfl rfl rfl (fun q4=>?_) (fun q4=>?_))))
 refine xpT rfl (xpH rfl (dT rfl (xf 1 zeM rfl (xli 0 zad rfl rfl (xai rfl (dRR ?_))))))
 refine FQ.ret1 (v:=(.int _ _)) (Bs:=[]) [] rfl rfl rfl trivial ?_
 first | exact ⟨iE (by unfold refM; rw [if_pos (by omega)]),rfl⟩ | exact ⟨iE (by unfold refM; rw [if_neg (by omega)]),rfl⟩
 refine xpG rfl (xpF rfl (dF rfl (xf 0 zhG rfl (xli 0 zad rfl rfl (xai rfl (dR ?_))))))
 refine FQ.ret1 (v:=(.int _ _)) (Bs:=[]) [] rfl rfl rfl trivial ?_
 first | exact ⟨iE (by unfold refM; rw [if_pos (by omega)]),rfl⟩ | exact ⟨iE (by unfold refM; rw [if_neg (by omega)]),rfl⟩
 refine xmf rfl (xo rfl (xo rfl (xo rfl (xpF rfl (xpF rfl (dF rfl (xf 0 zhG rfl (xli 0 zad rfl rfl ?_))))))))
 refine xai rfl (dR ?_)
 refine FQ.ret1 (v:=(.int _ _)) (Bs:=[]) [] rfl rfl rfl trivial ?_
 first | exact ⟨iE (by unfold refM; rw [if_pos (by omega)]),rfl⟩ | exact ⟨iE (by unfold refM; rw [if_neg (by omega)]),rfl⟩
theorem zfC {l:Lay} {pb ab mb:Nat} {tg:Int} {av:Value} {σ:Array UInt64} {i:Int}:FnD Tryz.prog 34 [.pointer (some ⟨pb,0,none⟩),.int .i64 i] [pt pb (.cells #[.int .i64 l.V,.int .i64 l.S,.int .i64 l.T,.pointer (some ⟨ab,0,none⟩),.int .i64 (tg),av] 57),zam ab mb 139 29 (σ)] (.int .u64 (MemLike.get σ i)) [pt pb (.cells #[.int .i64 l.V,.int .i64 l.S,.int .i64 l.T,.pointer (some ⟨ab,0,none⟩),.int .i64 (tg),av] 57),zam ab mb 139 29 (σ)]:=by
 refine Fn.enter (Tryz.func34) rfl rfl (fun w0 R=>?_)
 refine sA (xai rfl (dA (xmp rfl (xN0 rfl (xf 3 zcd rfl (xlp 0 zdL rfl rfl (xmi rfl (xD [1] ziA zpq rfl ?_))))))))
 refine xmu rfl (xei rfl rfl (xei rfl rfl (xai rfl (xai rfl (dA (xmi rfl (xai rfl (dR ?_))))))))
 refine FQ.ret1 (v:=(.int _ _)) (Bs:=[_,_]) [0,1] rfl rfl rfl ⟨rfl,rfl,trivial⟩ ?_
 exact ⟨rfl,rfl⟩
theorem zqc {l:Lay} (hl:l.Ok) {pb ab mb:Nat} {tg:Int} {av:Value} {σ:Array UInt64} {x f:Int}:FnD Tryz.prog 42 [.pointer (some ⟨pb,0,none⟩),.int .i64 x,.int .i64 f] [pt pb (.cells #[.int .i64 l.V,.int .i64 l.S,.int .i64 l.T,.pointer (some ⟨ab,0,none⟩),.int .i64 (tg),av] 57),zam ab mb 139 29 (σ)] (.int .i64 (zbF l σ x f)) [pt pb (.cells #[.int .i64 l.V,.int .i64 l.S,.int .i64 l.T,.pointer (some ⟨ab,0,none⟩),.int .i64 (tg),av] 57),zam ab mb 139 29 (σ)]:=by
 have hrg:=zls σ (l.field x f)
 refine Fn.enter (Tryz.func42) rfl rfl (fun w0 R=>?_)
 refine sA (xai rfl (dA (xmp rfl (xmp rfl (xN0 rfl (xf 0 zaz rfl (xL3 0 zab rfl rfl (xmi rfl ?_))))))))
 refine xmi rfl (xD [] (zaV hl) zbQ rfl (xD [0,1] zfC zmM rfl (xai rfl (dA (xmi rfl (xD [] (zoV (MemLike.rng _ _)) zwt rfl (TL.alloc 2 (cs:=#[.int .i64 0,.int .i64 0,.int .i64 0,.int .i64 0]) zmL rfl rfl rfl (fun _=>trivial) (fun bk2=>(TL.stW 2 4 [_,_,_,_] rfl rfl rfl rfl rfl rfl zf1 rfl rfl trivial ?_)))))))))
 refine dS (TC.seq (TC.draw (od [1,3,5,7,9,11,13,15,17,19,21,23,25]) [0,2] fc_m (by kernel_rfl) (xf 2 zeL rfl (xli 2 zad rfl rfl (TL.lss rfl rfl rfl rfl (fun q1=>?_) (fun q1=>?_))))))
 refine xmt rfl (xo rfl (xo rfl (xo rfl (xo rfl (xo rfl (xo rfl (xo rfl (xo rfl ?_))))))))
 refine xpT rfl (dT rfl (xf 1 zeM rfl (xli 2 zad rfl rfl (xai rfl (dRR ?_)))))
 refine FQ.ret1 (v:=(.int _ _)) (Bs:=[_,_]) [0,1] rfl rfl rfl ⟨rfl,rfl,trivial⟩ ?_
 first | exact ⟨iE (by unfold zbF; rw [if_pos (by omega)]),rfl⟩ | exact ⟨iE (by unfold zbF; rw [if_neg (by omega)]),rfl⟩
 refine xmf rfl (xf 2 zeL rfl (xli 2 zad rfl rfl (xmp rfl (xN0 rfl (xf 0 zaz rfl (xf 2 zeP rfl (xli 0 zad rfl rfl (TL.gtr rfl rfl rfl rfl (fun q2=>?_) (fun q2=>?_)))))))))
 refine xpH rfl (dT rfl (xf 1 zeM rfl (xli 2 zad rfl rfl (xai rfl (dRR ?_)))))
 refine FQ.ret1 (v:=(.int _ _)) (Bs:=[_,_]) [0,1] rfl rfl rfl ⟨rfl,rfl,trivial⟩ ?_
 first | exact ⟨iE (by unfold zbF; rw [if_pos (by omega)]),rfl⟩ | exact ⟨iE (by unfold zbF; rw [if_neg (by omega)]),rfl⟩
 refine xpF rfl (TL.done (TQ.then (TC.condF rfl (TC.skip (TQ.then (TC.seq (TC.draw (od [1,3,5,7,9,11,13,15,16,18,20,23]) [0,2] fc_m (by kernel_rfl) (xmi rfl ?_))))))))
 refine xmp rfl (xmp rfl (xN0 rfl (xf 0 zaz rfl (xL3 0 zab rfl rfl (xf 2 zeL rfl (xli 2 zad rfl rfl (xd [] (zmv hl) zws rfl (kL2 rfl rfl trivial) (xd [0,1] zfC zmM rfl (kL2 rfl rfl trivial) ?_))))))))
 refine xd [] (zns (MemLike.rng _ _) (MemLike.rng _ _)) zyM rfl (kL2 rfl rfl trivial) (xai rfl (dR ?_))
 refine FQ.ret1 (v:=(.int _ _)) (Bs:=[_,_]) [0,1] rfl rfl rfl ⟨rfl,rfl,trivial⟩ ?_
 first | exact ⟨iE (by unfold zbF; rw [if_pos (by omega)]),rfl⟩ | exact ⟨iE (by unfold zbF; rw [if_neg (by omega)]),rfl⟩
theorem zb9 {l:Lay} (hl:l.Ok) {pb ab mb:Nat} {tg:Int} {av:Value} {σ:Array UInt64} {v:Int}:FnD Tryz.prog 45 [.pointer (some ⟨pb,0,none⟩),.int .i64 v] [pt pb (.cells #[.int .i64 l.V,.int .i64 l.S,.int .i64 l.T,.pointer (some ⟨ab,0,none⟩),.int .i64 (tg),av] 57),zam ab mb 139 29 (σ)] (.int .i64 (zaG l σ v)) [pt pb (.cells #[.int .i64 l.V,.int .i64 l.S,.int .i64 l.T,.pointer (some ⟨ab,0,none⟩),.int .i64 (tg),av] 57),zam ab mb 139 29 (σ)]:=by
 have hnb:=zaF hl
 refine Fn.enter (Tryz.func45) rfl rfl (fun w0 R=>?_)
 refine sA (xai rfl (dA (xmp rfl (xN0 rfl (xf 0 zaz rfl (xL3 0 zab rfl rfl (xmi rfl (xD [] (zcX hl) zfh rfl ?_))))))))
 refine xai rfl (dB (xai rfl (dK (TC.loopK (X:=Nat×Int) [0] [0,1] (fun ⟨k,x⟩=>[(6,.int .i64 ((k:Nat):Int)),(5,.int .i64 x)]) (fun ⟨k,x⟩=>[]) (fun ⟨k,x⟩=>k<=l.nodes.toNat+1/\zeH l σ (l.nodes.toNat+1 - k) x=zaG l σ v) (fun ⟨k,x⟩=>l.nodes.toNat+1 - k) ((0,l.vertex 0 v)) ⟨Nat.zero_le _,rfl⟩ ⟨rfl,rfl,trivial⟩ trivial (fun y hI=>?_)))))
 obtain ⟨k,x⟩:=y
 obtain ⟨hk,hr⟩:=hI
 replace hk:k<=l.nodes.toNat+1:=hk
 replace hr:zeH l σ (l.nodes.toNat+1 - k) x=zaG l σ v:=hr
 refine TC.sub (env':=[(6,_),(5,_),(0,_)]) (L':=[(0,_),(1,_)]) ⟨rfl,rfl,rfl,trivial⟩ ⟨rfl,rfl,trivial⟩ (sB (xmi rfl (xmp rfl (xN0 rfl (xf 0 zaz rfl (xL3 0 zab rfl rfl (xD [] (zem hl) zh3 rfl (TL.leq rfl rfl rfl rfl (fun q1=>?_) (fun q1=>?_)))))))))
 refine TL.done (TQ.then (TC.condT rfl (TC.skip (TQ.then (TC.seq (TC.block (sA (xmp rfl ?_))))))))
 refine xmi rfl (xD [0,1] (zqc hl) zz3 rfl (xai rfl (dB (xmi rfl (TL.eql rfl rfl rfl rfl (fun q2=>?_) (fun q2=>?_))))))
 refine dT rfl (xmi rfl (xai rfl (dRR (TQ.blockRet (TQ.thenRet (TQ.thenRet (TQ.blockRet (TQ.thenRet ?_))))))))
 refine FQ.ret1 (v:=(.int _ _)) (Bs:=[_,_]) [0,1] rfl rfl rfl ⟨rfl,rfl,trivial⟩ ?_
 exact ⟨iE (zqf (by omega) (by assumption) hr),rfl⟩
 refine TL.done (TQ.then (TC.condF rfl (TC.skip (TQ.then (TC.region (xmi rfl (xai rfl (dI ?_))))))))
 refine xmi rfl (TL.add (((k+1:Nat):Int)) rfl rfl (wrN (by omega)) rfl rfl (xai rfl (TL.done (TQ.roundK ((k+1,_)) ⟨⟨(show k+1<=l.nodes.toNat+1 by omega),znC (by omega) (by assumption) hr⟩,(show l.nodes.toNat+1 - (k+1)<l.nodes.toNat+1 - k by omega)⟩ ⟨rfl,rfl,trivial⟩ trivial (kE1 rfl trivial) (kL2 rfl rfl trivial)))))
 refine dE rfl (sA (xai rfl (dR ?_)))
 refine FQ.ret1 (v:=(.int _ _)) (Bs:=[_,_]) [0,1] rfl rfl rfl ⟨rfl,rfl,trivial⟩ ?_
 obtain rfl:k=l.nodes.toNat+1:=by omega
 exact ⟨iE (by rw [<-hr,Nat.sub_self,zeH]),rfl⟩
theorem zja {l:Lay} (hl:l.Ok) {pb ab mb:Nat} {tg:Int} {av:Value} {σ:Array UInt64} {u v:Int}:Go.Eng.Fn Tryz.prog 80 [.pointer (some ⟨pb,0,none⟩),.int .i64 u,.int .i64 v] [pt pb (.cells #[.int .i64 l.V,.int .i64 l.S,.int .i64 l.T,.pointer (some ⟨ab,0,none⟩),.int .i64 (tg),av] 57),zam ab mb 139 29 (σ)] (fun x Bs=>Bs=[pt pb (.cells #[.int .i64 l.V,.int .i64 l.S,.int .i64 l.T,.pointer (some ⟨ab,0,none⟩),.int .i64 (tg),av] 57),zam ab mb 139 29 (zbl l (zar (zaG l σ u) (zaG l σ v)) [] 1 (zar (zaG l σ u) (zaG l σ v)).size σ),rowS x (zar (zaG l σ u) (zaG l σ v))]):=by
 have hwl:=zds (x:=zaG l σ u) (y:=zaG l σ v)
 refine Fn.enter (Tryz.func80) rfl rfl (fun w0 R=>?_)
 refine sA (TL.asg (.slice none 0 0) rfl rfl rfl (dA (xmp rfl (xmi rfl (xD [0,1] (zb9 hl) zfp rfl (xmp rfl (xmi rfl (xD [0,1] (zb9 hl) zfp rfl ?_))))))))
 refine xai rfl (xai rfl (dA (xmi rfl (xmi rfl (TL.min2 rfl rfl rfl rfl (TL.bsN 2 [_] (Tm.encI (min (zaG l σ u) (zaG l σ v))) zak zji ⟨rfl,trivial⟩ rfl (lit1 rfl) rfl rfl (fun bk2=>⟨trivial,?_⟩)))))))
 refine xas rfl (dS (TC.seq (TC.conseq 2 (B:=ownA Tm.encI 1 3 (.slice (some ⟨bk2,0,none⟩) 1 1) #[min (zaG l σ u) (zaG l σ v)]) rfl (fun h hh=>zxl rfl h hh) (TC.region (xmi rfl (xmi rfl (TL.neq rfl rfl rfl rfl (fun q1=>?_) (fun q1=>?_))))))))
 refine TL.done (TQ.then (TC.condT rfl (TC.region (xmv rfl (xmi rfl (xmi rfl (TL.max2 rfl rfl rfl rfl (TL.bsN 3 [_] (Tm.encI (max (zaG l σ u) (zaG l σ v))) zak zji ⟨rfl,trivial⟩ rfl (lit1 rfl) rfl rfl (fun bk3=>⟨trivial,?_⟩)))))))))
 refine TL.appS 2 3 (d2:=#[max (zaG l σ u) (zaG l σ v)]) rfl (rfl) rfl (fun _=>rfl) rfl rfl (row1 rfl) zix (by decide) zfY (by simp) rfl rfl (fun v4=>⟨trivial,?_⟩)
 refine xav rfl (dS (TC.seq (TC.conseq 2 (B:=ownA Tm.encI 1 3 _ (zar (zaG l σ u) (zaG l σ v))) rfl (fun _ h=>by first | (rw [zos (by assumption)]; exact h) | (rw [zot (by assumption)]; exact h)) (TC.ownW 2 rfl (fun a7 g7 c7 hv7 hc7 ha7=>?_)))))
 first | cases hv7 | rw [hv7]
 refine TC.region (xmv rfl (xz zak rfl (xmi rfl (dK (TC.loopK (X:=Nat) [0,6,9,31,32] [0,2] (fun k=>[(33,.int .i64 ((k:Nat):Int))]) (fun k=>[(1,zam ab mb 139 29 (zbl l (zar (zaG l σ u) (zaG l σ v)) [] 1 k σ))]) (fun k=>k<=(zar (zaG l σ u) (zaG l σ v)).size) (fun k=>(zar (zaG l σ u) (zaG l σ v)).size - k) (0) (Nat.zero_le _) ⟨rfl,trivial⟩ ⟨rfl,trivial⟩ (fun k hI=>(TC.sub (env':=[(33,_),(0,_),(6,_),(9,_),(31,_),(32,_)]) (L':=[(1,_),(0,_),(2,_)]) ⟨rfl,rfl,rfl,rfl,rfl,rfl,trivial⟩ ⟨rfl,rfl,rfl,trivial⟩ (sA (TL.lss rfl rfl rfl rfl (fun q2=>?_) (fun q2=>?_))))))))))
 refine dS (TC.condT rfl (TC.skip (TQ.then (TC.seq (TC.block (sA (TL.iaO rfl ha7 rfl zak (by omega) rfl rfl (TL.ldRS 2 (.int _ _) rfl rfl (zaL ha7) (by omega) (rfl) zad rfl rfl ?_))))))))
 refine xai rfl (TL.done (TQ.then (TC.draw (od [1,3,5,7,9,11,13,15,17,18,20]) [0] fc_m (by kernel_rfl) (xmp rfl (xN0 rfl (xf 3 zcd rfl (xlp 0 zdL rfl rfl (xmp rfl ?_))))))))
 refine xN0 rfl (xf 0 zaz rfl (xL3 0 zab rfl rfl (xmi rfl (xd [] (zaV hl) zbQ rfl (kL1 rfl trivial) (xd [1] (zeS (by decide)) zku rfl (kL1 rfl trivial) (dI (TL.add (((k+1:Nat):Int)) rfl rfl (wrN (by omega)) rfl rfl (xmi rfl ?_))))))))
 refine TL.done (TQ.roundK (k+1) ⟨by omega,by omega⟩ ⟨rfl,trivial⟩ ⟨congrArg (fun z=>some (zam ab mb 139 29 (z))) zkf,trivial⟩ (kE5 rfl rfl rfl rfl rfl trivial) (kL2 rfl rfl trivial))
 refine dS (TC.condF rfl (TC.exit (TQ.thenExit (TQ.thenExit (TQ.blockHere (TQ.then (sA (xmv rfl ?_))))))))
 refine xav rfl (dR (TQ.conseq 2 (B:=rowS _ (zar (zaG l σ u) (zaG l σ v))) rfl (fun _ h=>zfV h) ?_))
 refine FQ.ret1 (v:=_) (Bs:=[_,_,_]) [0,1,2] rfl rfl rfl ⟨rfl,rfl,rfl,trivial⟩ ?_
 obtain rfl:k=(zar (zaG l σ u) (zaG l σ v)).size:=by omega
 rfl
 refine TL.done (TQ.then (TC.condF rfl (TC.skip (TQ.then (TC.seq (TC.seq (TC.conseq 2 (B:=ownA Tm.encI 1 3 _ (zar (zaG l σ u) (zaG l σ v))) rfl (fun _ h=>by first | (rw [zos (by assumption)]; exact h) | (rw [zot (by assumption)]; exact h)) (TC.ownW 2 rfl (fun a7 g7 c7 hv7 hc7 ha7=>?_)))))))))
 first | cases hv7 | rw [hv7]
 refine TC.region (xmv rfl (xz zak rfl (xmi rfl (dK (TC.loopK (X:=Nat) [0,6,9,31,32] [0,2] (fun k=>[(33,.int .i64 ((k:Nat):Int))]) (fun k=>[(1,zam ab mb 139 29 (zbl l (zar (zaG l σ u) (zaG l σ v)) [] 1 k σ))]) (fun k=>k<=(zar (zaG l σ u) (zaG l σ v)).size) (fun k=>(zar (zaG l σ u) (zaG l σ v)).size - k) (0) (Nat.zero_le _) ⟨rfl,trivial⟩ ⟨rfl,trivial⟩ (fun k hI=>(TC.sub (env':=[(33,_),(0,_),(6,_),(9,_),(31,_),(32,_)]) (L':=[(1,_),(0,_),(2,_)]) ⟨rfl,rfl,rfl,rfl,rfl,rfl,trivial⟩ ⟨rfl,rfl,rfl,trivial⟩ (sA (TL.lss rfl rfl rfl rfl (fun q2=>?_) (fun q2=>?_))))))))))
 refine dS (TC.condT rfl (TC.skip (TQ.then (TC.seq (TC.block (sA (TL.iaO rfl ha7 rfl zak (by omega) rfl rfl (TL.ldRS 2 (.int _ _) rfl rfl (zaL ha7) (by omega) (rfl) zad rfl rfl ?_))))))))
 refine xai rfl (TL.done (TQ.then (TC.draw (od [1,3,5,7,9,11,13,15,17,18,20]) [0] fc_m (by kernel_rfl) (xmp rfl (xN0 rfl (xf 3 zcd rfl (xlp 0 zdL rfl rfl (xmp rfl ?_))))))))
 refine xN0 rfl (xf 0 zaz rfl (xL3 0 zab rfl rfl (xmi rfl (xd [] (zaV hl) zbQ rfl (kL1 rfl trivial) (xd [1] (zeS (by decide)) zku rfl (kL1 rfl trivial) (dI (TL.add (((k+1:Nat):Int)) rfl rfl (wrN (by omega)) rfl rfl (xmi rfl ?_))))))))
 refine TL.done (TQ.roundK (k+1) ⟨by omega,by omega⟩ ⟨rfl,trivial⟩ ⟨congrArg (fun z=>some (zam ab mb 139 29 (z))) zkf,trivial⟩ (kE5 rfl rfl rfl rfl rfl trivial) (kL2 rfl rfl trivial))
 refine dS (TC.condF rfl (TC.exit (TQ.thenExit (TQ.thenExit (TQ.blockHere (TQ.then (sA (xmv rfl ?_))))))))
 refine xav rfl (dR (TQ.conseq 2 (B:=rowS _ (zar (zaG l σ u) (zaG l σ v))) rfl (fun _ h=>zfV h) ?_))
 refine FQ.ret1 (v:=_) (Bs:=[_,_,_]) [0,1,2] rfl rfl rfl ⟨rfl,rfl,rfl,trivial⟩ ?_
 obtain rfl:k=(zar (zaG l σ u) (zaG l σ v)).size:=by omega
 rfl
theorem zkC {l:Lay} (hl:l.Ok) {da oa:Option Addr} {dn dc on oc bd offd:Nat} {Ad:Assn} {fd:Nat->Int} (hda:0<dn->da=some ⟨bd,offd,none⟩) (hAd:zbh Ad encU 1 bd offd dn fd) (hfd:∀ i,i<dn->0<=fd i/\fd i<18446744073709551616) (hdn:dn<=60)  : Go.Eng.Fn Tryz.prog 25 [.agg #[.int .i64 l.V,.int .i64 l.S,.int .i64 l.T,.slice da dn dc,.slice oa on oc]] [Ad] (fun x Bs=>∃ pb ab mb,x=.pointer (some ⟨pb,0,none⟩)/\Bs=[Ad,pt pb (.cells #[.int .i64 l.V,.int .i64 l.S,.int .i64 l.T,.pointer (some ⟨ab,0,none⟩),.int .i64 (0),.slice none 0 0] 57),zam ab mb 139 29 (zfM l dn fd (Array.replicate l.cells.toNat 0))]):=by
 refine Fn.enter (Tryz.func25) rfl rfl (fun w0 R=>?_)
 refine sA (xB 1 rfl (fun bk1=>(TL.asg (.pointer none) rfl rfl rfl (dA (xf 0 zeO rfl (xL3 1 zab rfl rfl (xf 3 zkr rfl (xls 1 zh1 rfl rfl (TL.call [0] [0,2] (zvE hl hda hAd hfd (by omega)) ⟨rfl,rfl,trivial⟩ ⟨rfl,trivial⟩ zzX rfl rfl rfl rfl ?_)))))))))
 rintro v Bs ⟨ab,mb,rfl,rfl⟩
 refine ⟨rfl,trivial,?_⟩
 refine xmu rfl (TL.ext (.pointer (some ⟨_,_,none⟩)) rfl rfl rfl rfl (xei rfl rfl (xap rfl (xai rfl (dB (xmi rfl (TL.neqF rfl rfl (by decide) rfl rfl (xmf rfl ?_))))))))
 refine xmp rfl (TL.nilP false rfl rfl zzT rfl rfl rfl (xpF rfl (dF rfl (xf 0 zeO rfl (xL3 1 zab rfl rfl (xmp rfl (TL.bld [.int .i64 0,.int .i64 0,.int .i64 0,.pointer none,.int .i64 0,.slice none 0 0] [(.agg _),(.pointer (some ⟨_,_,none⟩))] [_,_,_,_,_,_] zzH zzQ ⟨rfl,rfl,trivial⟩ ⟨rfl,rfl⟩ rfl rfl (xB 3 rfl (fun bk3=>?_)))))))))
 refine xap rfl (dR ?_)
 refine FQ.ret1 (v:=(.pointer (some ⟨_,_,none⟩))) (Bs:=[_,_,_]) [0,3,2] rfl rfl rfl ⟨rfl,rfl,rfl,trivial⟩ ?_
 exact ⟨_,_,_,rfl,rfl⟩
set_option maxHeartbeats 2000000 in
theorem zkD  : FnD Tryz.prog 15 [] [] (.bool true) []:=by
 obtain ⟨b,τ,P,hg,hP,hne,hTr,hrs,⟨n,hpn,hn1,hn2,hw1,hw2⟩,hv,hw9,hok,hr0,hr1⟩:=zvF
 have hts:0<t19.size/\t19.size<=20000:=by decide +kernel
 have hhs:h19.size<=2:=zds
 refine Fn.enter (Tryz.func15) rfl rfl (fun w0 R=>?_)
 refine TC.seq (TC.nilA 0 (A:=fun _=>True) trivial (TC.region (xaf rfl (dA (TL.bld [.int .i64 0,.int .i64 0,.int .i64 0] [(.int _ _),(.int _ _),(.int _ _)] [_,_,_] zzK zzS ⟨rfl,rfl,rfl,trivial⟩ ⟨rfl,rfl⟩ rfl rfl (TL.bld [.int .i64 0,.int .i64 0,.int .i64 0,.slice none 0 0,.slice none 0 0] [(.agg _)] [_,_,_,_,_] zzJ zzR ⟨rfl,trivial⟩ ⟨rfl,rfl⟩ rfl rfl ?_))))))
 refine TL.call [0] [0,1,2] (zkC (l:=l19) (da:=none) (dn:=0) (dc:=0) (Ad:=fun _=>True) (bd:=0) (offd:=0) (fd:=fun _=>0) zgd (fun h=>absurd h (Nat.lt_irrefl 0)) (fun _ _ i hi=>absurd hi (Nat.not_lt_zero i)) (fun i hi=>absurd hi (Nat.not_lt_zero i)) (by decide)) ⟨rfl,trivial⟩ ⟨rfl,trivial⟩ zwu rfl rfl rfl rfl ?_
 rintro x Bs ⟨pb,ab,mb,rfl,rfl⟩
 refine ⟨rfl,trivial,?_⟩
 refine xap rfl (dB (xmp rfl (TL.nilP false rfl rfl zwp rfl rfl rfl (dF rfl (xmp rfl (TL.call [1,2] [1,2,3] (zja (l:=l19) zgd) ⟨rfl,rfl,rfl,trivial⟩ ⟨rfl,rfl,trivial⟩ zsN rfl rfl rfl rfl ?_))))))
 rintro r9 Bs rfl
 refine ⟨rfl,trivial,?_⟩
 refine TL.rowS 3 rfl (fun a9 b9 o9 c9 hv9 hc9 ha9=>⟨trivial,?_⟩)
 cases hv9
 rw [show zbl l19 (zar (zaG l19 (zfM l19 0 (fun _=>0) (Array.replicate l19.cells.toNat 0)) 0) (zaG l19 (zfM l19 0 (fun _=>0) (Array.replicate l19.cells.toNat 0)) 1)) [] 1 (zar (zaG l19 (zfM l19 0 (fun _=>0) (Array.replicate l19.cells.toNat 0)) 0) (zaG l19 (zfM l19 0 (fun _=>0) (Array.replicate l19.cells.toNat 0)) 1)).size (zfM l19 0 (fun _=>0) (Array.replicate l19.cells.toNat 0))=t19 from rfl]
 refine xas rfl (dS (TC.drawT (.br [(0,true),(1,true),(2,true),(3,true),(4,true),(5,true),(6,true),(7,true),(8,true),(9,true)] 10 11 (.fin [(11,false),(12,false)]) (.fin [(10,false),(12,false)])) [1] fc_m (by kernel_rfl) (TT.br (xmp rfl (xN0 rfl (xf 3 zcd rfl (xlp 1 zdL rfl rfl (xmp rfl (xN0 rfl ?_)))))))))
 refine xf 0 zaz rfl (xL3 1 zab rfl rfl (TL.bld [.int .i64 0,.int .i64 0] [(.int _ _)] [_,_] zfF zjk ⟨rfl,trivial⟩ ⟨rfl,rfl⟩ rfl rfl (xms rfl (TL.both ?_ ?_))))
 refine TL.openE 2 rfl (fun n0=>⟨(kL1 rfl trivial),?_⟩)
 refine TL.call [2,3] [2,3,4,5] (zhk (p:=⟨1,0⟩) zgd ha9 hhs rfl zcP hts.1 hts.2 hg hP hne) ⟨rfl,rfl,rfl,rfl,rfl,rfl,rfl,trivial⟩ ⟨rfl,rfl,trivial⟩ zsM rfl rfl rfl rfl ?_
 rintro r9 Bs ⟨xa,xc,ya,yc,rfl,rfl⟩
 refine ⟨rfl,(kL1 rfl trivial),?_⟩
 refine TL.conseq 2 (B:=zam ab mb 139 29 (t19)) rfl (fun h hh=>zfk hh) (kL1 rfl trivial) (TL.ownW 4 rfl (fun a8 g8 c8 hv8 hc8 ha8=>?_))
 cases hv8
 refine TL.rowS 5 rfl (fun a7 b7 o7 c7 hv7 hc7 ha7=>⟨(kL1 rfl trivial),?_⟩)
 cases hv7
 refine TL.tree (TT.fin (TL.alloc 6 (cs:=#[.slice none 0 0,.int .i64 0,.bool false,.slice none 0 0]) zbY rfl rfl rfl (fun _=>(kL1 rfl trivial)) (fun bk6=>(TL.stW 6 4 [_,_,_,_] rfl rfl rfl rfl rfl rfl zaq rfl rfl (kL1 rfl trivial) (dB (xf 2 zhI rfl (xlb 6 zdb rfl rfl ?_)))))))
 rw [hTr]
 refine xnt rfl (xmf rfl (xf 3 zdj rfl (xls 6 zha rfl rfl (xz zak rfl (TL.neqF rfl rfl (by omega) rfl rfl (xpF rfl (xmf rfl (xf 1 zce rfl ?_))))))))
 refine xli 6 zad rfl rfl (TL.lssF rfl rfl (by omega) rfl rfl (xpF rfl (xmf rfl (xf 1 zce rfl (xli 6 zad rfl rfl (xf 0 za8 rfl (xls 6 zcc rfl rfl (xz zal rfl ?_))))))))
 refine TL.geqF rfl rfl (by omega) rfl rfl (xpF rfl (xmf rfl (xf 0 za8 rfl (xls 6 zcc rfl rfl (xf 1 zce rfl (xli 6 zad rfl rfl ?_))))))
 rw [hpn]
 refine TL.iaO rfl ha8 rfl zal (by omega) rfl rfl (xf 0 zdY rfl (TL.ldRF 4 (.bool true) rfl rfl (zaL ha8) (by omega) rfl (congrArg (fun z=>some (Value.bool z)) hw1) zdb rfl rfl (xnt rfl (xpF rfl (xmf rfl (xf 0 za8 rfl (xls 6 zcc rfl rfl (xf 1 zce rfl ?_))))))))
 refine xli 6 zad rfl rfl ?_
 first | rw [hpn] | skip
 refine TL.iaO rfl ha8 rfl zal (by omega) rfl rfl (xf 1 zbP rfl (TL.ldRF 4 (.int .i64 0) rfl rfl (zaL ha8) (by omega) rfl (congrArg (fun z=>some (Value.int .i64 z)) hw2) zad rfl rfl (TL.cmpF rfl rfl rfl (by decide) rfl rfl (xpF rfl (dF rfl (xf 0 za8 rfl (xls 6 zcc rfl rfl (TL.call [4] [4,7,8] (zi4 ha8 (by omega) (zaL ha8)) ⟨rfl,trivial⟩ ⟨rfl,trivial⟩ ztg rfl rfl rfl rfl ?_))))))))
 rintro x Bs ⟨rb,v,rfl,rfl⟩
 refine ⟨rfl,trivial,?_⟩
 rw [zif]
 refine TL.ownW 8 rfl (fun a6 g6 c6 hv6 hc6 ha6=>?_)
 cases hv6
 refine xap rfl (dB (xmp rfl (TL.nilP false rfl rfl zsL rfl rfl rfl (xmf rfl (xmp rfl (xD [7] zgN zmN rfl ?_))))))
 rw [decide_eq_false (show ¬(0:Int)=(P.work.size:Int) by omega)]
 refine xpF rfl (TL.done (TQ.then (TC.condF rfl (TC.skip (TQ.then (sB (xai rfl (dK ?_))))))))
 refine TC.loopK (X:=Nat) [1,3,4] [0,1,3,4,5,6,8] (fun k=>[(5,.int .i64 ((k:Nat):Int))]) (fun k=>[(7,pt rb (.cells #[.slice a6 P.work.size c6,.int .i64 (((k:Nat):Int)),.bool (badA t19 P.work k)] 145)),(2,zam ab mb 139 29 (runA t19 P.work k))]) (fun k=>k<P.work.size) (fun k=>P.work.size - k) (0) (by omega) ⟨rfl,trivial⟩ ⟨rfl,rfl,trivial⟩ (fun k hI=>(TC.sub (env':=[(5,_),(1,_),(3,_),(4,_)]) (L':=[(7,_),(2,_),(0,_),(1,_),(3,_),(4,_),(5,_),(6,_),(8,_)]) ⟨rfl,rfl,rfl,rfl,trivial⟩ ⟨rfl,rfl,rfl,rfl,rfl,rfl,rfl,rfl,rfl,trivial⟩ (sB (xmp rfl (xmp rfl (xN0 rfl (xf 3 zcd rfl (xlp 1 zdL rfl rfl ?_))))))))
 refine xD [7,8,2] (znn (by omega) hc6 ha6 hI hv) zs9 rfl ?_
 rw [show (badA t19 P.work k || !accG P.work[k]! (runA t19 P.work k))=badA t19 P.work (k+1) from rfl,show acc1 P.work[k]! (runA t19 P.work k)=runA t19 P.work (k+1) from rfl]
 refine TL.casesP rfl (fun q1=>?_) (fun q1=>?_)
 refine xnt rfl (dE rfl (TC.seq ?_))
 have hk2:k+1=P.work.size:=by assumption
 rw [hk2]
 have hbd:badA t19 P.work P.work.size=false:=zoj hok (Nat.le_refl _)
 refine TC.draw (od [1,2,5,7,11,13,15,8,17,19,21,23,27,24,28,31,33,35,37,41,43,45,47,38,49,51,53]) [5,6] fc_m (by kernel_rfl) (xmp rfl (xd [7] zkV zs0 rfl (kL2 rfl rfl trivial) ?_))
 rw [hbd]
 refine xmt rfl (xmp rfl (xf 0 za8 rfl (xls 6 zcc rfl rfl (xz zal rfl (xd [7] ziY zs2 rfl (kL2 rfl rfl trivial) (TL.eqlT rfl rfl rfl rfl rfl (xpT rfl (xmt rfl ?_))))))))
 refine xmp rfl (xmp rfl (xd [1,2] (zb9 (l:=l19) zgd) zfp rfl (kL2 rfl rfl trivial) (xd [1,2] (zb9 (l:=l19) zgd) zfp rfl (kL2 rfl rfl trivial) (TL.eqlT rfl rfl (hr0.trans hr1.symm) rfl rfl (xpT rfl (xmt rfl (xmp rfl (xf 3 zdj rfl ?_))))))))
 refine xls 6 zha rfl rfl (TL.iaO (i:=0) rfl ha7 rfl zak (by omega) rfl rfl (TL.ldRS 5 (.int _ _) rfl rfl zcP (by omega) (rfl) zad rfl rfl (xd [1,2] (zb9 (l:=l19) zgd) zfp rfl (kL2 rfl rfl trivial) (TL.eqlT rfl rfl hr0 rfl rfl (xpT rfl (xat rfl (dR ?_)))))))
 refine FQ.ret1 (v:=(.bool true)) (Bs:=[]) [] rfl rfl rfl trivial ?_
 exact ⟨rfl,rfl⟩
 refine xnf rfl (TL.done (TQ.then (TC.condT rfl (TC.skip (TQ.then (TC.seq (TC.block (sA ?_))))))))
 refine xmi rfl (TL.gtrF rfl rfl (by omega) rfl rfl (TL.done (TQ.then (TC.condF rfl (TC.skip (TQ.inBlock (TQ.then (TC.region ?_))))))))
 refine xmi rfl (TL.add (((k+1:Nat):Int)) rfl rfl (wrN (by omega)) rfl rfl (xai rfl (TL.done (TQ.roundK (k+1) ⟨by omega,by omega⟩ ⟨rfl,trivial⟩ ⟨rfl,rfl,trivial⟩ (kE3 rfl rfl rfl trivial) (kL7 rfl rfl rfl rfl rfl rfl rfl trivial)))))
 refine TL.alloc 9 (cs:=#[.slice none 0 0,.int .i64 0,.bool false,.slice none 0 0]) zbY rfl rfl rfl (fun _=>(kL1 rfl trivial)) (fun bk9=>(TL.tree (TT.fin (TL.openE 2 rfl (fun n0=>⟨(kL1 rfl trivial),?_⟩)))))
 refine TL.call [2,3] [2,3,10,11] (zhk (p:=⟨1,0⟩) zgd ha9 hhs rfl zcP hts.1 hts.2 hg hP hne) ⟨rfl,rfl,rfl,rfl,rfl,rfl,rfl,trivial⟩ ⟨rfl,rfl,trivial⟩ zsM rfl rfl rfl rfl ?_
 rintro r9 Bs ⟨xa,xc,ya,yc,rfl,rfl⟩
 refine ⟨rfl,(kL1 rfl trivial),?_⟩
 refine TL.conseq 2 (B:=zam ab mb 139 29 (t19)) rfl (fun h hh=>zfk hh) (kL1 rfl trivial) (TL.ownW 10 rfl (fun a8 g8 c8 hv8 hc8 ha8=>?_))
 cases hv8
 refine TL.rowS 11 rfl (fun a7 b7 o7 c7 hv7 hc7 ha7=>⟨(kL1 rfl trivial),?_⟩)
 cases hv7
 refine TL.stW 9 4 [_,_,_,_] rfl rfl rfl rfl rfl rfl zaq rfl rfl (kL1 rfl trivial) (dB (xf 2 zhI rfl (xlb 9 zdb rfl rfl ?_)))
 rw [hTr]
 refine xnt rfl (xmf rfl (xf 3 zdj rfl (xls 9 zha rfl rfl (xz zak rfl (TL.neqF rfl rfl (by omega) rfl rfl (xpF rfl (xmf rfl (xf 1 zce rfl ?_))))))))
 refine xli 9 zad rfl rfl (TL.lssF rfl rfl (by omega) rfl rfl (xpF rfl (xmf rfl (xf 1 zce rfl (xli 9 zad rfl rfl (xf 0 za8 rfl (xls 9 zcc rfl rfl (xz zal rfl ?_))))))))
 refine TL.geqF rfl rfl (by omega) rfl rfl (xpF rfl (xmf rfl (xf 0 za8 rfl (xls 9 zcc rfl rfl (xf 1 zce rfl (xli 9 zad rfl rfl ?_))))))
 rw [hpn]
 refine TL.iaO rfl ha8 rfl zal (by omega) rfl rfl (xf 0 zdY rfl (TL.ldRF 10 (.bool true) rfl rfl (zaL ha8) (by omega) rfl (congrArg (fun z=>some (Value.bool z)) hw1) zdb rfl rfl (xnt rfl (xpF rfl (xmf rfl (xf 0 za8 rfl (xls 9 zcc rfl rfl (xf 1 zce rfl ?_))))))))
 refine xli 9 zad rfl rfl ?_
 first | rw [hpn] | skip
 refine TL.iaO rfl ha8 rfl zal (by omega) rfl rfl (xf 1 zbP rfl (TL.ldRF 10 (.int .i64 0) rfl rfl (zaL ha8) (by omega) rfl (congrArg (fun z=>some (Value.int .i64 z)) hw2) zad rfl rfl (TL.cmpF rfl rfl rfl (by decide) rfl rfl (xpF rfl (dF rfl (xf 0 za8 rfl (xls 9 zcc rfl rfl (TL.call [10] [10,12,13] (zi4 ha8 (by omega) (zaL ha8)) ⟨rfl,trivial⟩ ⟨rfl,trivial⟩ ztg rfl rfl rfl rfl ?_))))))))
 rintro x Bs ⟨rb,v,rfl,rfl⟩
 refine ⟨rfl,trivial,?_⟩
 rw [zif]
 refine TL.ownW 13 rfl (fun a6 g6 c6 hv6 hc6 ha6=>?_)
 cases hv6
 refine xap rfl (dB (xmp rfl (TL.nilP false rfl rfl zsL rfl rfl rfl (xmf rfl (xmp rfl (xD [12] zgN zmN rfl ?_))))))
 rw [decide_eq_false (show ¬(0:Int)=(P.work.size:Int) by omega)]
 refine xpF rfl (TL.done (TQ.then (TC.condF rfl (TC.skip (TQ.then (sB (xai rfl (dK ?_))))))))
 refine TC.loopK (X:=Nat) [1,3,4] [0,1,3,9,10,11,13] (fun k=>[(5,.int .i64 ((k:Nat):Int))]) (fun k=>[(12,pt rb (.cells #[.slice a6 P.work.size c6,.int .i64 (((k:Nat):Int)),.bool (badA t19 P.work k)] 145)),(2,zam ab mb 139 29 (runA t19 P.work k))]) (fun k=>k<P.work.size) (fun k=>P.work.size - k) (0) (by omega) ⟨rfl,trivial⟩ ⟨rfl,rfl,trivial⟩ (fun k hI=>(TC.sub (env':=[(5,_),(1,_),(3,_),(4,_)]) (L':=[(12,_),(2,_),(0,_),(1,_),(3,_),(9,_),(10,_),(11,_),(13,_)]) ⟨rfl,rfl,rfl,rfl,trivial⟩ ⟨rfl,rfl,rfl,rfl,rfl,rfl,rfl,rfl,rfl,trivial⟩ (sB (xmp rfl (xmp rfl (xN0 rfl (xf 3 zcd rfl (xlp 1 zdL rfl rfl ?_))))))))
 refine xD [12,13,2] (znn (by omega) hc6 ha6 hI hv) zs9 rfl ?_
 rw [show (badA t19 P.work k || !accG P.work[k]! (runA t19 P.work k))=badA t19 P.work (k+1) from rfl,show acc1 P.work[k]! (runA t19 P.work k)=runA t19 P.work (k+1) from rfl]
 refine TL.casesP rfl (fun q1=>?_) (fun q1=>?_)
 refine xnt rfl (dE rfl (TC.seq ?_))
 have hk2:k+1=P.work.size:=by assumption
 rw [hk2]
 have hbd:badA t19 P.work P.work.size=false:=zoj hok (Nat.le_refl _)
 refine TC.draw (od [1,2,5,7,11,13,15,8,17,19,21,23,27,24,28,31,33,35,37,41,43,45,47,38,49,51,53]) [9,11] fc_m (by kernel_rfl) (xmp rfl (xd [12] zkV zs0 rfl (kL2 rfl rfl trivial) ?_))
 rw [hbd]
 refine xmt rfl (xmp rfl (xf 0 za8 rfl (xls 9 zcc rfl rfl (xz zal rfl (xd [12] ziY zs2 rfl (kL2 rfl rfl trivial) (TL.eqlT rfl rfl rfl rfl rfl (xpT rfl (xmt rfl ?_))))))))
 refine xmp rfl (xmp rfl (xd [1,2] (zb9 (l:=l19) zgd) zfp rfl (kL2 rfl rfl trivial) (xd [1,2] (zb9 (l:=l19) zgd) zfp rfl (kL2 rfl rfl trivial) (TL.eqlT rfl rfl (hr0.trans hr1.symm) rfl rfl (xpT rfl (xmt rfl (xmp rfl (xf 3 zdj rfl ?_))))))))
 refine xls 9 zha rfl rfl (TL.iaO (i:=0) rfl ha7 rfl zak (by omega) rfl rfl (TL.ldRS 11 (.int _ _) rfl rfl zcP (by omega) (rfl) zad rfl rfl (xd [1,2] (zb9 (l:=l19) zgd) zfp rfl (kL2 rfl rfl trivial) (TL.eqlT rfl rfl hr0 rfl rfl (xpT rfl (xat rfl (dR ?_)))))))
 refine FQ.ret1 (v:=(.bool true)) (Bs:=[]) [] rfl rfl rfl trivial ?_
 exact ⟨rfl,rfl⟩
 refine xnf rfl (TL.done (TQ.then (TC.condT rfl (TC.skip (TQ.then (TC.seq (TC.block (sA ?_))))))))
 refine xmi rfl (TL.gtrF rfl rfl (by omega) rfl rfl (TL.done (TQ.then (TC.condF rfl (TC.skip (TQ.inBlock (TQ.then (TC.region ?_))))))))
 refine xmi rfl (TL.add (((k+1:Nat):Int)) rfl rfl (wrN (by omega)) rfl rfl (xai rfl (TL.done (TQ.roundK (k+1) ⟨by omega,by omega⟩ ⟨rfl,trivial⟩ ⟨rfl,rfl,trivial⟩ (kE3 rfl rfl rfl trivial) (kL7 rfl rfl rfl rfl rfl rfl rfl trivial)))))
end Go.Proofs.YtabjfnfglcghfaaGreat
