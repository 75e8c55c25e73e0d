import Derived.Test.YtabjfnfglcghfaaGreatConA
set_option linter.unusedVariables false
set_option linter.unusedSimpArgs false
set_option maxRecDepth 20000
namespace Go.Proofs.YtabjfnfglcghfaaGreat
open Go.Eng Go.Tm
theorem zt7 {a:Option Addr} {b off n c:Nat} {A:Assn} {f:Nat->Int} (ha:0<n->a=some ⟨b,off,none⟩) (hn:n<=20000) (hA:zbj A encU 1 b off n f):Go.Eng.Fn Tryz.prog 106 [.slice a n c] [A] (fun v Bs=>Bs=[A,ownA encU 1 29 v ((List.range n).map f).toArray]):=by
 refine Fn.enter (Tryz.func106) Z Z (fun w0 R=>?_)
 refine sA (TL.asg (.slice none 0 0) rfl rfl rfl (dB (xms rfl (TL.nilS rfl rfl za6 rfl rfl (TL.cases rfl (fun q1=>?_) (fun q1=>?_))))))
 refine TL.done (TQ.then (TC.condT Z (TC.seq ?_)))
 obtain rfl:n=0:=by
   rcases Nat.eq_zero_or_pos n with h | h
   ·exact h
   ·rw [ha h] at q1; simp at q1
 refine TC.nilA 1 (A:=ownA encU 1 29 (.slice none 0 0) ((List.range 0).map f).toArray) (.inl ⟨Z,Z⟩) (TC.region (TL.asg (.slice none 0 0) Z Z Z (dRR ?_)))
 refine FQ.ret1 (v:=(.slice none 0 0)) (Bs:=[A,_]) [0,1] Z Z Z ⟨Z,Z,Zt⟩ ?_
 rfl
 refine dF Z (TL.bs0 2 encU za6 Z Z (fun bk2=>⟨Zt,?_⟩))
 refine xms Z ?_
 obtain ⟨ad,rfl⟩:∃ ad,a=some ad:=Option.ne_none_iff_exists'.1 (by rintro rfl; simp at q1)
 refine TL.appS 2 0 (d2:=((List.range n).map f).toArray) Z (zeu f n) Z (ha) Z Z (hA.congr fun i hi=>(zle f hi).symm) zvV (by decide) zjC (by rw [zeu]; show 0+n<=137438953472; omega) Z Z (fun v3=>⟨Zt,?_⟩)
 refine TL.conseq 2 (B:=ownA encU 1 29 v3 ((List.range n).map f).toArray) Z (fun h hh=>by simpa using hh) Zt (xav Z (dR ?_))
 refine FQ.ret1 (v:=_) (Bs:=[A,_]) [0,2] Z Z Z ⟨Z,Z,Zt⟩ ?_
 rfl
theorem zt8 {a:Option Addr} {b off n c:Nat} {A:Assn} {f:Nat->Int} (ha:0<n->a=some ⟨b,off,none⟩) (hn:n<=20000) (hA:zbj A Tm.encI 1 b off n f):Go.Eng.Fn Tryz.prog 150 [.slice a n c] [A] (fun v Bs=>Bs=[A,ownA Tm.encI 1 3 v ((List.range n).map f).toArray]):=by
 refine Fn.enter (Tryz.func150) Z Z (fun w0 R=>?_)
 refine sA (TL.asg (.slice none 0 0) rfl rfl rfl (dB (xms rfl (TL.nilS rfl rfl zah rfl rfl (TL.cases rfl (fun q1=>?_) (fun q1=>?_))))))
 refine TL.done (TQ.then (TC.condT Z (TC.seq ?_)))
 obtain rfl:n=0:=by
   rcases Nat.eq_zero_or_pos n with h | h
   ·exact h
   ·rw [ha h] at q1; simp at q1
 refine TC.nilA 1 (A:=ownA Tm.encI 1 3 (.slice none 0 0) ((List.range 0).map f).toArray) (.inl ⟨Z,Z⟩) (TC.region (TL.asg (.slice none 0 0) Z Z Z (dRR ?_)))
 refine FQ.ret1 (v:=(.slice none 0 0)) (Bs:=[A,_]) [0,1] Z Z Z ⟨Z,Z,Zt⟩ ?_
 rfl
 refine dF Z (TL.bs0 2 Tm.encI zah Z Z (fun bk2=>⟨Zt,?_⟩))
 refine xms Z ?_
 obtain ⟨ad,rfl⟩:∃ ad,a=some ad:=Option.ne_none_iff_exists'.1 (by rintro rfl; simp at q1)
 refine TL.appS 2 0 (d2:=((List.range n).map f).toArray) Z (zeu f n) Z (ha) Z Z (hA.congr fun i hi=>(zle f hi).symm) zdA (by decide) zch (by rw [zeu]; show 0+n<=137438953472; omega) Z Z (fun v3=>⟨Zt,?_⟩)
 refine TL.conseq 2 (B:=ownA Tm.encI 1 3 v3 ((List.range n).map f).toArray) Z (fun h hh=>by simpa using hh) Zt (xav Z (dR ?_))
 refine FQ.ret1 (v:=_) (Bs:=[A,_]) [0,2] Z Z Z ⟨Z,Z,Zt⟩ ?_
 rfl
theorem zwd {ab mb cap:Nat} {rs:Array Value} {σ:Array UInt64} {c:Cnt} (h0:0<σ.size) (h1:σ.size<=20000):Go.Eng.Fn Tryz.prog 58 [.pointer (some ⟨ab,0,none⟩)] [arO ab mb (σ.size) cap 139 c,pt mb (.cells (encM (σ)++rs) 29)] (fun v Bs=>∃ ab2 mb2,v=.pointer (some ⟨ab2,0,none⟩)/\Bs=[arO ab mb (σ.size) cap 139 c,pt mb (.cells (encM (σ)++rs) 29),arenaC ab2 mb2 139 29 (σ) (c)]):=by
 refine Fn.enter (Tryz.func58) Z Z (fun w0 R=>?_)
 refine sA (TL.asg (.pointer none) Z Z Z (dS (TC.draw (od [1,3,5,7,11,13,15,17,8,19,20,23]) [0] fc_m (by kernel_rfl) (xmp Z (xN0 Z (xf 0 zdr Z (xls 0 zih Z Z (xmp Z ?_))))))))
 refine xN0 Z (xf 1 zem Z (xL5 0 ztP Z Z (TL.call [1] [1,2] (zt7 (fun _=>Z) h1 zya) ⟨Z,Zt⟩ ⟨Z,Zt⟩ zzq Z Z Z Z ?_)))
 rintro v Bs rfl
 refine ⟨Z,(kL1 Z Zt),?_⟩
 refine TL.ownM 2 h0 Z (fun _ _=>(kL1 Z Zt)) (fun g2 cap2 rs2 hv=>?_)
 subst hv
 refine TL.bld [.slice none 0 0,.int .i64 0,.int .i64 0,.int .i64 0,.int .i64 0,.int .i64 0] [(.slice _ _ _),(.agg _)] [_,_,_,_,_,_] zs3 zs7 ⟨Z,Z,Zt⟩ ⟨Z,Z⟩ Z Z (TL.boxA 3 Z Z Z (fun _=>(kL1 Z Zt)) (fun bk3=>(xap Z (dR (TQ.arenaC 3 2 (N:=σ.size) (c:=c) Z Z Z (by decide) ?_)))))
 refine FQ.ret1 (v:=(.pointer (some ⟨_,_,none⟩))) (Bs:=[_,_,_]) [0,1,3] Z Z Z ⟨Z,Z,Z,Zt⟩ ?_
 exact ⟨_,_,Z,Z⟩
theorem zj9 {ab mb:Nat} {σ:Array UInt64} {c:Cnt} (h0:0<σ.size) (h1:σ.size<=20000):Go.Eng.Fn Tryz.prog 58 [.pointer (some ⟨ab,0,none⟩)] [arenaC ab mb 139 29 (σ) (c)] (fun v Bs=>∃ ab2 mb2,v=.pointer (some ⟨ab2,0,none⟩)/\Bs=[arenaC ab mb 139 29 (σ) (c),arenaC ab2 mb2 139 29 (σ) (c)]) :=
 Fn.arenaX Z (fun cap rs=>Fn.mono (zwd h0 h1) fun v Bs ⟨ab2,mb2,hv,hB⟩=>⟨_,hB,ab2,mb2,hv,Z⟩)
theorem znN {V S T:Int}  : FnD Tryz.prog 86 [.agg #[.int .i64 V,.int .i64 S,.int .i64 T]] [] (.bool (decide (okL V S T))) []:=by
 refine Fn.enter (Tryz.func86) Z Z (fun w0 R=>?_)
 refine sA (xB 0 Z (fun bk0=>(xaf Z (dA (xf 0 zkJ Z (xli 0 zad Z Z (TL.geq Z Z Z Z (fun q1=>?_) (fun q1=>?_))))))))
 refine xmt Z (xf 0 zkJ Z (xli 0 zad Z Z (TL.leq Z Z Z Z (fun q2=>?_) (fun q2=>?_))))
 refine xpT Z (xmt Z (xf 1 zkI Z (xli 0 zad Z Z (TL.geq Z Z Z Z (fun q3=>?_) (fun q3=>?_)))))
 refine xpT Z (xmt Z (xf 1 zkI Z (xli 0 zad Z Z (TL.leq Z Z Z Z (fun q4=>?_) (fun q4=>?_)))))
 refine xpT Z (xmt Z (xf 2 zkH Z (xli 0 zad Z Z (TL.geq Z Z Z Z (fun q5=>?_) (fun q5=>?_)))))
 refine xpT Z (xmt Z (xf 2 zkH Z (xli 0 zad Z Z (TL.leqV Z Z Z Z (TL.pickT (.bool _) Z Z Z Z (xab Z (dR ?_)))))))
 refine FQ.ret1 (v:=(.bool _)) (Bs:=[]) [] Z Z Z Zt ?_
 first | exact ⟨congrArg Value.bool (by unfold okL; first | (simp [*]; done) | (simp [*]; omega) | (rw [eq_comm,decide_eq_false_iff_not]; omega) | (rw [eq_comm,decide_eq_true_iff]; omega) | (rw [decide_eq_decide]; omega)),Z⟩
 refine xpG Z (xmf Z (xo Z (xo Z (xo Z (xpF Z (xaf Z (dR ?_)))))))
 refine FQ.ret1 (v:=(.bool false)) (Bs:=[]) [] Z Z Z Zt ?_
 first | exact ⟨congrArg Value.bool (by unfold okL; first | (simp [*]; done) | (simp [*]; omega) | (rw [eq_comm,decide_eq_false_iff_not]; omega) | (rw [eq_comm,decide_eq_true_iff]; omega) | (rw [decide_eq_decide]; omega)),Z⟩
 refine xpG Z (xmf Z (xo Z (xo Z (xo Z (xpF Z (xmf Z (xo Z (xo Z ?_))))))))
 refine xo Z (xpF Z (xaf Z (dR ?_)))
 refine FQ.ret1 (v:=(.bool false)) (Bs:=[]) [] Z Z Z Zt ?_
 first | exact ⟨congrArg Value.bool (by unfold okL; first | (simp [*]; done) | (simp [*]; omega) | (rw [eq_comm,decide_eq_false_iff_not]; omega) | (rw [eq_comm,decide_eq_true_iff]; omega) | (rw [decide_eq_decide]; omega)),Z⟩
 refine xpG Z (xmf Z (xo Z (xo Z (xo Z (xpF Z (xmf Z (xo Z (xo Z ?_))))))))
 refine xo Z (xpF Z (xmf Z (xo Z (xo Z (xo Z (xpF Z (xaf Z (dR ?_))))))))
 refine FQ.ret1 (v:=(.bool false)) (Bs:=[]) [] Z Z Z Zt ?_
 first | exact ⟨congrArg Value.bool (by unfold okL; first | (simp [*]; done) | (simp [*]; omega) | (rw [eq_comm,decide_eq_false_iff_not]; omega) | (rw [eq_comm,decide_eq_true_iff]; omega) | (rw [decide_eq_decide]; omega)),Z⟩
 refine xpG Z (xmf Z (xo Z (xo Z (xo Z (xpF Z (xmf Z (xo Z (xo Z ?_))))))))
 refine xo Z (xpF Z (xmf Z (xo Z (xo Z (xo Z (xpF Z (xmf Z (xo Z ?_))))))))
 refine xo Z (xo Z (xpF Z (xaf Z (dR ?_))))
 refine FQ.ret1 (v:=(.bool false)) (Bs:=[]) [] Z Z Z Zt ?_
 first | exact ⟨congrArg Value.bool (by unfold okL; first | (simp [*]; done) | (simp [*]; omega) | (rw [eq_comm,decide_eq_false_iff_not]; omega) | (rw [eq_comm,decide_eq_true_iff]; omega) | (rw [decide_eq_decide]; omega)),Z⟩
 refine xmf Z (xo Z (xo Z (xo Z (xpF Z (xmf Z (xo Z (xo Z (xo Z ?_))))))))
 refine xpF Z (xmf Z (xo Z (xo Z (xo Z (xpF Z (xmf Z (xo Z (xo Z ?_))))))))
 refine xo Z (xpF Z (xmf Z (xo Z (xo Z (xo Z (xpF Z (xaf Z (dR ?_))))))))
 refine FQ.ret1 (v:=(.bool false)) (Bs:=[]) [] Z Z Z Zt ?_
 first | exact ⟨congrArg Value.bool (by unfold okL; first | (simp [*]; done) | (simp [*]; omega) | (rw [eq_comm,decide_eq_false_iff_not]; omega) | (rw [eq_comm,decide_eq_true_iff]; omega) | (rw [decide_eq_decide]; omega)),Z⟩
set_option maxHeartbeats 2000000 in
theorem zj0 {a:Option Addr} {n c:Nat} {d:Array Int} (hn:n<=137438953472) (hsz:d.size=n):Go.Eng.Fn Tryz.prog 191 [.slice a n c] [ownA Tm.encI 1 3 (.slice a n c) (d)] (fun v Bs=>∃ d2,Bs=[rowS v d2]/\d2.toList=cpt d n):=by
 refine Fn.enter (Tryz.func191) Z Z (fun w0 R=>?_)
 refine sA (TL.asg (.slice none 0 0) Z Z Z (dB (xms Z (xz zah Z (TL.lss Z Z Z Z (fun q1=>?_) (fun q1=>?_))))))
 refine dT Z (xms Z (xas Z (dRR ?_)))
 first | refine TQ.conseq 0 (B:=rowS _ d) Z (fun _ h=>zev h) ?_ | refine TQ.conseq 0 (B:=rowS (.slice (slA (some ⟨g8,0,none⟩) 0 1 c) k1 c) (D.extract 0 k1)) Z (fun _ h=>znI (by rw [Array.size_extract]; omega) (by omega) (fun h9=>by simpa using zfI (size:=1) (fun _=>Z) hc8 (i:=0) (by omega)) h) ?_
 refine FQ.ret1 (v:=(.slice _ _ _)) (Bs:=[_]) [0] Z Z Z ⟨Z,Zt⟩ ?_
 exact ⟨d,Z,zzB hsz (by omega)⟩
 refine TL.done (TQ.then (TC.condF Z (TC.skip (TQ.then (TC.seq (TC.seq (TC.ownW 0 Z (fun a8 g8 c8 hv8 hc8 ha8=>?_))))))))
 simp only [Value.slice.injEq] at hv8
 obtain ⟨rfl,_,rfl⟩:=hv8
 obtain rfl:=ha8 (by omega)
 rw [hsz] at hc8
 have haR:0<n->(some ⟨g8,0,none⟩:Option Addr)=some ⟨g8,0,none⟩:=fun _=>Z
 refine TC.region (xai Z (dK (TC.loopK (X:=Nat) [0] [0] (fun k=>[(3,.int .i64 ((k:Nat):Int))]) (fun k=>[]) (fun k=>1<=k/\k<=n/\CpA d k) (fun k=>n - k) (1) ⟨Nat.le_refl _,by omega,.start⟩ ⟨Z,Zt⟩ Zt (fun k hI=>?_))))
 obtain ⟨hk1,hkn,hA⟩:=hI
 refine TC.sub (env':=[(3,_),(0,_)]) (L':=[(0,_)]) ⟨Z,Z,Zt⟩ ⟨Z,Zt⟩ (sB (xmi Z (xms Z (xz zah Z (TL.lss Z Z Z Z (fun q2=>?_) (fun q2=>?_))))))
 refine TL.done (TQ.then (TC.condT Z (TC.skip (TQ.then (TC.seq (TC.block (TC.seq (TC.draw (od [1,3,5,7,9,11,13,15,17,19]) [0] fc_m (by kernel_rfl) ?_))))))))
 refine xms Z (xmi Z (TL.iaO Z haR Z zah (by omega) Z Z (TL.ldRS 0 (.int _ _) Z Z (zew (by omega)) (by omega) (Z) zad Z Z (xms Z (xmi Z (TL.sub (((k - 1:Nat):Int)) Z Z (wrN (by omega)) Z Z (TL.iaO Z haR Z zah (by omega) Z Z (TL.ldRS 0 (.int _ _) Z Z (zew (by omega)) (by omega) (Z) zad Z Z ?_))))))))
 refine TL.eql Z Z Z Z (fun q3=>?_) (fun q3=>?_)
 refine dT Z (xms Z (xmi Z (TL.slLo Z Z zah (by omega) Z Z (xas Z (dB (xai Z (dK (TC.loopK (X:=Nat×Nat×Array Int) [0,4] [] (fun ⟨k1,k2,D⟩=>[(3,.int .i64 ((k1:Nat):Int)),(5,.int .i64 ((k2:Nat):Int))]) (fun ⟨k1,k2,D⟩=>[(0,ownA Tm.encI 1 3 (.slice (some ⟨g8,0,none⟩) n c) (D))]) (fun ⟨k1,k2,D⟩=>k2<=n - k/\CpI d k k1 k2 D) (fun ⟨k1,k2,D⟩=>n - k2) ((k,1,d)) ⟨(show 1<=n - k by omega),.start hA (by omega) (by assumption)⟩ ⟨Z,Z,Zt⟩ ⟨Z,Zt⟩ (fun y hI=>?_)))))))))
 obtain ⟨k1,k2,D⟩:=y
 obtain ⟨hk2,hI2⟩:=hI
 replace hk2:k2<=n - k:=hk2
 replace hI2:CpI d k k1 k2 D:=hI2
 have hle:=hI2.le
 have hDz:D.size=n:=hI2.sz.trans hsz
 refine TC.sub (env':=[(3,_),(5,_),(0,_),(4,_)]) (L':=[(0,_)]) ⟨Z,Z,Z,Z,Zt⟩ ⟨Z,Zt⟩ (sB (xmi Z (xms Z (xz zah Z (TL.lss Z Z Z Z (fun q4=>?_) (fun q4=>?_))))))
 refine TL.done (TQ.then (TC.condT Z (TC.skip (TQ.then (TC.seq (TC.block (TC.seq (TC.draw (od [1,3,5,7,9,11,13,15,17,19]) [0] fc_m (by kernel_rfl) ?_))))))))
 refine xms Z (xmi Z (TL.iaO Z (zfI haR hc8) Z zah (by omega) Z Z (TL.ldRS 0 (.int _ _) Z Z ((zew (by omega)).drop k (n - k) (by omega)) (by omega) (Z) zad Z Z (xms Z (xmi Z (TL.sub (((k2 - 1:Nat):Int)) Z Z (wrN (by omega)) Z Z (TL.iaO Z (zfI haR hc8) Z zah (by omega) Z Z (TL.ldRS 0 (.int _ _) Z Z ((zew (by omega)).drop k (n - k) (by omega)) (by omega) (Z) zad Z Z ?_))))))))
 refine TL.neq Z Z Z Z (fun q5=>?_) (fun q5=>?_)
 refine dT Z (xms Z (xmi Z (xms Z (xmi Z (TL.iaO Z (zfI haR hc8) Z zah (by omega) Z Z (TL.ldRS 0 (.int _ _) Z Z ((zew (by omega)).drop k (n - k) (by omega)) (by omega) (Z) zad Z Z (TL.iaO Z haR Z zah (by omega) Z Z (TL.stOF 0 (o:=0) (i:=k1) (cur:=D[k1]!) (u:=D[k+k2]!) (by rw [hI2.sz]; exact hsz) Z Z Z Z (by have:=hI2.sz; omega) (Z) ⟨Z,Z⟩ Z zad Z Z Zt ?_))))))))
 refine dG (xmi Z (TL.add (((k1+1:Nat):Int)) Z Z (wrN (by omega)) Z Z (xai Z (dI (xmi Z (TL.add (((k2+1:Nat):Int)) Z Z (wrN (by omega)) Z Z (xai Z (TL.done ?_))))))))
 refine TQ.roundK ((k1+1,k2+1,_)) ⟨⟨(show k2+1<=n - k by omega),hI2.yes (by omega) (by rw [show k+k2 - 1=k+(k2 - 1) by omega]; assumption)⟩,(show n - (k2+1)<n - k2 by omega)⟩ ⟨Z,Z,Zt⟩ ⟨Z,Zt⟩ (kE2 Z Z Zt) Zt
 refine TL.done (TQ.then (TC.condF Z (TC.skip (TQ.inBlock (TQ.then (TC.region (xmi Z (TL.add (((k2+1:Nat):Int)) Z Z (wrN (by omega)) Z Z ?_))))))))
 refine xai Z (TL.done (TQ.roundK ((k1,k2+1,D)) ⟨⟨(show k2+1<=n - k by omega),hI2.no (by rw [show k+k2 - 1=k+(k2 - 1) by omega]; exact Decidable.not_not.1 (by assumption))⟩,(show n - (k2+1)<n - k2 by omega)⟩ ⟨Z,Z,Zt⟩ ⟨Z,Zt⟩ (kE2 Z Z Zt) Zt))
 refine dE Z (TC.seq (TC.ownS 0 (sz:=n) (hI2.sz.trans hsz) Z (fun a7 g7 c7 hv7 hc7 ha7=>?_)))
 simp only [Value.slice.injEq] at hv7
 obtain ⟨rfl,_,rfl⟩:=hv7
 obtain ⟨rfl,_⟩:=Addr.mk.inj (Option.some.inj (ha7 (by omega)))
 refine TC.region (xms Z (xmi Z (TL.slLo Z Z zah (by omega) Z Z (TL.clr 0 (i:=k1) Z (fun h=>zfI (fun _=>Z) hc8 h) (by omega) (hI2.sz.trans hsz) Z zah zfT ⟨Z,Z⟩ Z Z Zt (dA (xms Z (xmi Z (TL.slHi Z Z zah (by omega) Z Z ?_))))))))
 refine xas Z (dR (TQ.blockRet (TQ.thenRet (TQ.thenRet (TQ.blockRet (TQ.thenRet ?_))))))
 first | refine TQ.conseq 0 (B:=rowS _ d) Z (fun _ h=>zev h) ?_ | refine TQ.conseq 0 (B:=rowS (.slice (slA (some ⟨g8,0,none⟩) 0 1 c) k1 c) (D.extract 0 k1)) Z (fun _ h=>znI (by rw [Array.size_extract]; omega) (by omega) (fun h9=>by simpa using zfI (size:=1) (fun _=>Z) hc8 (i:=0) (by omega)) h) ?_
 refine FQ.ret1 (v:=(.slice _ _ _)) (Bs:=[_]) [0] Z Z Z ⟨Z,Zt⟩ ?_
 have h9:=(hI2.fin (by omega)).2
 rw [hsz] at h9
 exact ⟨_,Z,h9⟩
 refine TL.done (TQ.then (TC.condF Z (TC.skip (TQ.inBlock (TQ.then (TC.region (xmi Z (TL.add (((k+1:Nat):Int)) Z Z (wrN (by omega)) Z Z ?_))))))))
 refine xai Z (TL.done (TQ.roundK (k+1) ⟨⟨by omega,by omega,hA.step (by assumption)⟩,by omega⟩ ⟨Z,Zt⟩ Zt (kE1 Z Zt) (kL1 Z Zt)))
 refine dE Z (sA (xms Z (xas Z (dR ?_))))
 first | refine TQ.conseq 0 (B:=rowS _ d) Z (fun _ h=>zev h) ?_ | refine TQ.conseq 0 (B:=rowS (.slice (slA (some ⟨g8,0,none⟩) 0 1 c) k1 c) (D.extract 0 k1)) Z (fun _ h=>znI (by rw [Array.size_extract]; omega) (by omega) (fun h9=>by simpa using zfI (size:=1) (fun _=>Z) hc8 (i:=0) (by omega)) h) ?_
 refine FQ.ret1 (v:=(.slice _ _ _)) (Bs:=[_]) [0] Z Z Z ⟨Z,Zt⟩ ?_
 obtain rfl:k=n:=by omega
 exact ⟨d,Z,by rw [<-hsz]; exact (show CpA d d.size by rw [hsz]; exact hA).all⟩
theorem zuB {ab mb:Nat} {σ:Array UInt64} {i:Int} (h:0<=i/\i<σ.size):FnD Tryz.prog 23 [.pointer (some ⟨ab,0,none⟩),.int .i64 i] [zal ab mb 139 29 (σ)] (.tuple #[.int .u64 (MemLike.get σ i),.int .i64 0]) [zal ab mb 139 29 (σ)]:=by have:=ziU (ab:=ab) (mb:=mb) (σ:=σ) (i:=i); rwa [Zp h] at this
theorem zuA {ab mb:Nat} {σ:Array UInt64} {i:Int} (h:¬(0<=i/\i<σ.size)):FnD Tryz.prog 23 [.pointer (some ⟨ab,0,none⟩),.int .i64 i] [zal ab mb 139 29 (σ)] (.tuple #[.int .u64 (MemLike.get σ i),.int .i64 20]) [zal ab mb 139 29 (σ)]:=by have:=ziU (ab:=ab) (mb:=mb) (σ:=σ) (i:=i); rwa [Zn h] at this
theorem zqU {ab mb:Nat} {σ:Array UInt64} {i v:Int} (hv:0<=v/\v<18446744073709551616) (h:0<=i/\i<σ.size):FnD Tryz.prog 17 [.pointer (some ⟨ab,0,none⟩),.int .i64 i,.int .u64 v] [zal ab mb 139 29 (σ)] (.int .i64 0) [zal ab mb 139 29 (MemLike.st σ i v)]:=by have:=ze6 (ab:=ab) (mb:=mb) (σ:=σ) (i:=i) hv; rwa [Zp h] at this
theorem zqT {ab mb:Nat} {σ:Array UInt64} {i v:Int} (hv:0<=v/\v<18446744073709551616) (h:¬(0<=i/\i<σ.size)):FnD Tryz.prog 17 [.pointer (some ⟨ab,0,none⟩),.int .i64 i,.int .u64 v] [zal ab mb 139 29 (σ)] (.int .i64 20) [zal ab mb 139 29 (MemLike.st σ i v)]:=by have:=ze6 (ab:=ab) (mb:=mb) (σ:=σ) (i:=i) hv; rwa [Zn h] at this
theorem zxu {tb ab mb g c:Nat} {a:Option Addr} {σ:Tr} {i:Int} (ha:0<σ.row.size->a=some ⟨g,0,none⟩) (hac:σ.row.size<=c) (h:0<=i/\i<σ.mem.size) (hz:Room 1 σ):Go.Eng.Fn Tryz.prog 196 [.pointer (some ⟨tb,0,none⟩),.int .i64 i] [pt tb (.cells #[.pointer (some ⟨ab,0,none⟩),.slice a σ.row.size c] 264),zal ab mb 139 29 (σ.mem),ownA zav 3 34 (.slice a σ.row.size c) (σ.row)] (fun x Bs=>∃ v2,x=.int .u64 (MemLike.get σ i)/\Bs=[pt tb (.cells #[.pointer (some ⟨ab,0,none⟩),v2] 264),zal ab mb 139 29 ((MemLike.ld σ i).mem),ownA zav 3 34 (v2) ((MemLike.ld σ i).row)]):=by
 have hs2:MemLike.ld σ i=⟨σ.mem,σ.row++#[⟨false,i,MemLike.get σ.mem i⟩]⟩:=by rw [zkc,Zp h]
 refine Fn.enter (Tryz.func196) Z Z (fun w0 R=>?_)
 refine sA (xai Z (dA (xmp Z (xN0 Z (xf 0 zfn Z (xlp 0 zdU Z Z (xmi Z (xD [1] (zuB h) zpL Z ?_))))))))
 refine xmu Z (xei Z Z (xei Z Z (xai Z (xai Z (dB (xmi Z (TL.cmpT Z Z Z (by decide) Z Z (TL.done ?_))))))))
 refine TQ.then (TC.condT Z (TC.region (xmp Z (xmp Z (xN0 Z (xf 1 zdp Z (xls 0 zcf Z Z (xmi Z ?_))))))))
 refine xmi Z (TL.bld [.bool false,.int .i64 0,.int .u64 0] [(.int _ _),(.int _ _)] [_,_,_] zeB zwU ⟨Z,Z,Zt⟩ ⟨Z,Z⟩ Z Z (TL.bsN 3 [_] (zav ⟨false,i,MemLike.get σ.mem i⟩) zam zeB ⟨Z,Zt⟩ Z (lit1 Z) Z Z (fun bk3=>⟨Zt,?_⟩)))
 refine TL.appS 2 3 (d2:=#[(⟨false,i,MemLike.get σ.mem i⟩:Acc)]) Z (Z) Z (fun _=>Z) Z Z (row1 Z) zcH (by decide) zca (by have:=zcR.1 hz; simp; omega) Z Z (fun v4=>⟨Zt,?_⟩)
 refine TL.ownW 2 Z (fun a9 g9 c9 hv9 _ _=>?_)
 cases hv9
 refine xN0 Z (xf 1 zdp Z (TL.st 0 #[_,_] _ Z Z Z Z Z Z zcf Z Z Zt (dA (xmi Z (xai Z (dR ?_))))))
 refine FQ.ret1 (v:=(.int _ _)) (Bs:=[_,_,_]) [0,1,2] Z Z Z ⟨Z,Z,Z,Zt⟩ ?_
 rw [hs2]; exact ⟨_,Z,Z⟩
theorem zxt {tb ab mb g c:Nat} {a:Option Addr} {σ:Tr} {i:Int} (ha:0<σ.row.size->a=some ⟨g,0,none⟩) (hac:σ.row.size<=c) (h:¬(0<=i/\i<σ.mem.size)) (hz:Room 1 σ):Go.Eng.Fn Tryz.prog 196 [.pointer (some ⟨tb,0,none⟩),.int .i64 i] [pt tb (.cells #[.pointer (some ⟨ab,0,none⟩),.slice a σ.row.size c] 264),zal ab mb 139 29 (σ.mem),ownA zav 3 34 (.slice a σ.row.size c) (σ.row)] (fun x Bs=>∃ v2,x=.int .u64 (MemLike.get σ i)/\Bs=[pt tb (.cells #[.pointer (some ⟨ab,0,none⟩),v2] 264),zal ab mb 139 29 ((MemLike.ld σ i).mem),ownA zav 3 34 (v2) ((MemLike.ld σ i).row)]):=by
 have hs2:MemLike.ld σ i=σ:=by rw [zkc,Zn h]
 refine Fn.enter (Tryz.func196) Z Z (fun w0 R=>?_)
 refine sA (xai Z (dA (xmp Z (xN0 Z (xf 0 zfn Z (xlp 0 zdU Z Z (xmi Z (xD [1] (zuA h) zpL Z ?_))))))))
 refine xmu Z (xei Z Z (xei Z Z (xai Z (xai Z (dB (xmi Z (TL.cmpF Z Z Z (by decide) Z Z (dF Z ?_))))))))
 refine xmi Z (xai Z (dR ?_))
 refine FQ.ret1 (v:=(.int _ _)) (Bs:=[_,_,_]) [0,1,2] Z Z Z ⟨Z,Z,Z,Zt⟩ ?_
 rw [hs2]; exact ⟨_,Z,Z⟩
theorem zu0 {tb ab mb g c:Nat} {a:Option Addr} {σ:Tr} {i:Int} (ha:0<σ.row.size->a=some ⟨g,0,none⟩) (hac:σ.row.size<=c) {y:Int} (hv:0<=y/\y<18446744073709551616) (h:0<=i/\i<σ.mem.size) (hz:Room 1 σ):Go.Eng.Fn Tryz.prog 200 [.pointer (some ⟨tb,0,none⟩),.int .i64 i,.int .u64 y] [pt tb (.cells #[.pointer (some ⟨ab,0,none⟩),.slice a σ.row.size c] 264),zal ab mb 139 29 (σ.mem),ownA zav 3 34 (.slice a σ.row.size c) (σ.row)] (fun x Bs=>∃ v2,x=.tuple #[]/\Bs=[pt tb (.cells #[.pointer (some ⟨ab,0,none⟩),v2] 264),zal ab mb 139 29 ((MemLike.st σ i y).mem),ownA zav 3 34 (v2) ((MemLike.st σ i y).row)]):=by
 have hs2:MemLike.st σ i y=⟨MemLike.st σ.mem i y,σ.row++#[⟨true,i,y⟩]⟩:=by rw [zkb,Zp h]
 refine Fn.enter (Tryz.func200) Z Z (fun w0 R=>?_)
 refine sA (xmp Z (xN0 Z (xf 0 zfn Z (xlp 0 zdU Z Z (xmi Z (xmi Z (xD [1] (zqU hv h) zkO Z (TL.cmpT Z Z Z (by decide) Z Z ?_))))))))
 refine TL.done (TQ.then (TC.condT Z (TC.region (xmp Z (xmp Z (xN0 Z (xf 1 zdp Z (xls 0 zcf Z Z ?_))))))))
 refine xmi Z (xmi Z (TL.bld [.bool false,.int .i64 0,.int .u64 0] [(.bool true),(.int _ _),(.int _ _)] [_,_,_] zeB zwU ⟨Z,Z,Z,Zt⟩ ⟨Z,Z⟩ Z Z (TL.bsN 3 [_] (zav ⟨true,i,y⟩) zam zeB ⟨Z,Zt⟩ Z (lit1 Z) Z Z (fun bk3=>⟨Zt,?_⟩))))
 refine TL.appS 2 3 (d2:=#[(⟨true,i,y⟩:Acc)]) Z (Z) Z (fun _=>Z) Z Z (row1 Z) zcH (by decide) zca (by have:=zcR.1 hz; simp; omega) Z Z (fun v4=>⟨Zt,?_⟩)
 refine TL.ownW 2 Z (fun a9 g9 c9 hv9 _ _=>?_)
 cases hv9
 refine xN0 Z (xf 1 zdp Z (TL.st 0 #[_,_] _ Z Z Z Z Z Z zcf Z Z Zt (TL.done ?_)))
 refine FQ.end0 (Bs:=[_,_,_]) [0,1,2] Z Z ⟨Z,Z,Z,Zt⟩ ?_
 rw [hs2]; exact ⟨_,Z,Z⟩
theorem zuZ {tb ab mb g c:Nat} {a:Option Addr} {σ:Tr} {i:Int} (ha:0<σ.row.size->a=some ⟨g,0,none⟩) (hac:σ.row.size<=c) {y:Int} (hv:0<=y/\y<18446744073709551616) (h:¬(0<=i/\i<σ.mem.size)) (hz:Room 1 σ):Go.Eng.Fn Tryz.prog 200 [.pointer (some ⟨tb,0,none⟩),.int .i64 i,.int .u64 y] [pt tb (.cells #[.pointer (some ⟨ab,0,none⟩),.slice a σ.row.size c] 264),zal ab mb 139 29 (σ.mem),ownA zav 3 34 (.slice a σ.row.size c) (σ.row)] (fun x Bs=>∃ v2,x=.tuple #[]/\Bs=[pt tb (.cells #[.pointer (some ⟨ab,0,none⟩),v2] 264),zal ab mb 139 29 ((MemLike.st σ i y).mem),ownA zav 3 34 (v2) ((MemLike.st σ i y).row)]):=by
 have hs2:MemLike.st σ i y=σ:=by rw [zkb,Zn h]
 refine Fn.enter (Tryz.func200) Z Z (fun w0 R=>?_)
 refine sA (xmp Z (xN0 Z (xf 0 zfn Z (xlp 0 zdU Z Z (xmi Z (xmi Z (xD [1] (zqT hv h) zkO Z (TL.cmpF Z Z Z (by decide) Z Z ?_))))))))
 refine TL.done (TQ.then (TC.condF Z (TC.skip ?_)))
 refine FQ.end0 (Bs:=[_,_,_]) [0,1,2] Z Z ⟨Z,Z,Z,Zt⟩ ?_
 rw [hs2,zj6,Zn h]; exact ⟨_,Z,Z⟩
theorem zoU {tb ab mb:Nat} {σ:Tr} {i:Int} (hz:Room 1 σ):FnD Tryz.prog 196 [.pointer (some ⟨tb,0,none⟩),.int .i64 i] [zbl tb ab mb 264 139 29 34 (σ)] (.int .u64 (MemLike.get σ i)) [zbl tb ab mb 264 139 29 34 (MemLike.ld σ i)] :=
 Fn.traceX fun a g c ha hac=>by
  by_cases h:0<=i/\i<σ.mem.size
  ·exact Go.Eng.Fn.mono (zxu ha hac h hz) fun v Bs ⟨v2,h1,h2⟩=>⟨v2,_,[],h2,h1,Z⟩
  ·exact Go.Eng.Fn.mono (zxt ha hac h hz) fun v Bs ⟨v2,h1,h2⟩=>⟨v2,_,[],h2,h1,Z⟩
theorem zmj {tb ab mb:Nat} {σ:Tr} {i y:Int} (hv:0<=y/\y<18446744073709551616) (hz:Room 1 σ):FnD Tryz.prog 200 [.pointer (some ⟨tb,0,none⟩),.int .i64 i,.int .u64 y] [zbl tb ab mb 264 139 29 34 (σ)] (.tuple #[]) [zbl tb ab mb 264 139 29 34 (MemLike.st σ i y)] :=
 Fn.traceX fun a g c ha hac=>by
  by_cases h:0<=i/\i<σ.mem.size
  ·exact Go.Eng.Fn.mono (zu0 ha hac hv h hz) fun v Bs ⟨v2,h1,h2⟩=>⟨v2,_,[],h2,h1,Z⟩
  ·exact Go.Eng.Fn.mono (zuZ ha hac hv h hz) fun v Bs ⟨v2,h1,h2⟩=>⟨v2,_,[],h2,h1,Z⟩
theorem zd9 {tb ab mb:Nat}:MemI (S:=Tr) Tryz.prog 186 (.pointer (some ⟨tb,0,none⟩)) (zbl tb ab mb 264 139 29 34) :=
 ⟨⟨196,_,ziF (by kernel_rfl) (by kernel_rfl),fun _ _ hz=>zoU hz⟩,⟨200,_,ziF (by kernel_rfl) (by kernel_rfl),fun _ _ _ hv hz=>zmj hv hz⟩⟩
theorem znf {a:Option Addr} {b off n c:Nat} {A:Assn} {f:Nat->Acc} (ha:0<n->a=some ⟨b,off,none⟩) (hn:n<=137438953471) (hA:zbj A zav 3 b off n f):Go.Eng.Fn Tryz.prog 83 [.slice a n c] [A] (fun v Bs=>Bs=[A,ownA zav 3 34 v ((List.range n).map f).toArray]):=by
 refine Fn.enter (Tryz.func83) Z Z (fun w0 R=>?_)
 refine sA (TL.asg (.slice none 0 0) rfl rfl rfl (dB (xms rfl (TL.nilS rfl rfl zam rfl rfl (TL.cases rfl (fun q1=>?_) (fun q1=>?_))))))
 refine TL.done (TQ.then (TC.condT Z (TC.seq ?_)))
 obtain rfl:n=0:=by
   rcases Nat.eq_zero_or_pos n with h | h
   ·exact h
   ·rw [ha h] at q1; simp at q1
 refine TC.nilA 1 (A:=ownA zav 3 34 (.slice none 0 0) ((List.range 0).map f).toArray) (.inl ⟨Z,Z⟩) (TC.region (TL.asg (.slice none 0 0) Z Z Z (dRR ?_)))
 refine FQ.ret1 (v:=(.slice none 0 0)) (Bs:=[A,_]) [0,1] Z Z Z ⟨Z,Z,Zt⟩ ?_
 rfl
 refine dF Z (TL.bs0 2 zav zam Z Z (fun bk2=>⟨Zt,?_⟩))
 refine xms Z ?_
 obtain ⟨ad,rfl⟩:∃ ad,a=some ad:=Option.ne_none_iff_exists'.1 (by rintro rfl; simp at q1)
 refine TL.appS 2 0 (d2:=((List.range n).map f).toArray) Z (zeu f n) Z (ha) Z Z (hA.congr fun i hi=>(zle f hi).symm) zcH (by decide) zca (by rw [zeu]; show 0+n<=137438953472; omega) Z Z (fun v3=>⟨Zt,?_⟩)
 refine TL.conseq 2 (B:=ownA zav 3 34 v3 ((List.range n).map f).toArray) Z (fun h hh=>by simpa using hh) Zt (xav Z (dR ?_))
 refine FQ.ret1 (v:=_) (Bs:=[A,_]) [0,2] Z Z Z ⟨Z,Z,Zt⟩ ?_
 rfl
theorem zzR {tb ab mb g c:Nat} {a:Option Addr} {σ:Tr} (ha:0<σ.row.size->a=some ⟨g,0,none⟩) (hac:σ.row.size<=c) (hz:Room 0 σ):Go.Eng.Fn Tryz.prog 152 [.pointer (some ⟨tb,0,none⟩)] [pt tb (.cells #[.pointer (some ⟨ab,0,none⟩),.slice a σ.row.size c] 264),zal ab mb 139 29 (σ.mem),ownA zav 3 34 (.slice a σ.row.size c) (σ.row)] (fun x Bs=>Bs=[pt tb (.cells #[.pointer (some ⟨ab,0,none⟩),.slice a σ.row.size c] 264),zal ab mb 139 29 (σ.mem),ownA zav 3 34 (.slice a σ.row.size c) (σ.row),ownA zav 3 34 (x) (σ.row)]):=by
 refine Fn.enter (Tryz.func152) Z Z (fun w0 R=>?_)
 refine sA (TL.asg (.slice none 0 0) Z Z Z (dA (xmp Z (xN0 Z (xf 1 zdp Z (xls 0 zcf Z Z (TL.call [2] [2,3] (znf (f:=fun i=>σ.row[i]!) ha (by have:=zcR.1 hz; omega) (zaP ha)) ⟨Z,Zt⟩ ⟨Z,Zt⟩ zwX Z Z Z Z ?_)))))))
 rintro v Bs rfl
 refine ⟨Z,Zt,?_⟩
 refine xav Z (dR ?_)
 refine FQ.ret1 (v:=_) (Bs:=[_,_,_,_]) [0,1,2,3] Z Z Z ⟨Z,Z,Z,Z,Zt⟩ ?_
 rw [ziz]
theorem znw {tb ab mb:Nat} {σ:Tr} (hz:Room 0 σ):Go.Eng.Fn Tryz.prog 152 [.pointer (some ⟨tb,0,none⟩)] [zbl tb ab mb 264 139 29 34 (σ)] (fun x Bs=>Bs=[zbl tb ab mb 264 139 29 34 (σ),ownA zav 3 34 (x) (σ.row)]) :=
 Fn.traceX fun a g c ha hac=>Go.Eng.Fn.mono (zzR ha hac hz) fun v Bs h=>⟨_,σ,[ownA zav 3 34 (v) (σ.row)],h,Z⟩
theorem zxX {ab mb:Nat} {σ:Array UInt64} {c:Cnt} (h0:0<σ.size) (h1:σ.size<=20000):Go.Eng.Fn Tryz.prog 149 [.pointer (some ⟨ab,0,none⟩)] [arenaC ab mb 139 29 (σ) (c)] (fun x Bs=>∃ tb ab2 mb2,x=.pointer (some ⟨tb,0,none⟩)/\Bs=[arenaC ab mb 139 29 (σ) (c),zbl tb ab2 mb2 264 139 29 34 (⟨σ,#[]⟩)]):=by
 refine Fn.enter (Tryz.func149) Z Z (fun w0 R=>?_)
 refine sA (TL.asg (.pointer none) Z Z Z (dS (TC.nilA 1 (A:=ownA zav 3 34 (.slice none 0 0) (#[])) (.inl ⟨Z,Z⟩) (TC.region (xmp Z (TL.call [0] [0,2] (zj9 h0 h1) ⟨Z,Zt⟩ ⟨Z,Zt⟩ ztb Z Z Z Z ?_))))))
 rintro v Bs ⟨ab2,mb2,rfl,rfl⟩
 refine ⟨Z,Zt,?_⟩
 refine TL.bld [.pointer none,.slice none 0 0] [(.pointer (some ⟨_,_,none⟩))] [_,_] zyt zyA ⟨Z,Zt⟩ ⟨Z,Z⟩ Z Z (xB 3 Z (fun bk3=>(xap Z (dR (TQ.close 2 1 (star (zal _ _ 139 29 (σ)) (ownA zav 3 34 (.slice none 0 0) (#[]))) (by decide) Z Z (fun _ _ _ s1 s2 hd h1 h2=>⟨_,_,s1,s2,hd,⟨_,h1⟩,h2⟩) (TQ.close 3 2 (zbl _ _ _ 264 139 29 34 (⟨σ,#[]⟩)) (by decide) Z Z (fun _ _ _ s1 s2 hd h1 h2=>⟨_,_,_,s1,s2,hd,h1,h2⟩) ?_))))))
 refine FQ.ret1 (v:=(.pointer (some ⟨_,_,none⟩))) (Bs:=[_,_]) [0,3] Z Z Z ⟨Z,Z,Zt⟩ ?_
 exact ⟨_,_,_,Z,Z⟩
theorem zsL {a:Option Addr} {b off n c:Nat} {A:Assn} {d:Array Int} {v:Int} (ha:0<n->a=some ⟨b,off,none⟩) (hn:n<=137438953472) (hsz:d.size=n) (hA:zbj A Tm.encI 1 b off n (fun i=>d[i]!))  : Go.Eng.Fn Tryz.prog 230 [.slice a n c,.int .i64 v] [A] (fun x Bs=>∃ k:Int,x=.int .i64 k/\Bs=[A]/\decide (0<=k)=decide (v∈d.toList)):=by
 refine Fn.enter (Tryz.func230) Z Z (fun w0 R=>?_)
 refine sA (xai Z (dB (xms Z (xz zah Z (xmi Z (dK (TC.loopK (X:=Nat) [0,1,7] [0] (fun i=>[(8,.int .i64 ((i:Nat):Int))]) (fun i=>[]) (fun i=>i<=n/\∀ j,j<i->d[j]!≠v) (fun i=>n - i) (0) ⟨Nat.zero_le _,fun j hj=>absurd hj (Nat.not_lt_zero _)⟩ ⟨Z,Zt⟩ Zt (fun i hI=>?_))))))))
 obtain ⟨hi,hj⟩:=hI
 refine TC.sub (env':=[(8,_),(0,_),(1,_),(7,_)]) (L':=[(0,_)]) ⟨Z,Z,Z,Z,Zt⟩ ⟨Z,Zt⟩ (sA (TL.lss Z Z Z Z (fun q1=>?_) (fun q1=>?_)))
 refine dS (TC.condT Z (TC.skip (TQ.then (TC.seq (TC.block (sA (xmi Z (xai Z ?_))))))))
 refine dA (xmi Z (xms Z (xmi Z (TL.iaO Z ha Z zah (by omega) Z Z (TL.ldRS 0 (.int _ _) Z Z hA (by omega) (Z) zad Z Z (TL.eql Z Z Z Z (fun q2=>?_) (fun q2=>?_)))))))
 refine dT Z (xmi Z (xai Z (dR (TQ.blockRet (TQ.thenRet (TQ.thenRet (TQ.blockRet (TQ.thenRet ?_))))))))
 refine FQ.ret1 (v:=(.int _ _)) (Bs:=[A]) [0] Z Z Z ⟨Z,Zt⟩ ?_
 exact ⟨_,Z,Z,by rw [decide_eq_true (by omega),decide_eq_true (zl6 (i:=i) (by omega) (by first | exact q2.symm | exact q1.symm | simp_all))]⟩
 refine TL.done (TQ.then (TC.condF Z (TC.skip (TQ.inBlock (TQ.then (TC.region (TL.add (((i+1:Nat):Int)) Z Z (wrN (by omega)) Z Z (xmi Z ?_))))))))
 refine TL.done (TQ.roundK (i+1) ⟨⟨by omega,zx7 hj (by first | exact fun h=>q2 h.symm | exact fun h=>q1 h.symm)⟩,by omega⟩ ⟨Z,Zt⟩ Zt (kE3 Z Z Z Zt) (kL1 Z Zt))
 refine dS (TC.condF Z (TC.exit (TQ.thenExit (TQ.thenExit (TQ.blockHere (TQ.then (sA (xai Z ?_))))))))
 refine dR ?_
 refine FQ.ret1 (v:=(.int _ _)) (Bs:=[A]) [0] Z Z Z ⟨Z,Zt⟩ ?_
 exact ⟨_,Z,Z,by rw [decide_eq_false (by omega),decide_eq_false (zp3 hsz fun j h=>hj j (by omega))]⟩
theorem zne {a:Option Addr} {b off n c:Nat} {A:Assn} {d:Array Int} {v:Int} (ha:0<n->a=some ⟨b,off,none⟩) (hn:n<=137438953472) (hsz:d.size=n) (hA:zbj A Tm.encI 1 b off n (fun i=>d[i]!))  : FnD Tryz.prog 199 [.slice a n c,.int .i64 v] [A] (.bool (decide (v∈d.toList))) [A]:=by
 refine Fn.enter (Tryz.func199) Z Z (fun w0 R=>?_)
 refine sA (xaf Z (dA (xms Z (xmi Z (TL.call [0] [0] (zsL ha hn hsz hA) ⟨Z,Z,Zt⟩ ⟨Z,Zt⟩ zyV Z Z Z Z ?_)))))
 rintro x Bs ⟨k,rfl,rfl,hk⟩
 refine ⟨Z,Zt,?_⟩
 refine TL.geqV Z Z Z Z (xab Z (dR ?_))
 refine FQ.ret1 (v:=(.bool _)) (Bs:=[A]) [0] Z Z Z ⟨Z,Zt⟩ ?_
 exact ⟨by rw [<-hk],Z⟩
theorem zvG {x:Int}:FnD Tryz.prog 226 [.int .i64 x] [] (.bool false) []:=by
 refine Fn.enter (Tryz.func226) Z Z (fun w0 R=>?_)
 refine sA (xaf Z (dA (xmi Z (xmi Z (TL.neqV Z Z Z Z (xab Z (dR ?_)))))))
 refine FQ.ret1 (v:=(.bool _)) (Bs:=[]) [] Z Z Z Zt ?_
 first | exact ⟨congrArg Value.bool (decide_eq_false (by omega)),Z⟩ | exact ⟨Z,Z⟩ | exact ⟨by simp,Z⟩
theorem zsJ {x:Int}:FnD Tryz.prog 252 [.int .i64 x] [] (.bool false) []:=by
 refine Fn.enter (Tryz.func252) Z Z (fun w0 R=>?_)
 refine sA (xaf Z (dA (xmi Z (xmi Z (TL.neqV Z Z Z Z (xab Z (dR ?_)))))))
 refine FQ.ret1 (v:=(.bool _)) (Bs:=[]) [] Z Z Z Zt ?_
 first | exact ⟨congrArg Value.bool (decide_eq_false (by omega)),Z⟩ | exact ⟨Z,Z⟩ | exact ⟨by simp,Z⟩
theorem zv3 {x y:Int}:FnD Tryz.prog 225 [.int .i64 x,.int .i64 y] [] (.bool (decide (x<y))) []:=by
 refine Fn.enter (Tryz.func225) Z Z (fun w0 R=>?_)
 refine sA (xaf Z (dA (xmi Z (xD [] zsJ zyR Z (xmf Z (xo Z (xo Z (xo Z ?_))))))))
 refine xpF Z (xmf Z (xmi Z (xmi Z (TL.lssV Z Z Z Z (TL.pickF (.bool _) Z Z Z Z (xab Z (dR ?_)))))))
 refine FQ.ret1 (v:=(.bool _)) (Bs:=[]) [] Z Z Z Zt ?_
 first | exact ⟨Z,Z⟩ | exact ⟨by simp [*],Z⟩
theorem zkT {a:Option Addr} {b off n c:Nat} {A:Assn} {d:Array Int} {v:Int} (ha:0<n->a=some ⟨b,off,none⟩) (hn:n<=137438953472) (hsz:d.size=n) (hA:zbj A Tm.encI 1 b off n (fun i=>d[i]!)) (hs:∀ k j,k<=j->j<n->d[k]!<=d[j]!)  : Go.Eng.Fn Tryz.prog 194 [.slice a n c,.int .i64 v] [A] (fun x Bs=>∃ k:Int,x=.tuple #[.int .i64 k,.bool (decide (v∈d.toList))]/\Bs=[A]):=by
 refine Fn.enter (Tryz.func194) Z Z (fun w0 R=>?_)
 refine sA (xai Z (xaf Z (dA (xms Z (xz zah Z (xai Z (dA (xmi Z ?_))))))))
 refine xai Z (xai Z (dS (TC.block (TC.loopK (X:=Nat×Nat) [0,1,4,5,6] [0] (fun ⟨i,j⟩=>[(7,.int .i64 ((i:Nat):Int)),(8,.int .i64 ((j:Nat):Int))]) (fun ⟨i,j⟩=>[]) (fun ⟨i,j⟩=>i<=j/\j<=n/\(∀ k,k<i->d[k]!<v)/\(∀ k,j<=k->k<n->v<=d[k]!)) (fun ⟨i,j⟩=>j - i) ((0,n)) ⟨Nat.zero_le _,Nat.le_refl _,fun k hk=>absurd hk (Nat.not_lt_zero _),fun k h1 h2=>absurd h2 (by omega)⟩ ⟨Z,Z,Zt⟩ Zt (fun y hI=>?_)))))
 obtain ⟨i,j⟩:=y
 obtain ⟨hij,hjn,hlo,hhi⟩:=hI
 refine TC.sub (env':=[(7,_),(8,_),(0,_),(1,_),(4,_),(5,_),(6,_)]) (L':=[(0,_)]) ⟨Z,Z,Z,Z,Z,Z,Z,Zt⟩ ⟨Z,Zt⟩ (sB (xmi Z (xmi Z (TL.lss Z Z Z Z (fun q1=>?_) (fun q1=>?_)))))
 refine TL.done (TQ.then (TC.condT Z (TC.skip (TQ.then (TC.block (sA (xmi Z (xmi Z ?_))))))))
 refine TL.add (((i+j:Nat):Int)) Z Z (wrN (by omega)) Z Z (TL.conv _ Z zgr zjD (zuJ (by omega)) Z Z (TL.shr (((((i+j) / 2):Nat):Int)) Z Z (by omega) (by exact shr1 _) Z Z (TL.conv _ Z zyz zaQ (wr64 (by omega)) Z Z (xai Z (dA (xms Z (xmi Z (TL.iaO Z ha Z zah (by omega) Z Z ?_))))))))
 refine TL.ldRS 0 (.int _ _) rfl rfl hA (by omega) (rfl) zad rfl rfl (xmi rfl (xD [] zv3 zyX rfl (TL.cases rfl (fun q2=>?_) (fun q2=>?_))))
 refine TL.done (TQ.then (TC.condT Z (TC.region (xmi Z (TL.add (((((i+j) / 2)+1:Nat):Int)) Z Z (wrN (by omega)) Z Z (xai Z (TL.done (TQ.inBlock ?_))))))))
 refine TQ.roundK ((((i+j) / 2)+1,j)) ⟨⟨(show ((i+j) / 2)+1<=j by omega),hjn,bs_lo hs (show ((i+j) / 2)<n by omega) (by first | exact of_decide_eq_true q2 | exact q2),hhi⟩,(show j - (((i+j) / 2)+1)<j - i by omega)⟩ ⟨Z,Z,Zt⟩ Zt (kE5 Z Z Z Z Z Zt) (kL1 Z Zt)
 refine TL.done (TQ.then (TC.condF Z (TC.region (xmi Z (xai Z (TL.done (TQ.inBlock (TQ.roundK ((i,((i+j) / 2))) ⟨⟨(show i<=((i+j) / 2) by omega),(show ((i+j) / 2)<=n by omega),hlo,bs_hi hs (by first | exact of_decide_eq_false q2 | exact q2)⟩,(show ((i+j) / 2) - i<j - i by omega)⟩ ⟨Z,Z,Zt⟩ Zt (kE5 Z Z Z Z Z Zt) (kL1 Z Zt)))))))))
 refine dE Z (sA (xmi Z (xmi Z (xmi Z (TL.lss Z Z Z Z (fun q2=>?_) (fun q2=>?_))))))
 refine xmt Z (xms Z (xmi Z (TL.iaO Z ha Z zah (by omega) Z Z (TL.ldRS 0 (.int _ _) Z Z hA (by omega) (Z) zad Z Z (xmi Z (TL.eql Z Z Z Z (fun q3=>?_) (fun q3=>?_)))))))
 refine xmt Z (xo Z (xo Z (xo Z (xo Z (xo Z (xo Z (xo Z (xo Z ?_))))))))
 refine xo Z (xpT Z (xpT Z (xai Z (xat Z (dR ?_)))))
 refine FQ.ret2 (v:=(.int _ _)) (x:=(.bool true)) (Bs:=[A]) [0] Z Z Z Z ⟨Z,Zt⟩ ?_
 obtain rfl:i=j:=by omega
 exact ⟨_,by rw [decide_eq_true (zAZ hsz (i:=i) (by omega) (by omega))],Z⟩
 refine xmf Z (xms Z (xmi Z (TL.iaO Z ha Z zah (by omega) Z Z (TL.ldRS 0 (.int _ _) Z Z hA (by omega) (Z) zad Z Z (xD [] zvG zyW Z (xmf Z (xo Z (xo Z ?_))))))))
 refine xpF Z (xpF Z (xpG Z (xai Z (xaf Z (dR ?_)))))
 refine FQ.ret2 (v:=(.int _ _)) (x:=(.bool false)) (Bs:=[A]) [0] Z Z Z Z ⟨Z,Zt⟩ ?_
 obtain rfl:i=j:=by omega
 exact ⟨_,by rw [decide_eq_false (zA0 hsz hlo hhi hs (fun _=>by omega))],Z⟩
 refine xmf Z (xo Z (xo Z (xo Z (xo Z (xo Z (xo Z (xo Z (xo Z ?_))))))))
 refine xo Z (xo Z (xo Z (xo Z (xo Z (xo Z (xo Z (xo Z (xo Z ?_))))))))
 refine xpF Z (xai Z (xaf Z (dR ?_)))
 refine FQ.ret2 (v:=(.int _ _)) (x:=(.bool false)) (Bs:=[A]) [0] Z Z Z Z ⟨Z,Zt⟩ ?_
 obtain rfl:i=j:=by omega
 exact ⟨_,by rw [decide_eq_false (zA0 hsz hlo hhi hs (fun _=>by omega))],Z⟩
def zmY:Go.Shelf.Ren:=⟨fun | 189=>224 | 125=>121 | 257=>251 | 128=>164 | 129=>165 | 294=>266 | 295=>267 | 296=>268 | 297=>269 | 298=>270 | 299=>271 | 216=>225 | 300=>272 | 301=>273 | 328=>279 | 329=>280 | 330=>281 | 331=>282 | 332=>283 | 215=>252 | 343=>284 | n=>n,fun | 28=>48 | 3=>3 | 46=>203 | 0=>0 | 51=>241 | 53=>29 | 4=>4 | 183=>299 | 182=>298 | 131=>146 | 5=>5 | 9=>9 | 218=>304 | 222=>142 | 228=>309 | 229=>247 | n=>n,fun | n=>n⟩
theorem zpB:Go.Proofs.Lays.n189 Tryz.prog zmY where
 mixed:=by kernel_rfl
 f125:=Tryz.func121.trans (congrArg some (by kernel_rfl))
 f128:=Tryz.func164.trans (congrArg some (by kernel_rfl))
 f129:=Tryz.func165.trans (congrArg some (by kernel_rfl))
 f189:=Tryz.func224.trans (congrArg some (by kernel_rfl))
 f215:=Tryz.func252.trans (congrArg some (by kernel_rfl))
 f216:=Tryz.func225.trans (congrArg some (by kernel_rfl))
 f257:=Tryz.func251.trans (congrArg some (by kernel_rfl))
 f294:=Tryz.func266.trans (congrArg some (by kernel_rfl))
 f295:=Tryz.func267.trans (congrArg some (by kernel_rfl))
 f296:=Tryz.func268.trans (congrArg some (by kernel_rfl))
 f297:=Tryz.func269.trans (congrArg some (by kernel_rfl))
 f298:=Tryz.func270.trans (congrArg some (by kernel_rfl))
 f299:=Tryz.func271.trans (congrArg some (by kernel_rfl))
 f300:=Tryz.func272.trans (congrArg some (by kernel_rfl))
 f301:=Tryz.func273.trans (congrArg some (by kernel_rfl))
 f328:=Tryz.func279.trans (congrArg some (by kernel_rfl))
 f329:=Tryz.func280.trans (congrArg some (by kernel_rfl))
 f330:=Tryz.func281.trans (congrArg some (by kernel_rfl))
 f331:=Tryz.func282.trans (congrArg some (by kernel_rfl))
 f332:=Tryz.func283.trans (congrArg some (by kernel_rfl))
 f343:=Tryz.func284.trans (congrArg some (by kernel_rfl))
 t0:=Tryz.underlying0
 a0:=Tryz.isAgg0
 z0:=Tryz.sizeOf0
 v0:=Tryz.zeroValue0
 t3:=Tryz.underlying3
 a3:=Tryz.isAgg3
 z3:=Tryz.sizeOf3
 v3:=Tryz.zeroValue3
 t4:=Tryz.underlying4
 a4:=Tryz.isAgg4
 z4:=Tryz.sizeOf4
 v4:=Tryz.zeroValue4
 t5:=Tryz.underlying5
 a5:=Tryz.isAgg5
 z5:=Tryz.sizeOf5
 v5:=Tryz.zeroValue5
 t9:=Tryz.underlying9
 a9:=Tryz.isAgg9
 z9:=Tryz.sizeOf9
 v9:=Tryz.zeroValue9
 t28:=Tryz.underlying48
 a28:=Tryz.isAgg48
 z28:=Tryz.sizeOf48
 v28:=Tryz.zeroValue48
 t46:=Tryz.underlying203
 a46:=Tryz.isAgg203
 z46:=Tryz.sizeOf203
 v46:=Tryz.zeroValue203
 t51:=Tryz.underlying241
 a51:=Tryz.isAgg241
 z51:=Tryz.sizeOf241
 v51:=Tryz.zeroValue241
 t53:=Tryz.underlying29
 a53:=Tryz.isAgg29
 z53:=Tryz.sizeOf29
 v53:=Tryz.zeroValue29
 t131:=Tryz.underlying146
 a131:=Tryz.isAgg146
 z131:=Tryz.sizeOf146
 v131:=Tryz.zeroValue146
 t182:=Tryz.underlying298
 a182:=Tryz.isAgg298
 z182:=Tryz.sizeOf298
 v182:=Tryz.zeroValue298
 t183:=Tryz.underlying299
 a183:=Tryz.isAgg299
 z183:=Tryz.sizeOf299
 v183:=Tryz.zeroValue299
 t218:=Tryz.underlying304
 a218:=Tryz.isAgg304
 z218:=Tryz.sizeOf304
 v218:=Tryz.zeroValue304
 t222:=Tryz.underlying142
 a222:=Tryz.isAgg142
 z222:=Tryz.sizeOf142
 v222:=Tryz.zeroValue142
 t228:=Tryz.underlying309
 a228:=Tryz.isAgg309
 z228:=Tryz.sizeOf309
 v228:=Tryz.zeroValue309
 t229:=Tryz.underlying247
 a229:=Tryz.isAgg247
 z229:=Tryz.sizeOf247
 v229:=Tryz.zeroValue247
theorem zu3 {e:Nat} {v:Value} {d:Array Int} (hn:d.size<4611686018427387904):FnD Tryz.prog 224 [v] [ownA Tm.encI 1 e v d] (.tuple #[]) [ownA Tm.encI 1 e v (srt d)] :=
 Go.Tm.Fn.sortI hn (fun blk off cap zs w=>Go.Proofs.Any.slices_Sort_int zpB blk off cap zs w) (fun p cap w=>Go.Proofs.Any.slices_Sort_int_none zpB p cap w)
theorem zzT {tb ab mb g c:Nat} {a:Option Addr} {σ:Tr} (ha:0<σ.row.size->a=some ⟨g,0,none⟩) (hac:σ.row.size<=c) (hz:Room 0 σ):Go.Eng.Fn Tryz.prog 192 [.pointer (some ⟨tb,0,none⟩)] [pt tb (.cells #[.pointer (some ⟨ab,0,none⟩),.slice a σ.row.size c] 264),zal ab mb 139 29 (σ.mem),ownA zav 3 34 (.slice a σ.row.size c) (σ.row)] (fun x Bs=>∃ d2,Bs=[pt tb (.cells #[.pointer (some ⟨ab,0,none⟩),.slice a σ.row.size c] 264),zal ab mb 139 29 (σ.mem),ownA zav 3 34 (.slice a σ.row.size c) (σ.row),rowS x d2]/\d2.toList=chgL σ.row):=by
 have hz9:=zcR.1 hz
 refine Fn.enter (Tryz.func192) Z Z (fun w0 R=>?_)
 refine sA (TL.asg (.slice none 0 0) Z Z Z (dA (TL.asg (.slice none 0 0) Z Z Z (dS (TC.seq (TC.nilA 3 (A:=ownA Tm.encI 1 3 (.slice none 0 0) #[]) (.inl ⟨Z,Z⟩) (TC.region (xmp Z ?_))))))))
 refine xN0 Z (xf 1 zdp Z (xls 0 zcf Z Z (xz zam Z (xmi Z (dK (TC.loopK (X:=Nat×Value) [2,9,10] [0,1,2] (fun ⟨k,v⟩=>[(11,.int .i64 ((k:Nat):Int)),(3,v)]) (fun ⟨k,v⟩=>[(3,ownA Tm.encI 1 3 v (zbQ σ.row k))]) (fun ⟨k,v⟩=>k<=σ.row.size) (fun ⟨k,v⟩=>σ.row.size - k) ((0,.slice none 0 0)) (Nat.zero_le _) ⟨Z,Z,Zt⟩ ⟨Z,Zt⟩ (fun y hI=>?_)))))))
 obtain ⟨k,v⟩:=y
 replace hI:k<=σ.row.size:=hI
 refine TC.sub (env':=[(11,_),(3,_),(2,_),(9,_),(10,_)]) (L':=[(3,_),(0,_),(1,_),(2,_)]) ⟨Z,Z,Z,Z,Z,Zt⟩ ⟨Z,Z,Z,Z,Zt⟩ (sA (TL.lss Z Z Z Z (fun q1=>?_) (fun q1=>?_)))
 refine dS (TC.condT Z (TC.skip (TQ.then (TC.seq (TC.block (sA (TL.iaO Z ha Z zam (by omega) Z Z (TL.ldR 2 Z Z (zaP ha) (by omega) zcs Z Z ?_))))))))
 refine TL.alloc 4 (cs:=#[.bool false,.int .i64 0,.int .u64 0]) zeB Z Z Z (fun _=>Zt) (fun bk4=>(TL.stW 4 3 [_,_,_] Z Z Z Z Z Z zcs Z Z Zt (dA (xf 0 zd8 Z (xlb 4 zd3 Z Z (TL.done (TQ.then (TC.cond Z (fun q2=>?_) (fun q2=>?_)))))))))
 refine TC.region (xmv Z (xf 1 zbT Z (xli 4 zad Z Z (TL.bsN 5 [_] (Tm.encI σ.row[k]!.cell) zah zfT ⟨Z,Zt⟩ Z (lit1 Z) Z Z (fun bk5=>⟨Zt,?_⟩)))))
 refine TL.appS 3 5 (d2:=#[σ.row[k]!.cell]) Z (Z) Z (fun _=>Z) Z Z (row1 Z) zdA (by decide) zch (by have:=zeK σ.row k; simp; omega) Z Z (fun v6=>⟨Zt,?_⟩)
 refine xav Z (dI (TL.add (((k+1:Nat):Int)) Z Z (wrN (by omega)) Z Z (xmi Z (TL.done (TQ.roundK ((k+1,_)) ⟨(show k+1<=σ.row.size by omega),(show σ.row.size - (k+1)<σ.row.size - k by omega)⟩ ⟨Z,Z,Zt⟩ ⟨congrArg (fun z=>some (ownA Tm.encI 1 3 _ z)) (znz (by assumption)),Zt⟩ (kE3 Z Z Z Zt) (kL3 Z Z Z Zt))))))
 refine TC.skip (TQ.inBlock (TQ.then (TC.region (TL.add (((k+1:Nat):Int)) Z Z (wrN (by omega)) Z Z (xmi Z (TL.done (TQ.roundK ((k+1,_)) ⟨(show k+1<=σ.row.size by omega),(show σ.row.size - (k+1)<σ.row.size - k by omega)⟩ ⟨Z,Z,Zt⟩ ⟨congrArg (fun z=>some (ownA Tm.encI 1 3 _ z)) (zqf (by assumption)),Zt⟩ (kE3 Z Z Z Zt) (kL3 Z Z Z Zt))))))))
 refine dS (TC.condF Z (TC.exit (TQ.thenExit (TQ.thenExit (TQ.blockHere (TQ.then (sA (xmv Z ?_))))))))
 refine xD [3] (zu3 (by have:=zeK σ.row k; omega)) zyY Z (TL.ownW 3 Z (fun a7 g7 c7 hv7 hc7 ha7=>?_))
 cases hv7
 refine dA (xmv Z (TL.call [3] [3] (zj0 (by rw [zer]; have:=zeK σ.row k; omega) Z) ⟨Z,Zt⟩ ⟨Z,Zt⟩ ztz Z Z Z Z ?_))
 rintro v Bs ⟨d2,rfl,hd2⟩
 refine ⟨Z,Zt,?_⟩
 refine xav Z (dR ?_)
 refine FQ.ret1 (v:=_) (Bs:=[_,_,_,_]) [0,1,2,3] Z Z Z ⟨Z,Z,Z,Z,Zt⟩ ?_
 obtain rfl:k=σ.row.size:=by omega
 exact ⟨d2,Z,by rw [hd2,zer]; rfl⟩
theorem ziW {l:Lay} (hl:l.Ok) {wb tb:Nat} {hv:Value} {p:Pen} {u v:Int}  : Go.Eng.Fn Tryz.prog 193 [.pointer (some ⟨wb,0,none⟩)] [zgo 198 wb tb 186 (hv) l p (u) (v)] (fun x Bs=>Bs=[zgo 198 wb tb 186 (hv) l p (u) (v),ownA Tm.encI 1 3 x (zax l l.nodes.toNat)]):=by
 have hnb:=zaB hl
 obtain ⟨N,hN⟩:∃ N:Nat,l.nodes=(N:Int):=⟨l.nodes.toNat,by have:=zct hl; omega⟩
 refine Fn.enter (Tryz.func193) Z Z (fun w0 R=>?_)
 refine sA (TL.asg (.slice none 0 0) Z Z Z (dA (TL.asg (.slice none 0 0) Z Z Z (dS (TC.seq (TC.nilA 1 (A:=ownA Tm.encI 1 3 (.slice none 0 0) #[]) (.inl ⟨Z,Z⟩) (TC.region (xai Z ?_))))))))
 refine dK (TC.loopK (X:=Nat×Value) [0,2] [0] (fun ⟨k,v⟩=>[(4,.int .i64 ((k+1:Nat):Int)),(3,v)]) (fun ⟨k,v⟩=>[(1,ownA Tm.encI 1 3 v (zax l k))]) (fun ⟨k,v⟩=>(k:Int)<=l.nodes) (fun ⟨k,v⟩=>N - k) ((0,.slice none 0 0)) (by show ((0:Nat):Int)<=l.nodes; omega) ⟨Z,Z,Zt⟩ ⟨Z,Zt⟩ (fun y hI=>?_))
 obtain ⟨k,v⟩:=y
 replace hI:(k:Int)<=l.nodes:=hI
 refine TC.sub (env':=[(4,_),(3,_),(0,_),(2,_)]) (L':=[(1,_),(0,_)]) ⟨Z,Z,Z,Z,Zt⟩ ⟨Z,Z,Zt⟩ (sB (xmi Z (xmp Z (xN0 Z (xf 1 zbp Z (xL3 0 zab Z Z (xD [] (zdz hl) zgz Z (TL.leq Z Z Z Z (fun q1=>?_) (fun q1=>?_)))))))))
 refine TL.done (TQ.then (TC.condT Z (TC.skip (TQ.then (TC.seq (TC.block (sA (xmp Z ?_))))))))
 refine xN0 Z (xf 1 zbp Z (xL3 0 zab Z Z (xmi Z (xD [] (zfO hl) zik Z (xmu Z (TL.ext (.agg _) Z Z Z Z (TL.ext (.bool _) Z Z Z Z (TL.alloc 2 (cs:=#[.bool false,.int .i64 0,.int .i64 0,.int .i64 0,.int .i64 0]) zfB Z Z Z (fun _=>Zt) (fun bk2=>?_)))))))))
 refine TL.stW 2 5 [_,_,_,_,_] Z Z Z Z Z Z zcr Z Z Zt (xab Z (dA (xf 1 zeY Z (xli 2 zad Z Z (TL.eql Z Z Z Z (fun q2=>?_) (fun q2=>?_))))))
 refine TL.done (TQ.then (TC.condT Z (TC.region (xmv Z (xmi Z (TL.bsN 3 [_] (Tm.encI ((k+1:Nat):Int)) zah zfT ⟨Z,Zt⟩ Z (lit1 Z) Z Z (fun bk3=>⟨Zt,?_⟩)))))))
 refine TL.appS 1 3 (d2:=#[((k+1:Nat):Int)]) Z (Z) Z (fun _=>Z) Z Z (row1 Z) zdA (by decide) zch (by have:=zdD l k; simp; omega) Z Z (fun v4=>⟨Zt,?_⟩)
 refine xav Z (dI (xmi Z (TL.add (((k+2:Nat):Int)) Z Z (wrN (by omega)) Z Z (xai Z (TL.done (TQ.roundK ((k+1,_)) ⟨(show ((k+1:Nat):Int)<=l.nodes by omega),(show N - (k+1)<N - k by omega)⟩ ⟨Z,Z,Zt⟩ ⟨congrArg (fun z=>some (ownA Tm.encI 1 3 _ z)) (zql (by assumption)),Zt⟩ (kE2 Z Z Zt) (kL1 Z Zt)))))))
 refine TL.done (TQ.then (TC.condF Z (TC.skip (TQ.inBlock (TQ.then (TC.region (xmi Z (TL.add (((k+2:Nat):Int)) Z Z (wrN (by omega)) Z Z ?_))))))))
 refine xai Z (TL.done (TQ.roundK ((k+1,_)) ⟨(show ((k+1:Nat):Int)<=l.nodes by omega),(show N - (k+1)<N - k by omega)⟩ ⟨Z,Z,Zt⟩ ⟨congrArg (fun z=>some (ownA Tm.encI 1 3 _ z)) (zrs (by assumption)),Zt⟩ (kE2 Z Z Zt) (kL1 Z Zt)))
 refine dE Z (sA (xmv Z (xav Z (dR ?_))))
 refine FQ.ret1 (v:=_) (Bs:=[_,_]) [0,1] Z Z Z ⟨Z,Z,Zt⟩ ?_
 obtain rfl:k=l.nodes.toNat:=by omega
 rfl
theorem zrk {tb ab mb:Nat} {σ:Tr} (hz:Room 0 σ:=by exact zaD):Go.Eng.Fn Tryz.prog 192 [.pointer (some ⟨tb,0,none⟩)] [zbl tb ab mb 264 139 29 34 (σ)] (fun x Bs=>∃ d2,Bs=[zbl tb ab mb 264 139 29 34 (σ),rowS x d2]/\d2.toList=chgL σ.row) :=
 Fn.traceX fun a g c ha hac=>Go.Eng.Fn.mono (zzT ha hac hz) fun v Bs ⟨d2,h,h2⟩=>⟨_,σ,[rowS v d2],h,d2,Z,h2⟩
theorem zoI {l:Lay} (hl:l.Ok) {wb tb ab mb:Nat} {hv:Value} {p:Pen} {u v:Int} {y:Int} (hy:0<=y/\y<18446744073709551616) {a1:Option Addr} {b1 o1 n1 c1:Nat} {A1:Assn} {d1:Array Int} (ha1:0<n1->a1=some ⟨b1,o1,none⟩) (hn1:n1<=137438953472) (hs1:d1.size=n1) (hA1:zbj A1 Tm.encI 1 b1 o1 n1 (fun i=>d1[i]!)) {a2:Option Addr} {b2 o2 n2 c2:Nat} {A2:Assn} {d2:Array Int} (ha2:0<n2->a2=some ⟨b2,o2,none⟩) (hn2:n2<=137438953472) (hs2:d2.size=n2) (hA2:zbj A2 Tm.encI 1 b2 o2 n2 (fun i=>d2[i]!)) {σ:Tr} (hz:Room n1 σ):FnD Tryz.prog 155 [.pointer (some ⟨wb,0,none⟩),.slice a1 n1 c1,.slice a2 n2 c2,.int .u64 y] [zgo 198 wb tb 186 (hv) l p (u) (v),zbl tb ab mb 264 139 29 34 (σ),A1,A2] (.tuple #[]) [zgo 198 wb tb 186 (hv) l p (u) (v),zbl tb ab mb 264 139 29 34 (zbq l d1 d2.toList y (n1) σ),A1,A2]:=by
 refine Fn.enter (Tryz.func155) Z Z (fun w0 R=>?_)
 refine sA (xms Z (xz zah Z (xmi Z (dK (TC.loopK (X:=Nat) [0,2,3,10,11] [0,2,3] (fun k=>[(12,.int .i64 ((k:Nat):Int))]) (fun k=>[(1,zbl tb ab mb 264 139 29 34 (zbq l d1 d2.toList y (k) σ))]) (fun k=>k<=n1) (fun k=>n1 - k) (0) (Nat.zero_le _) ⟨Z,Zt⟩ ⟨Z,Zt⟩ (fun k hI=>(TC.sub (env':=[(12,_),(0,_),(2,_),(3,_),(10,_),(11,_)]) (L':=[(1,_),(0,_),(2,_),(3,_)]) ⟨Z,Z,Z,Z,Z,Z,Zt⟩ ⟨Z,Z,Z,Z,Zt⟩ (sA (TL.lss Z Z Z Z (fun q1=>?_) (fun q1=>?_))))))))))
 refine dS (TC.condT Z (TC.skip (TQ.then (TC.seq (TC.block (sA (TL.iaO Z ha1 Z zah (by omega) Z Z (TL.ldRS 2 (.int _ _) Z Z hA1 (by omega) (Z) zad Z Z ?_))))))))
 refine xai rfl (dA (xms rfl (xmi rfl (xD [3] (zne ha2 hn2 hs2 hA2) zy5 rfl (TL.cases rfl (fun q2=>?_) (fun q2=>?_))))))
 refine xnt Z (TL.done (TQ.then (TC.condF Z (TC.skip (TQ.inBlock (TQ.then (TC.region (TL.add (((k+1:Nat):Int)) Z Z (wrN (by omega)) Z Z ?_))))))))
 refine xmi Z (TL.done (TQ.roundK (k+1) ⟨by omega,by omega⟩ ⟨Z,Zt⟩ ⟨congrArg (fun z=>some (zbl tb ab mb 264 139 29 34 (z))) (zsw (by simpa using q2)),Zt⟩ (kE5 Z Z Z Z Z Zt) (kL3 Z Z Z Zt)))
 refine xnf Z (TL.done (TQ.then (TC.condT Z (TC.draw (od [1,3,5,7,9,11,13,15,17,21,18,22]) [0] fc_m (by kernel_rfl) (xmp Z (xN0 Z (xf 0 zbg Z (xlp 0 zc8 Z Z ?_))))))))
 refine xmp Z (xN0 Z (xf 1 zbp Z (xL3 0 zab Z Z (xmi Z (xmi Z (xd [] (zbc hl) zcq Z (kL1 Z Zt) (xd [1] (zmj hy (zdl (n:=1) (hz.le (by omega)))) zy4 Z (kL1 Z Zt) (dI ?_))))))))
 refine TL.add (((k+1:Nat):Int)) Z Z (wrN (by omega)) Z Z (xmi Z (TL.done (TQ.roundK (k+1) ⟨by omega,by omega⟩ ⟨Z,Zt⟩ ⟨congrArg (fun z=>some (zbl tb ab mb 264 139 29 34 (z))) (zvA (by simpa using q2)),Zt⟩ (kE5 Z Z Z Z Z Zt) (kL3 Z Z Z Zt))))
 refine dS (TC.condF Z (TC.exit (TQ.thenExit (TQ.thenExit (TQ.blockHere ?_)))))
 refine FQ.end0 (Bs:=[_,_,A1,A2]) [0,1,2,3] Z Z ⟨Z,Z,Z,Z,Zt⟩ ?_
 obtain rfl:k=n1:=by omega
 exact ⟨Z,Z⟩
theorem zq0 {l:Lay} (hl:l.Ok) {wb tb ab mb:Nat} {hv:Value} {p:Pen} {u v:Int} {σ:Tr} (hz:Room (4 * (zax l l.nodes.toNat).size) σ):FnD Tryz.prog 157 [.pointer (some ⟨wb,0,none⟩)] [zgo 198 wb tb 186 (hv) l p (u) (v),zbl tb ab mb 264 139 29 34 (σ)] (.tuple #[]) [zgo 198 wb tb 186 (hv) l p (u) (v),zbl tb ab mb 264 139 29 34 (cleanW l (chgL σ.row) (zax l l.nodes.toNat) (zax l l.nodes.toNat).size σ)]:=by
 have hnb:=zaB hl
 have hrz:=zcR.1 hz
 have hsl:=zdD l l.nodes.toNat
 obtain ⟨SA,hSA⟩:∃ SA,SA=zax l l.nodes.toNat:=⟨_,rfl⟩
 rw [<-hSA] at hz hsl hrz ⊢
 refine Fn.enter (Tryz.func157) Z Z (fun w0 R=>?_)
 refine sA (xmp Z (xN0 Z (xf 0 zbg Z (xlp 0 zc8 Z Z (TL.call [1] [1,2] zrk ⟨Z,Zt⟩ ⟨Z,Zt⟩ zty Z Z Z Z ?_)))))
 rintro x Bs ⟨ch,rfl,hch⟩
 refine ⟨Z,Zt,?_⟩
 refine TL.rowS 2 Z (fun a8 b8 o8 c8 hv8 hc8 ha8=>⟨Zt,?_⟩)
 cases hv8
 have hcs:=zkS hch
 have hcz:ch.size<=137438953472:=by have:=zpZ hch; omega
 refine xas Z (dA (xmp Z (TL.call [0] [0,3] (ziW hl) ⟨Z,Zt⟩ ⟨Z,Zt⟩ zom Z Z Z Z ?_)))
 rintro x Bs rfl
 refine ⟨Z,Zt,?_⟩
 rw [<-hSA]
 refine TL.ownW 3 Z (fun a7 g7 c7 hv7 hc7 ha7=>?_)
 cases hv7
 refine xz zah Z (xmi Z (dK (TC.loopK (X:=Nat) [0,2,16,17] [0,2,3] (fun k=>[(18,.int .i64 ((k:Nat):Int))]) (fun k=>[(1,zbl tb ab mb 264 139 29 34 (cleanW l (chgL σ.row) SA (k) σ))]) (fun k=>k<=SA.size) (fun k=>SA.size - k) (0) (Nat.zero_le _) ⟨Z,Zt⟩ ⟨Z,Zt⟩ (fun k hI=>(TC.sub (env':=[(18,_),(0,_),(2,_),(16,_),(17,_)]) (L':=[(1,_),(0,_),(2,_),(3,_)]) ⟨Z,Z,Z,Z,Z,Zt⟩ ⟨Z,Z,Z,Z,Zt⟩ (sA (TL.lss Z Z Z Z (fun q1=>?_) (fun q1=>?_))))))))
 refine dS (TC.condT Z (TC.skip (TQ.then (TC.seq (TC.block (sA (TL.iaO Z ha7 Z zah (by omega) Z Z (TL.ldRS 3 (.int _ _) Z Z (zaP ha7) (by omega) (Z) zad Z Z ?_))))))))
 refine xai Z (dA (TL.bldA [.int .i64 0,.int .i64 0] [(.int _ _),(.int _ _)] [_,_] zs4 zd4 ⟨Z,Z,Zt⟩ ⟨Z,Z⟩ Z Z (xmi Z (dK (TC.loopK (X:=Nat) [0,2,4,16,17,18,22] [0,2,3] (fun j=>[(23,.int .i64 ((j:Nat):Int))]) (fun j=>[(1,zbl tb ab mb 264 139 29 34 (zkQ l (chgL σ.row) SA k σ j))]) (fun j=>j<=2) (fun j=>2 - j) (0) (Nat.zero_le _) ⟨Z,Zt⟩ ⟨Z,Zt⟩ (fun j hI=>(TC.sub (env':=[(23,_),(0,_),(2,_),(4,_),(16,_),(17,_),(18,_),(22,_)]) (L':=[(1,_),(0,_),(2,_),(3,_)]) ⟨Z,Z,Z,Z,Z,Z,Z,Z,Zt⟩ ⟨Z,Z,Z,Z,Zt⟩ (sA (TL.lss Z Z Z Z (fun q2=>?_) (fun q2=>?_))))))))))
 refine dS (TC.condT rfl (TC.skip (TQ.then (TC.seq (TC.block (sA (TL.ixA (.int .i64 (2 - (j:Int))) rfl rfl zd4 zad (by omega) (by omega) (by have h9:j=0\/j=1:=(by omega); rcases h9 with rfl | rfl<;>rfl) rfl rfl (xai rfl ?_))))))))
 refine dA (xmp Z (xN0 Z (xf 1 zbp Z (xL3 0 zab Z Z (xmi Z (xmi Z (xD [] (zbc hl) zcq Z (xai Z ?_))))))))
 refine dA (xms Z (xmi Z (TL.call [2] [2] (zkT ha8 hcz Z zcw hcs) ⟨Z,Z,Zt⟩ ⟨Z,Zt⟩ ztx Z Z Z Z ?_)))
 rintro x Bs ⟨k9,rfl,rfl⟩
 refine ⟨Z,Zt,?_⟩
 refine xmu rfl (xei rfl rfl (TL.ext (.bool _) rfl rfl rfl rfl (xai rfl (xab rfl (dA (xmb rfl (TL.cases rfl (fun q3=>?_) (fun q3=>?_))))))))
 refine TL.done (TQ.then (TC.condT Z (TC.draw (od [1,3,5,7,9,11,13,15,17,19,20]) [0] fc_m (by kernel_rfl) (xmp Z (xN0 Z (xf 4 zdq Z (xL2 0 zba Z Z (xmp Z ?_))))))))
 refine xN0 Z (xf 0 zbg Z (xlp 0 zc8 Z Z (TL.miN (v:=(.pointer (some ⟨_,_,none⟩))) Z zfV Z Z (xmi Z (xd [1] (zpX zd9 (zox (n:=0) (by omega) (hz.le (by omega)))) ztL Z (kL1 Z Zt) (dI (TL.add (((j+1:Nat):Int)) Z Z (wrN (by omega)) Z Z (xmi Z ?_))))))))
 refine TL.done (TQ.roundK (j+1) ⟨by omega,by omega⟩ ⟨Z,Zt⟩ ⟨congrArg (fun z=>some (zbl tb ab mb 264 139 29 34 (z))) (zua (by omega) (by rw [<-hch]; first | exact of_decide_eq_true q3 | exact of_decide_eq_false q3)),Zt⟩ (kE7 Z Z Z Z Z Z Z Zt) (kL3 Z Z Z Zt))
 refine TL.done (TQ.then (TC.condF Z (TC.skip (TQ.inBlock (TQ.then (TC.region (TL.add (((j+1:Nat):Int)) Z Z (wrN (by omega)) Z Z (xmi Z ?_))))))))
 refine TL.done (TQ.roundK (j+1) ⟨by omega,by omega⟩ ⟨Z,Zt⟩ ⟨congrArg (fun z=>some (zbl tb ab mb 264 139 29 34 (z))) (zqN (by omega) (by rw [<-hch]; first | exact of_decide_eq_true q3 | exact of_decide_eq_false q3)),Zt⟩ (kE7 Z Z Z Z Z Z Z Zt) (kL3 Z Z Z Zt))
 refine dS (TC.condF Z (TC.exit (TQ.thenExit (TQ.thenExit (TQ.blockHere (TQ.inBlock (TQ.then (TC.region ?_))))))))
 refine TL.add (((k+1:Nat):Int)) rfl rfl (wrN (by omega)) rfl rfl (xmi rfl (TL.done (TQ.roundK (k+1) ⟨by omega,by omega⟩ ⟨rfl,trivial⟩ ⟨by obtain rfl:j=2:=(by omega); rfl,trivial⟩ (kE4 rfl rfl rfl rfl trivial) (kL3 rfl rfl rfl trivial))))
 refine dS (TC.condF Z (TC.exit (TQ.thenExit (TQ.thenExit (TQ.blockHere ?_)))))
 refine FQ.end0 (Bs:=[_,_]) [0,1] Z Z ⟨Z,Z,Zt⟩ ?_
 obtain rfl:k=SA.size:=by omega
 exact ⟨Z,Z⟩
theorem zuI {l:Lay} (hl:l.Ok) {wb tb ab mb:Nat} {hv:Value} {p:Pen} {u v:Int} {σ:Tr} (hz:Room (4 * (zax l l.nodes.toNat).size) σ):FnD Tryz.prog 154 [.pointer (some ⟨wb,0,none⟩)] [zgo 198 wb tb 186 (hv) l p (u) (v),zbl tb ab mb 264 139 29 34 (σ)] (.tuple #[]) [zgo 198 wb tb 186 (hv) l p (u) (v),zbl tb ab mb 264 139 29 34 (zb4 l p (chgL σ.row) (zax l l.nodes.toNat) (zax l l.nodes.toNat).size σ)]:=by
 have hnb:=zaB hl
 have hrz:=zcR.1 hz
 have hsl:=zdD l l.nodes.toNat
 obtain ⟨SA,hSA⟩:∃ SA,SA=zax l l.nodes.toNat:=⟨_,rfl⟩
 rw [<-hSA] at hz hsl hrz ⊢
 refine Fn.enter (Tryz.func154) Z Z (fun w0 R=>?_)
 refine sA (xmp Z (xN0 Z (xf 0 zbg Z (xlp 0 zc8 Z Z (TL.call [1] [1,2] zrk ⟨Z,Zt⟩ ⟨Z,Zt⟩ zty Z Z Z Z ?_)))))
 rintro x Bs ⟨ch,rfl,hch⟩
 refine ⟨Z,Zt,?_⟩
 refine TL.rowS 2 Z (fun a8 b8 o8 c8 hv8 hc8 ha8=>⟨Zt,?_⟩)
 cases hv8
 have hcs:=zkS hch
 have hcz:ch.size<=137438953472:=by have:=zpZ hch; omega
 refine xas Z (dA (xmp Z (TL.call [0] [0,3] (ziW hl) ⟨Z,Zt⟩ ⟨Z,Zt⟩ zom Z Z Z Z ?_)))
 rintro x Bs rfl
 refine ⟨Z,Zt,?_⟩
 rw [<-hSA]
 refine TL.ownW 3 Z (fun a7 g7 c7 hv7 hc7 ha7=>?_)
 cases hv7
 refine xz zah Z (xmi Z (dK (TC.loopK (X:=Nat) [0,2,17,18] [0,2,3] (fun k=>[(19,.int .i64 ((k:Nat):Int))]) (fun k=>[(1,zbl tb ab mb 264 139 29 34 (zb4 l p (chgL σ.row) SA (k) σ))]) (fun k=>k<=SA.size) (fun k=>SA.size - k) (0) (Nat.zero_le _) ⟨Z,Zt⟩ ⟨Z,Zt⟩ (fun k hI=>(TC.sub (env':=[(19,_),(0,_),(2,_),(17,_),(18,_)]) (L':=[(1,_),(0,_),(2,_),(3,_)]) ⟨Z,Z,Z,Z,Z,Zt⟩ ⟨Z,Z,Z,Z,Zt⟩ (sA (TL.lss Z Z Z Z (fun q1=>?_) (fun q1=>?_))))))))
 refine dS (TC.condT Z (TC.skip (TQ.then (TC.seq (TC.block (sA (TL.iaO Z ha7 Z zah (by omega) Z Z (TL.ldRS 3 (.int _ _) Z Z (zaP ha7) (by omega) (Z) zad Z Z ?_))))))))
 refine xai Z (dA (xmp Z (xN0 Z (xf 1 zbp Z (xL3 0 zab Z Z (xmi Z (xD [] (zbc hl) zcq Z (xai Z ?_))))))))
 refine dB (xms Z (xmi Z (TL.call [2] [2] (zkT ha8 hcz Z zcw hcs) ⟨Z,Z,Zt⟩ ⟨Z,Zt⟩ ztx Z Z Z Z ?_)))
 rintro x Bs ⟨k9,rfl,rfl⟩
 refine ⟨Z,Zt,?_⟩
 refine xmu rfl (xei rfl rfl (TL.ext (.bool _) rfl rfl rfl rfl (xai rfl (xab rfl (dA (xmb rfl (TL.cases rfl (fun q2=>?_) (fun q2=>?_))))))))
 refine xnt Z (dF Z (xmp Z (xN0 Z (xf 0 zbg Z (xlp 0 zc8 Z Z (xmi Z (xD [1] (zoU (zcX (n:=1) (hz.le (by omega)))) zy6 Z (xD [] zdB zfW Z ?_))))))))
 refine xmu Z (TL.ext (.agg _) Z Z Z Z (xei Z Z (TL.alloc 4 (cs:=#[.int .i64 0,.int .i64 0,.int .i64 0,.int .i64 0]) zb9 Z Z Z (fun _=>Zt) (fun bk4=>(TL.stW 4 4 [_,_,_,_] Z Z Z Z Z Z zaI Z Z Zt (xai Z (dA (xf 0 zcb Z (xli 4 zad Z Z ?_)))))))))
 refine TL.eql Z Z Z Z (fun q3=>?_) (fun q3=>?_)
 refine xmt Z (xo Z (xo Z (xo Z (xpT Z (dT Z (xmp Z (xN0 Z (xf 1 zbp Z ?_))))))))
 refine xL3 0 zab Z Z (xmi Z (xD [] (zbc hl) zcq Z (xai Z (TL.done (TQ.then (TC.draw (od [1,3,5,7,9,11,13,15,17,19,21,23,25,27,29,31,32,35,36]) [0] fc_m (by kernel_rfl) (xmp Z (xN0 Z ?_))))))))
 refine xf 4 zdq Z (xL2 0 zba Z Z (xmp Z (xN0 Z (xf 0 zbg Z (xlp 0 zc8 Z Z (TL.miN (v:=(.pointer (some ⟨_,_,none⟩))) Z zfV Z Z (xmi Z (xmp Z ?_))))))))
 refine xN0 Z (xf 0 zbg Z (xlp 0 zc8 Z Z (TL.miN (v:=(.pointer (some ⟨_,_,none⟩))) Z zfV Z Z (xmi Z (xd [1] (zsj zd9 (ld_f (zcX (n:=2) (hz.le (by omega))))) zok Z (kL1 Z Zt) (TL.add _ Z Z (Z) Z Z (xd [1] (zk0 zd9 (ld_f (ld_f (zcX (n:=4) (hz.le (by omega)))))) zol Z (kL1 Z Zt) (dI ?_))))))))
 refine TL.add (((k+1:Nat):Int)) Z Z (wrN (by omega)) Z Z (xmi Z (TL.done (TQ.roundK (k+1) ⟨by omega,by omega⟩ ⟨Z,Zt⟩ ⟨congrArg (fun z=>some (zbl tb ab mb 264 139 29 34 (z))) (by rw [zk1 (by rw [<-hch]; first | exact of_decide_eq_true q2 | exact of_decide_eq_false q2 | simpa using q2),Zp (.inl (by assumption))]),Zt⟩ (kE4 Z Z Z Z Zt) (kL3 Z Z Z Zt))))
 refine xmf Z (xf 1 zcz Z (xli 4 zad Z Z (TL.eql Z Z Z Z (fun q4=>?_) (fun q4=>?_))))
 refine xpH Z (dT Z (xmp Z (xN0 Z (xf 1 zbp Z (xL3 0 zab Z Z (xmi Z (xD [] (zbc hl) zcq Z (xai Z ?_))))))))
 refine TL.done (TQ.then (TC.draw (od [1,3,5,7,9,11,13,15,17,19,21,23,25,27,29,31,32,35,36]) [0] fc_m (by kernel_rfl) (xmp Z (xN0 Z (xf 4 zdq Z (xL2 0 zba Z Z (xmp Z (xN0 Z ?_))))))))
 refine xf 0 zbg Z (xlp 0 zc8 Z Z (TL.miN (v:=(.pointer (some ⟨_,_,none⟩))) Z zfV Z Z (xmi Z (xmp Z (xN0 Z (xf 0 zbg Z (xlp 0 zc8 Z Z (TL.miN (v:=(.pointer (some ⟨_,_,none⟩))) Z zfV Z Z ?_))))))))
 refine xmi Z (xd [1] (zsj zd9 (ld_f (zcX (n:=2) (hz.le (by omega))))) zok Z (kL1 Z Zt) (TL.add _ Z Z (Z) Z Z (xd [1] (zk0 zd9 (ld_f (ld_f (zcX (n:=4) (hz.le (by omega)))))) zol Z (kL1 Z Zt) (dI (TL.add (((k+1:Nat):Int)) Z Z (wrN (by omega)) Z Z (xmi Z (TL.done (TQ.roundK (k+1) ⟨by omega,by omega⟩ ⟨Z,Zt⟩ ⟨congrArg (fun z=>some (zbl tb ab mb 264 139 29 34 (z))) (by rw [zk1 (by rw [<-hch]; first | exact of_decide_eq_true q2 | exact of_decide_eq_false q2 | simpa using q2),Zp (.inr (by assumption))]),Zt⟩ (kE4 Z Z Z Z Zt) (kL3 Z Z Z Zt)))))))))
 refine xpF Z (TL.done (TQ.then (TC.condF Z (TC.skip (TQ.inBlock (TQ.then (TC.region (TL.add (((k+1:Nat):Int)) Z Z (wrN (by omega)) Z Z ?_))))))))
 refine xmi Z (TL.done (TQ.roundK (k+1) ⟨by omega,by omega⟩ ⟨Z,Zt⟩ ⟨congrArg (fun z=>some (zbl tb ab mb 264 139 29 34 (z))) (by rw [zk1 (by rw [<-hch]; first | exact of_decide_eq_true q2 | exact of_decide_eq_false q2 | simpa using q2),Zn (fun h9=>h9.elim (by assumption) (by assumption))]),Zt⟩ (kE4 Z Z Z Z Zt) (kL3 Z Z Z Zt)))
 refine xnf Z (TL.done (TQ.then (TC.condT Z (TC.exit (TQ.thenExit (TQ.blockHere (TQ.then (TC.region ?_))))))))
 refine TL.add (((k+1:Nat):Int)) Z Z (wrN (by omega)) Z Z (xmi Z (TL.done (TQ.roundK (k+1) ⟨by omega,by omega⟩ ⟨Z,Zt⟩ ⟨congrArg (fun z=>some (zbl tb ab mb 264 139 29 34 (z))) (zrb (by rw [<-hch]; first | exact of_decide_eq_true q2 | exact of_decide_eq_false q2 | simpa using q2)),Zt⟩ (kE4 Z Z Z Z Zt) (kL3 Z Z Z Zt))))
 refine dS (TC.condF Z (TC.exit (TQ.thenExit (TQ.thenExit (TQ.blockHere ?_)))))
 refine FQ.end0 (Bs:=[_,_]) [0,1] Z Z ⟨Z,Z,Zt⟩ ?_
 obtain rfl:k=SA.size:=by omega
 exact ⟨Z,Z⟩
theorem zuM {a:Option Addr} {b off n c:Nat} {A:Assn} {d:Array Acc} {v:Int} (ha:0<n->a=some ⟨b,off,none⟩) (hn:n<=137438953472) (hsz:d.size=n) (hA:zbj A zav 3 b off n (fun i=>d[i]!)):FnD Tryz.prog 153 [.slice a n c,.int .i64 v] [A] (.int .i64 (zeF d v n)) [A]:=by
 refine Fn.enter (Tryz.func153) Z Z (fun w0 R=>?_)
 refine sA (xai Z (dB (xms Z (xz zam Z (TL.sub _ Z Z (wr64 (by omega)) Z Z (xai Z (dK (TC.loopK (X:=Nat) [0,1] [0] (fun k=>[(5,.int .i64 ((k:Int) - 1))]) (fun k=>[]) (fun k=>k<=n/\zeF d v n=zeF d v k) (fun k=>k) (n) ⟨Nat.le_refl _,Z⟩ ⟨Z,Zt⟩ Zt (fun k hI=>?_)))))))))
 obtain ⟨hk,hI⟩:=hI
 refine TC.sub (env':=[(5,_),(0,_),(1,_)]) (L':=[(0,_)]) ⟨Z,Z,Z,Zt⟩ ⟨Z,Zt⟩ (sB (xmi Z (TL.geq Z Z Z Z (fun q1=>?_) (fun q1=>?_))))
 refine TL.done (TQ.then (TC.condT Z (TC.skip (TQ.then (TC.seq (TC.block (TC.seq ?_)))))))
 have e9:((k:Nat):Int) - 1=((k - 1:Nat):Int):=by omega
 rw [e9]
 refine TC.region (xms rfl (xmi rfl (TL.iaO rfl ha rfl zam (by omega) rfl rfl (xf 0 zd8 rfl (TL.ldRF 0 (.bool _) rfl rfl hA (by omega) rfl rfl zd3 rfl rfl (xmb rfl (TL.cases rfl (fun q2=>?_) (fun q2=>?_))))))))
 refine xms Z (xmi Z (TL.iaO Z ha Z zam (by omega) Z Z (xf 1 zbT Z (TL.ldRF 0 (.int _ _) Z Z hA (by omega) Z Z zad Z Z (xmi Z (TL.eql Z Z Z Z (fun q3=>?_) (fun q3=>?_)))))))
 refine xpT Z (dT Z (xmi Z (xai Z (dR (TQ.blockRet (TQ.thenRet (TQ.thenRet (TQ.blockRet ?_))))))))
 refine TQ.thenRet ?_
 refine FQ.ret1 (v:=(.int _ _)) (Bs:=[A]) [0] Z Z Z ⟨Z,Zt⟩ ?_
 exact ⟨iE (by rw [hI]; exact zsD (by omega) (by assumption) (by assumption)),Z⟩
 refine xpG Z (TL.done (TQ.then (TC.condF Z (TC.skip (TQ.inBlock (TQ.then (TC.region (xmi Z ?_))))))))
 refine TL.sub _ Z Z (wr64 (by omega)) Z Z (xai Z (TL.done (TQ.roundK (k - 1) ⟨⟨by omega,zpC hI (by omega) (by first | exact .inl (by simpa using q2) | exact .inr q3 | trace_state)⟩,by omega⟩ ⟨Z,Zt⟩ Zt (kE2 Z Z Zt) (kL1 Z Zt))))
 refine xo Z (xo Z (xo Z (xo Z (xo Z (xo Z (xo Z (xpF Z (TL.done ?_))))))))
 refine TQ.then (TC.condF Z (TC.skip (TQ.inBlock (TQ.then (TC.region (xmi Z (TL.sub _ Z Z (wr64 (by omega)) Z Z (xai Z ?_))))))))
 refine TL.done (TQ.roundK (k - 1) ⟨⟨by omega,zpC hI (by omega) (by first | exact .inl (by simpa using q2) | exact .inr q3 | trace_state)⟩,by omega⟩ ⟨Z,Zt⟩ Zt (kE2 Z Z Zt) (kL1 Z Zt))
 refine dE Z (sA (xai Z (dR ?_)))
 refine FQ.ret1 (v:=(.int _ _)) (Bs:=[A]) [0] Z Z Z ⟨Z,Zt⟩ ?_
 obtain rfl:k=0:=by omega
 exact ⟨iE (by rw [hI]; rfl),Z⟩
theorem zmb {l:Lay} (hl:l.Ok) {wb tb ab mb:Nat} {hv:Value} {p:Pen} {u v:Int} {σ σ1 σ2:Tr} {k:Nat} {x y:Int} (h1:root l k σ (l.vertex 0 u)=some (x,σ1)) (h2:root l k σ1 (l.vertex 0 v)=some (y,σ2)) (hz:Room (2 * k) σ):Go.Eng.Fn Tryz.prog 151 [.pointer (some ⟨wb,0,none⟩)] [zgo 198 wb tb 186 (hv) l p (u) (v),zbl tb ab mb 264 139 29 34 (σ)] (fun r Bs=>Bs=[zgo 198 wb tb 186 (hv) l p (u) (v),zbl tb ab mb 264 139 29 34 (σ2),rowS r (zaw x y)]):=by
 refine Fn.enter (Tryz.func151) Z Z (fun w0 R=>?_)
 refine sA (TL.asg (.slice none 0 0) Z Z Z (dS (TC.draw (od [1,3,5,7,9,11,13,15,17,19,21,23,25,27,29,31,37,39,41,43,45,47,49,51,53,55,57,59,61,63,65,67,32,34,68,70,73,75]) [0] fc_m (by kernel_rfl) (xmp Z (xN0 Z (xf 6 zcA Z (xf 0 zaV Z (xf 0 zaq Z ?_))))))))
 refine xf 0 zbh Z (xf 0 zak Z (xL6 0 zaa Z Z (xmp Z (xN0 Z (xf 1 zbp Z (xL3 0 zab Z Z (xmp Z (xN0 Z ?_))))))))
 refine xf 17 zb3 Z (xli 0 zad Z Z (xmp Z (xN0 Z (xf 6 zcA Z (xf 0 zaV Z (xf 0 zaq Z (xf 0 zbh Z (xf 0 zak Z ?_))))))))
 refine xL6 0 zaa Z Z (xmp Z (xN0 Z (xf 1 zbp Z (xL3 0 zab Z Z (xmp Z (xN0 Z (xf 18 zb2 Z (xli 0 zad Z Z ?_))))))))
 refine xd [] (zc0 hl) zfu Z (kL1 Z Zt) (xd [1] (zfb zd9 hl h1) zft Z (kL1 Z Zt) (xd [] (zc0 hl) zfu Z (kL1 Z Zt) (xd [1] (zfb zd9 hl h2) zft Z (kL1 Z Zt) (xai Z (xai Z (dA (xmi Z (xmi Z ?_))))))))
 refine TL.min2 Z Z Z Z (xmi Z (xmi Z (TL.max2 Z Z Z Z (TL.bsN 2 [_,_] ([.int .i64 (min x y),.int .i64 (max x y)]) zah zfT ⟨Z,Z,Zt⟩ Z (lit2) Z Z (fun bk2=>⟨Zt,?_⟩)))))
 refine TL.conseq 2 (B:=ownA Tm.encI 1 3 (.slice (some ⟨bk2,0,none⟩) 2 2) (#[min x y,max x y])) Z (fun h hh=>zvu hh) Zt (TL.call [2] [2] (zj0 (n:=2) (d:=#[min x y,max x y]) (by decide) Z) ⟨Z,Zt⟩ ⟨Z,Zt⟩ ztz Z Z Z Z ?_)
 rintro v Bs ⟨d2,rfl,hd2⟩
 refine ⟨Z,Zt,?_⟩
 obtain rfl:d2=zaw x y:=by rw [<-zzz,<-hd2]
 refine xav Z (dR ?_)
 refine FQ.ret1 (v:=_) (Bs:=[_,_,_]) [0,1,2] Z Z Z ⟨Z,Z,Z,Zt⟩ ?_
 rfl
theorem zg4 {rb n c:Nat} {a:Option Addr} {at_:Int} {bad:Bool}:FnD Tryz.prog 19 [.pointer (some ⟨rb,0,none⟩)] [pt rb (.cells #[.slice a n c,.int .i64 (at_),.bool (bad)] 145)] (.bool (decide (at_=(n:Int)))) [pt rb (.cells #[.slice a n c,.int .i64 (at_),.bool (bad)] 145)]:=by
 refine Fn.enter (Tryz.func19) Z Z (fun w0 R=>?_)
 refine sA (xaf Z (dS (TC.draw (od [1,3,5,7,9,11,13,15,17,19,21]) [0] fc_m (by kernel_rfl) (xmp Z (xN0 Z (xf 1 zcB Z (xli 0 zad Z Z (xmp Z ?_))))))))
 refine xN0 Z (xf 0 zjG Z (xls 0 zcf Z Z (xz zam Z (TL.eqlV Z Z Z Z (xab Z (dR ?_))))))
 refine FQ.ret1 (v:=(.bool _)) (Bs:=[_]) [0] Z Z Z ⟨Z,Zt⟩ ?_
 exact ⟨Z,Z⟩
theorem zje {rb n c:Nat} {a:Option Addr} {at_:Int} {bad:Bool}:FnD Tryz.prog 21 [.pointer (some ⟨rb,0,none⟩)] [pt rb (.cells #[.slice a n c,.int .i64 (at_),.bool (bad)] 145)] (.int .i64 at_) [pt rb (.cells #[.slice a n c,.int .i64 (at_),.bool (bad)] 145)]:=by
 refine Fn.enter (Tryz.func21) Z Z (fun w0 R=>?_)
 refine sA (xai Z (dA (xmp Z (xN0 Z (xf 1 zcB Z (xli 0 zad Z Z (xai Z (dR ?_))))))))
 refine FQ.ret1 (v:=(.int _ _)) (Bs:=[_]) [0] Z Z Z ⟨Z,Zt⟩ ?_
 exact ⟨Z,Z⟩
theorem zlf {rb n c:Nat} {a:Option Addr} {at_:Int} {bad:Bool}:FnD Tryz.prog 22 [.pointer (some ⟨rb,0,none⟩)] [pt rb (.cells #[.slice a n c,.int .i64 (at_),.bool (bad)] 145)] (.bool (!bad)) [pt rb (.cells #[.slice a n c,.int .i64 (at_),.bool (bad)] 145)]:=by
 refine Fn.enter (Tryz.func22) Z Z (fun w0 R=>?_)
 refine sA (xaf Z (dA (xmp Z (xN0 Z (xf 2 zfq Z (xlb 0 zd3 Z Z (TL.not _ _ Z Z Z Z (xab Z ?_))))))))
 refine dR ?_
 refine FQ.ret1 (v:=(.bool _)) (Bs:=[_]) [0] Z Z Z ⟨Z,Zt⟩ ?_
 exact ⟨Z,Z⟩
theorem zjm {a:Option Addr} {b off n c:Nat} {A:Assn} {f:Nat->Acc} (ha:0<n->a=some ⟨b,off,none⟩) (hn:n<=137438953471) (hA:zbj A zav 3 b off n f):Go.Eng.Fn Tryz.prog 18 [.slice a n c] [A] (fun x Bs=>∃ rb v,x=.pointer (some ⟨rb,0,none⟩)/\Bs=[A,pt rb (.cells #[v,.int .i64 (0),.bool (false)] 145),ownA zav 3 34 (v) (((List.range n).map f).toArray)]):=by
 refine Fn.enter (Tryz.func18) Z Z (fun w0 R=>?_)
 refine sA (TL.asg (.pointer none) Z Z Z (dA (xms Z (TL.call [0] [0,1] (znf ha hn hA) ⟨Z,Zt⟩ ⟨Z,Zt⟩ zwX Z Z Z Z ?_))))
 rintro v Bs rfl
 refine ⟨Z,Zt,?_⟩
 refine TL.ownW 1 Z (fun a7 g7 c7 hv7 hc7 ha7=>?_)
 cases hv7
 refine TL.bld [.slice none 0 0,.int .i64 0,.bool false] [_] [_,_,_] zyy zyJ ⟨Z,Zt⟩ ⟨Z,Z⟩ Z Z (xB 2 Z (fun bk2=>(xap Z (dR ?_))))
 refine FQ.ret1 (v:=(.pointer (some ⟨_,_,none⟩))) (Bs:=[A,_,_]) [0,2,1] Z Z Z ⟨Z,Z,Z,Zt⟩ ?_
 exact ⟨_,_,Z,Z⟩
theorem zqp {ab mb:Nat} {a:Option Addr} {b off c:Nat} {A:Assn} {σ:Array UInt64} {x:Acc} (ha:0<1->a=some ⟨b,off,none⟩) (hA:zbj A zav 3 b off 1 (fun _=>x)) (hv:0<=x.val/\x.val<18446744073709551616):FnD Tryz.prog 84 [.iface 149 (.agg #[.pointer (some ⟨ab,0,none⟩)]),.slice a 1 c] [zal ab mb 139 29 (σ),A] (.tuple #[.int .i64 (if accG x σ=true then 1 else 0),.bool (accG x σ)]) [zal ab mb 139 29 (acc1 x σ),A]:=by
 refine Fn.enter (Tryz.func84) Z Z (fun w0 R=>?_)
 refine sA (xai rfl (xaf rfl (dB (xms rfl (xz zam rfl (xmi rfl (dK (TC.loopK (X:=Nat) [0,1,8,9] [1] (fun k=>[(10,.int .i64 ((k:Nat):Int))]) (fun k=>[(0,zal ab mb 139 29 (accJ x σ k))]) (fun k=>k<=1/\(k=1->accG x σ=true)) (fun k=>1 - k) (0) ⟨Nat.zero_le _,fun h=>by cases h⟩ ⟨rfl,trivial⟩ ⟨rfl,trivial⟩ (fun k hI=>?_)))))))))
 obtain ⟨hk,hg⟩:=hI
 refine TC.sub (env':=[(10,_),(0,_),(1,_),(8,_),(9,_)]) (L':=[(0,_),(1,_)]) ⟨Z,Z,Z,Z,Z,Zt⟩ ⟨Z,Z,Zt⟩ (sA (TL.lss Z Z Z Z (fun q1=>?_) (fun q1=>?_)))
 refine dS (TC.condT Z (TC.skip (TQ.then (TC.seq (TC.block (TC.seq ?_))))))
 obtain rfl:k=0:=by omega
 refine TC.region (xmi Z (TL.iaO Z ha Z zam (by omega) Z Z (TL.ldR 1 Z Z hA (by omega) zcs Z Z (TL.alloc 2 (cs:=#[.bool false,.int .i64 0,.int .u64 0]) zeB Z Z Z (fun _=>Zt) (fun bk2=>(xai Z (TL.stW 2 3 [_,_,_] Z Z Z Z Z Z zcs Z Z Zt (dK (sA ?_)))))))))
 refine xf 0 zd8 Z (xlb 2 zd3 Z Z (xab Z (TL.done (TQ.then (TC.cond Z (fun q2=>?_) (fun q2=>?_))))))
 refine TC.region (xmc Z (xf 1 zbT Z (xli 2 zad Z Z (xf 2 zkN Z (xli 2 zkG Z Z (TL.mstore 0 zfz Z Z Z hv Z Z Z Zt (TL.done (TQ.inBlock ?_))))))))
 refine TQ.inBlock (TQ.then (TC.region (TL.add (((0+1:Nat):Int)) Z Z (wrN (by omega)) Z Z (xmi Z (TL.done (TQ.roundK (0+1) ⟨⟨by omega,fun _=>zuF (by assumption)⟩,by omega⟩ ⟨Z,Zt⟩ ⟨congrArg (fun z=>some (zal ab mb 139 29 (z))) (zA4 (by assumption)),Zt⟩ (kE4 Z Z Z Z Zt) (kL1 Z Zt)))))))
 refine TC.seq (TC.draw (od [1,3,5,9,11,6,13,15]) [2] fc_m (by kernel_rfl) (xmc Z (xf 1 zbT Z (xli 2 zad Z Z (xf 2 zkN Z (xli 2 zkG Z Z (TL.mload 0 zfz Z Z Z Z Z (kL1 Z Zt) (TL.neq Z Z Z Z (fun q3=>?_) (fun q3=>?_)))))))))
 refine xat Z (dT Z (xmi Z (xai Z (xaf Z (dR (TQ.blockRet (TQ.blockRet (TQ.thenRet ?_))))))))
 refine TQ.thenRet (TQ.blockRet (TQ.thenRet ?_))
 refine FQ.ret2 (v:=(.int _ _)) (x:=(.bool false)) (Bs:=[_,A]) [0,1] Z Z Z Z ⟨Z,Z,Zt⟩ ?_
 have h9:=zA5 (σ:=σ) (x:=x) (by assumption) (by assumption)
 exact ⟨by rw [h9]; rfl,by rw [<-zuG (by assumption)]; rfl⟩
 refine xaf Z (TL.done (TQ.then (TC.condF Z (TC.skip (TQ.inBlock (TQ.inBlock (TQ.then (TC.region ?_))))))))
 refine TL.add (((0+1:Nat):Int)) Z Z (wrN (by omega)) Z Z (xmi Z (TL.done (TQ.roundK (0+1) ⟨⟨by omega,fun _=>zuE (Decidable.not_not.1 (by assumption))⟩,by omega⟩ ⟨Z,Zt⟩ ⟨congrArg (fun z=>some (zal ab mb 139 29 (z))) (zxa (by assumption)),Zt⟩ (kE4 Z Z Z Z Zt) (kL1 Z Zt))))
 refine dS (TC.condF Z (TC.exit (TQ.thenExit (TQ.thenExit (TQ.blockHere (TQ.then (sA (xms Z ?_))))))))
 refine xz zam Z (xai Z (xat Z (dR ?_)))
 refine FQ.ret2 (v:=(.int _ _)) (x:=(.bool true)) (Bs:=[_,A]) [0,1] Z Z Z Z ⟨Z,Z,Zt⟩ ?_
 obtain rfl:k=1:=by omega
 exact ⟨by rw [hg Z]; rfl,Z⟩
theorem znH {rb ab mb c k g:Nat} {a:Option Addr} {bad:Bool} {d:Array Acc} {σ:Array UInt64} (hn:d.size<=137438953471) (hac:d.size<=c) (ha:0<d.size->a=some ⟨g,0,none⟩) (hk:k<d.size) (hv:∀ i,i<d.size->0<=d[i]!.val/\d[i]!.val<18446744073709551616):FnD Tryz.prog 20 [.pointer (some ⟨rb,0,none⟩),.pointer (some ⟨ab,0,none⟩)] [pt rb (.cells #[.slice a d.size c,.int .i64 (((k:Nat):Int)),.bool (bad)] 145),ownA zav 3 34 (.slice a d.size c) (d),zal ab mb 139 29 (σ)] (.bool (decide (k+1=d.size))) [pt rb (.cells #[.slice a d.size c,.int .i64 (((k+1:Nat):Int)),.bool (bad || !accG d[k]! σ)] 145),ownA zav 3 34 (.slice a d.size c) (d),zal ab mb 139 29 (acc1 d[k]! σ)]:=by
 refine Fn.enter (Tryz.func20) Z Z (fun w0 R=>?_)
 refine sA (xaf Z (dB (xmp Z (xD [0] zg4 zm8 Z ?_))))
 rw [decide_eq_false (show ¬((k:Nat):Int)=(d.size:Int) by omega)]
 refine TL.done (TQ.then (TC.condF Z (TC.skip (TQ.then (TC.seq (TC.draw (od [1,7,9,11,13,15,17,19,21,23,25,27,29,31,33,2,5,34,37,39,41,43,45]) [0] fc_m (by kernel_rfl) (xmp Z (xmp Z ?_))))))))
 refine xN0 Z (xf 0 zjG Z (xls 0 zcf Z Z (xmp Z (xN0 Z (xf 1 zcB Z (xli 0 zad Z Z (xmp Z (xN0 Z ?_))))))))
 refine xf 1 zcB Z (xli 0 zad Z Z (TL.add (((k+1:Nat):Int)) Z Z (wrN (by omega)) Z Z (TL.slLH Z Z Z zam (by omega) (by omega) Z Z (xd [] zfh zjJ Z (kL1 Z Zt) (TL.miN (v:=(.agg _)) Z zgM Z Z ?_)))))
 have e9:k+1 - k=1:=by omega
 rw [e9]
 refine xd [2,1] (zqp (x:=d[k]!) (fun _=>zfI ha (by omega) (by omega)) (((zaP ha).drop k 1 (by omega)).congr fun i hi=>by obtain rfl:i=0:=(by omega); rfl) (hv k hk)) zAE rfl (kL1 rfl trivial) (xmu rfl (xei rfl rfl (TL.ext (.bool _) rfl rfl rfl rfl (xai rfl (xab rfl (dA (xmp rfl (xmp rfl ?_))))))))
 refine xN0 rfl (xf 2 zfq rfl (xlb 0 zd3 rfl rfl (xmb rfl (TL.cases rfl (fun q1=>?_) (fun q1=>?_)))))
 refine xo Z (xo Z (xpT Z (xN0 Z (xf 2 zfq Z (TL.st 0 #[_,_,_] (.bool true) Z Z Z Z Z Z zd3 Z Z Zt (dA (xmp Z (xN0 Z ?_))))))))
 refine xf 1 zcB Z (xli 0 zad Z Z (TL.add (((k+1:Nat):Int)) Z Z (wrN (by omega)) Z Z (xN0 Z (xf 1 zcB Z (TL.st 0 #[_,_,_] (.int _ _) Z Z Z Z Z Z zad Z Z Zt (dA (xmp Z (xD [0] zg4 zm8 Z ?_))))))))
 refine xab Z (dR ?_)
 refine FQ.ret1 (v:=(.bool _)) (Bs:=[_,_,_]) [0,1,2] Z Z Z ⟨Z,Z,Z,Zt⟩ ?_
 exact ⟨congrArg Value.bool (decide_eq_decide.2 (by omega)),by first | rfl | (simp only [*]; rfl) | simp [*]⟩
 refine xmb Z (TL.not _ _ Z Z Z Z (TL.pickF (.bool _) Z Z Z Z (xN0 Z (xf 2 zfq Z (TL.st 0 #[_,_,_] (.bool _) Z Z Z Z Z Z zd3 Z Z Zt (dA (xmp Z (xN0 Z ?_))))))))
 refine xf 1 zcB Z (xli 0 zad Z Z (TL.add (((k+1:Nat):Int)) Z Z (wrN (by omega)) Z Z (xN0 Z (xf 1 zcB Z (TL.st 0 #[_,_,_] (.int _ _) Z Z Z Z Z Z zad Z Z Zt (dA (xmp Z (xD [0] zg4 zm8 Z ?_))))))))
 refine xab Z (dR ?_)
 refine FQ.ret1 (v:=(.bool _)) (Bs:=[_,_,_]) [0,1,2] Z Z Z ⟨Z,Z,Z,Zt⟩ ?_
 exact ⟨congrArg Value.bool (decide_eq_decide.2 (by omega)),by first | rfl | (simp only [*]; rfl) | simp [*]⟩
set_option maxHeartbeats 2000000 in
theorem zuK {l:Lay} (hl:l.Ok) {wb tb:Nat} {hv:Value} {p:Pen} {u v:Int} {a:Option Addr} {b off n c pn:Nat} {A:Assn} {d:Array Acc} (ha:0<n->a=some ⟨b,off,none⟩) (hn:n<=137438953471) (hsz:d.size=n) (hA:zbj A zav 3 b off n (fun i=>d[i]!)) (hpn:pn<=n) (hnc:n<=c):Go.Eng.Fn Tryz.prog 159 [.pointer (some ⟨wb,0,none⟩),.slice a n c,.int .i64 (pn:Int)] [zgo 198 wb tb 186 (hv) l p (u) (v),A] (fun x Bs=>∃ v9,x=.tuple #[v9,.int .i64 (zgL l d pn).2]/\Bs=[zgo 198 wb tb 186 (hv) l p (u) (v),A,ownA zav 3 34 (v9) ((zgL l d pn).1)]):=by
 have hnb:=zaB hl
 have hsl:=zdD l l.nodes.toNat
 obtain ⟨SA,hSA⟩:∃ SA,SA=zax l l.nodes.toNat:=⟨_,rfl⟩
 rw [<-hSA] at hsl
 refine Fn.enter (Tryz.func159) Z Z (fun w0 R=>?_)
 refine sA (TL.asg (.slice none 0 0) Z Z Z (xai Z (dA (TL.mkMA 2 (fun z:Int=>.int .i64 z) (intV) Z Z (fun bk2=>⟨Zt,?_⟩)))))
 refine TL.mkMA 3 (fun z:Int=>.int .i64 z) (intV) Z Z (fun bk3=>⟨Zt,?_⟩)
 refine TL.asg (.map _) Z Z Z (TL.asg (.map _) Z Z Z (dB (xmp Z (TL.call [0] [0,4] (ziW hl) ⟨Z,Zt⟩ ⟨Z,Zt⟩ zom Z Z Z Z ?_))))
 rintro x Bs rfl
 refine ⟨Z,Zt,?_⟩
 rw [<-hSA]
 refine TL.ownW 4 Z (fun a6 g6 c6 hv6 hc6 ha6=>?_)
 cases hv6
 refine xz zah Z (xmi Z (dK (TC.loopK (X:=Nat) [0,1,2,6,7,8,9,26,27] [0,1,4] (fun k=>[(28,.int .i64 ((k:Nat):Int))]) (fun k=>[(2,mapA bk2 (fun z:Int=>.int .i64 z) intV ((zgJ l d pn SA (k)).1)),(3,mapA bk3 (fun z:Int=>.int .i64 z) intV ((zgJ l d pn SA (k)).2))]) (fun k=>k<=SA.size) (fun k=>SA.size - k) (0) (Nat.zero_le _) ⟨Z,Zt⟩ ⟨Z,Z,Zt⟩ (fun k hI=>(TC.sub (env':=[(28,_),(0,_),(1,_),(2,_),(6,_),(7,_),(8,_),(9,_),(26,_),(27,_)]) (L':=[(2,_),(3,_),(0,_),(1,_),(4,_)]) ⟨Z,Z,Z,Z,Z,Z,Z,Z,Z,Z,Zt⟩ ⟨Z,Z,Z,Z,Z,Zt⟩ (sA ?_))))))
 refine TL.lss Z Z Z Z (fun q1=>?_) (fun q1=>?_)
 refine dS (TC.condT Z (TC.skip (TQ.then (TC.seq (TC.block (sA (TL.iaO Z ha6 Z zah (by omega) Z Z (TL.ldRS 4 (.int _ _) Z Z (zaP ha6) (by omega) (Z) zad Z Z ?_))))))))
 refine xai Z (dA (xmp Z (xN0 Z (xf 1 zbp Z (xL3 0 zab Z Z (xmi Z (xD [] (zbc hl) zcq Z (xai Z ?_))))))))
 refine dA (xms Z (xmi Z (TL.slHi Z Z zam (by omega) Z Z (xz zam Z (xmi Z (dK (TC.loopK (X:=Nat) [0,1,2,6,7,8,9,12,26,27,28,40,41] [0,1,4] (fun i=>[(42,.int .i64 ((i:Nat):Int))]) (fun i=>[(2,mapA bk2 (fun z:Int=>.int .i64 z) intV ((zdO d (l.field SA[k]! 2) (i) (zgJ l d pn SA (k))).1)),(3,mapA bk3 (fun z:Int=>.int .i64 z) intV ((zdO d (l.field SA[k]! 2) (i) (zgJ l d pn SA (k))).2))]) (fun i=>i<=pn) (fun i=>pn - i) (0) (Nat.zero_le _) ⟨Z,Zt⟩ ⟨Z,Z,Zt⟩ (fun i hI=>?_))))))))
 refine TC.sub (env':=[(42,_),(0,_),(1,_),(2,_),(6,_),(7,_),(8,_),(9,_),(12,_),(26,_),(27,_),(28,_),(40,_),(41,_)]) (L':=[(2,_),(3,_),(0,_),(1,_),(4,_)]) ⟨Z,Z,Z,Z,Z,Z,Z,Z,Z,Z,Z,Z,Z,Z,Zt⟩ ⟨Z,Z,Z,Z,Z,Zt⟩ (sA (TL.lss Z Z Z Z (fun q2=>?_) (fun q2=>?_)))
 refine dS (TC.condT Z (TC.skip (TQ.then (TC.seq (TC.block (sA (xmi Z (TL.iaO Z (fun _=>zfI ha hnc (by omega)) Z zam (by omega) Z Z ?_))))))))
 refine TL.ldR 1 Z Z (hA.take hpn) (by omega) zcs Z Z (TL.alloc 5 (cs:=#[.bool false,.int .i64 0,.int .u64 0]) zeB Z Z Z (fun _=>Zt) (fun bk5=>(xai Z (TL.stW 5 3 [_,_,_] Z Z Z Z Z Z zcs Z Z Zt (dB (xf 0 zd8 Z (xlb 5 zd3 Z Z (TL.not _ _ Z Z Z Z (xmb Z ?_)))))))))
 refine TL.cases rfl (fun q3=>?_) (fun q3=>?_)
 refine xo Z (xo Z (xo Z (xo Z (xpT Z (TL.done (TQ.then (TC.condT Z (TC.exit ?_))))))))
 refine TQ.thenExit (TQ.blockHere (TQ.then (TC.region (TL.add (((i+1:Nat):Int)) Z Z (wrN (by omega)) Z Z (xmi Z (TL.done (TQ.roundK (i+1) ⟨by omega,by omega⟩ ⟨Z,Zt⟩ ⟨congrArg (fun z:List (Int×Int)×List (Int×Int)=>some (mapA bk2 (fun z:Int=>.int .i64 z) intV (z.1))) (ziD (row:=d) (i:=i) (fun h9=>by simp_all)),congrArg (fun z:List (Int×Int)×List (Int×Int)=>some (mapA bk3 (fun z:Int=>.int .i64 z) intV (z.2))) (ziD (row:=d) (i:=i) (fun h9=>by simp_all)),Zt⟩ (kE8 Z Z Z Z Z Z Z Z (kE5 Z Z Z Z Z Zt)) (kL3 Z Z Z Zt))))))))
 refine xf 1 zbT Z (xli 5 zad Z Z (xmi Z (TL.neq Z Z Z Z (fun q4=>?_) (fun q4=>?_))))
 refine xpH Z (TL.done (TQ.then (TC.condT Z (TC.exit (TQ.thenExit (TQ.blockHere (TQ.then (TC.region ?_))))))))
 refine TL.add (((i+1:Nat):Int)) Z Z (wrN (by omega)) Z Z (xmi Z (TL.done (TQ.roundK (i+1) ⟨by omega,by omega⟩ ⟨Z,Zt⟩ ⟨congrArg (fun z:List (Int×Int)×List (Int×Int)=>some (mapA bk2 (fun z:Int=>.int .i64 z) intV (z.1))) (ziD (row:=d) (i:=i) (fun h9=>by simp_all)),congrArg (fun z:List (Int×Int)×List (Int×Int)=>some (mapA bk3 (fun z:Int=>.int .i64 z) intV (z.2))) (ziD (row:=d) (i:=i) (fun h9=>by simp_all)),Zt⟩ (kE8 Z Z Z Z Z Z Z Z (kE5 Z Z Z Z Z Zt)) (kL3 Z Z Z Zt))))
 refine xpF Z (TL.done (TQ.then (TC.condF Z (TC.skip (TQ.then (sB (TL.mv (.map _) Z Z Z (xmi Z ?_))))))))
 refine TL.lkD2 2 (q:=l.field SA[k]! 2) ((0:Int)) rfl rfl rfl zcC (zic zaQ) zfT rfl rfl trivial (xmu rfl (xei rfl rfl (TL.ext (.bool _) rfl rfl rfl rfl (xai rfl (xab rfl (dA (xmb rfl (TL.cases rfl (fun q5=>?_) (fun q5=>?_)))))))))
 refine xnt Z (TL.done (TQ.then (TC.condF Z (TC.skip (TQ.then (TC.region (TL.mv (.map _) Z Z Z (xmi Z ?_))))))))
 refine xmi Z (TL.muA 3 (q:=l.field SA[k]! 2) (b:=(i:Int)) Z Z Z Z zcC (zic zaQ) Z Z Zt (dI (TL.add (((i+1:Nat):Int)) Z Z (wrN (by omega)) Z Z (xmi Z (TL.done ?_)))))
 refine TQ.roundK (i+1) ⟨by omega,by omega⟩ ⟨Z,Zt⟩ ⟨congrArg (fun z=>some (mapA bk2 (fun z:Int=>.int .i64 z) intV (z))) (zmI (show d[i]!.store=true by simpa using q3) (show d[i]!.cell=l.field SA[k]! 2 from Decidable.not_not.1 q4) q5).1,congrArg (fun z=>some (mapA bk3 (fun z:Int=>.int .i64 z) intV (z))) (zmI (show d[i]!.store=true by simpa using q3) (show d[i]!.cell=l.field SA[k]! 2 from Decidable.not_not.1 q4) q5).2,Zt⟩ (kE8 Z Z Z Z Z Z Z Z (kE5 Z Z Z Z Z Zt)) (kL3 Z Z Z Zt)
 refine xnf Z (TL.done (TQ.then (TC.condT Z (TC.region (TL.mv (.map _) Z Z Z (xmi Z (xmi Z (TL.muA 2 (q:=l.field SA[k]! 2) (b:=(i:Int)) Z Z Z Z zcC (zic zaQ) Z Z Zt ?_))))))))
 refine dG (TL.mv (.map _) Z Z Z (xmi Z (xmi Z (TL.muA 3 (q:=l.field SA[k]! 2) (b:=(i:Int)) Z Z Z Z zcC (zic zaQ) Z Z Zt (dI (TL.add (((i+1:Nat):Int)) Z Z (wrN (by omega)) Z Z (xmi Z (TL.done ?_))))))))
 refine TQ.roundK (i+1) ⟨by omega,by omega⟩ ⟨Z,Zt⟩ ⟨congrArg (fun z=>some (mapA bk2 (fun z:Int=>.int .i64 z) intV (z))) (zmJ (show d[i]!.store=true by simpa using q3) (show d[i]!.cell=l.field SA[k]! 2 from Decidable.not_not.1 q4) q5).1,congrArg (fun z=>some (mapA bk3 (fun z:Int=>.int .i64 z) intV (z))) (zmJ (show d[i]!.store=true by simpa using q3) (show d[i]!.cell=l.field SA[k]! 2 from Decidable.not_not.1 q4) q5).2,Zt⟩ (kE8 Z Z Z Z Z Z Z Z (kE5 Z Z Z Z Z Zt)) (kL3 Z Z Z Zt)
 refine dS (TC.condF Z (TC.exit (TQ.thenExit (TQ.thenExit (TQ.blockHere (TQ.inBlock (TQ.then (TC.region ?_))))))))
 refine TL.add (((k+1:Nat):Int)) rfl rfl (wrN (by omega)) rfl rfl (xmi rfl (TL.done (TQ.roundK (k+1) ⟨by omega,by omega⟩ ⟨rfl,trivial⟩ ⟨by obtain rfl:i=pn:=(by omega); rfl,by obtain rfl:i=pn:=(by omega); rfl,trivial⟩ (kE8 rfl rfl rfl rfl rfl rfl rfl rfl (kE1 rfl trivial)) (kL3 rfl rfl rfl trivial))))
 refine dS (TC.condF Z (TC.exit (TQ.thenExit (TQ.thenExit (TQ.blockHere (TQ.then (TC.seq ?_)))))))
 obtain rfl:k=SA.size:=by omega
 obtain ⟨Q,hQ⟩:∃ Q,Q=zgJ l d pn SA (SA.size):=⟨_,rfl⟩
 rw [<-hQ]
 refine TC.region (TL.asg (.slice none 0 0) Z Z Z (dS (TC.nilA 6 (A:=ownA zav 3 34 (.slice none 0 0) #[]) (.inl ⟨Z,Z⟩) (TC.region (xai Z (dB (xms Z (xz zam Z ?_))))))))
 refine xmi Z (dK (TC.loopK (X:=Nat×Value) [2,6,7,8,9,72,73] [0,1,2,3,4] (fun ⟨k,v7⟩=>[(74,.int .i64 ((k:Nat):Int)),(17,v7),(18,.int .i64 (onceO d pn Q (k)).2)]) (fun ⟨k,v7⟩=>[(6,ownA zav 3 34 (v7) ((onceO d pn Q (k)).1))]) (fun ⟨k,v7⟩=>k<=n) (fun ⟨k,v7⟩=>n - k) ((0,.slice none 0 0)) (Nat.zero_le _) ⟨Z,Z,Z,Zt⟩ ⟨Z,Zt⟩ (fun y hI=>?_)))
 obtain ⟨k,v7⟩:=y
 replace hI:k<=n:=hI
 refine TC.sub (env':=[(74,_),(17,_),(18,_),(2,_),(6,_),(7,_),(8,_),(9,_),(72,_),(73,_)]) (L':=[(6,_),(0,_),(1,_),(2,_),(3,_),(4,_)]) ⟨Z,Z,Z,Z,Z,Z,Z,Z,Z,Z,Zt⟩ ⟨Z,Z,Z,Z,Z,Z,Zt⟩ (sA (TL.lss Z Z Z Z (fun q2=>?_) (fun q2=>?_)))
 refine dS (TC.condT Z (TC.skip (TQ.then (TC.seq (TC.block (sA (xmi Z (TL.iaO Z ha Z zam (by omega) Z Z ?_))))))))
 refine TL.ldR 1 Z Z hA (by omega) zcs Z Z (TL.alloc 7 (cs:=#[.bool false,.int .i64 0,.int .u64 0]) zeB Z Z Z (fun _=>Zt) (fun bk7=>(xai Z (TL.stW 7 3 [_,_,_] Z Z Z Z Z Z zcs Z Z Zt (dB (xmi Z (xmi Z (TL.eql Z Z Z Z (fun q3=>?_) (fun q3=>?_)))))))))
 refine TL.done (TQ.then (TC.condT Z (TC.ownW 6 Z (fun a7 g7 c7 hv7 hc7 ha7=>?_))))
 cases hv7
 refine TC.region (xmv Z (xz zam Z (xai Z (dB (TL.mv (.map _) Z Z Z (xf 1 zbT Z (xli 7 zad Z Z (TL.lkD2 2 (q:=d[k]!.cell) ((0:Int)) Z Z Z zcC (zic zaQ) zfT Z Z Zt ?_))))))))
 refine xmu rfl (xei rfl rfl (TL.ext (.bool _) rfl rfl rfl rfl (xai rfl (xab rfl (dA (xmb rfl (TL.cases rfl (fun q4=>?_) (fun q4=>?_))))))))
 refine xmt Z (xmi Z (xmi Z (TL.geq Z Z Z Z (fun q5=>?_) (fun q5=>?_))))
 refine xpT Z (xmt Z (xmi Z (TL.mv (.map _) Z Z Z (xf 1 zbT Z (xli 7 zad Z Z (TL.lkD1 3 (q:=d[k]!.cell) ((0:Int)) Z Z Z zcC (zic zaQ) zfT Z Z Zt (TL.lss Z Z Z Z (fun q6=>?_) (fun q6=>?_))))))))
 refine xpT Z (TL.done (TQ.then (TC.condT Z (TC.exit (TQ.thenExit (TQ.blockHere (TQ.then (TC.region ?_))))))))
 refine TL.add (((k+1:Nat):Int)) Z Z (wrN (by omega)) Z Z (xmi Z (TL.done (TQ.roundK ((k+1,_)) ⟨(show k+1<=n by omega),(show n - (k+1)<n - k by omega)⟩ ⟨Z,Z,congrArg (fun z=>some (Value.int .i64 z)) (zlp (by assumption)),Zt⟩ ⟨congrArg (fun z=>some (ownA zav 3 34 (_) (z))) (zsd (zmr (by assumption) (by assumption) (by assumption))),Zt⟩ (kE7 Z Z Z Z Z Z Z Zt) (kL5 Z Z Z Z Z Zt))))
 refine xpG Z (TL.done (TQ.then (TC.condF Z (TC.skip (TQ.then (TC.region (xmv Z (xL3 7 zcs Z Z ?_))))))))
 refine TL.bsN 8 [_] (zav d[k]!) zam zeB ⟨Z,Zt⟩ Z (lit1 Z) Z Z (fun bk8=>⟨Zt,?_⟩)
 refine TL.appS 6 8 (d2:=#[d[k]!]) Z (Z) Z (fun _=>Z) Z Z (row1 Z) zcH (by decide) zca (by have:=zff (row:=d) (pt:=pn) (q:=Q) k; simp; omega) Z Z (fun v9=>⟨Zt,?_⟩)
 refine xav Z (dI (TL.add (((k+1:Nat):Int)) Z Z (wrN (by omega)) Z Z (xmi Z (TL.done (TQ.roundK ((k+1,_)) ⟨(show k+1<=n by omega),(show n - (k+1)<n - k by omega)⟩ ⟨Z,Z,congrArg (fun z=>some (Value.int .i64 z)) (zlp (by assumption)),Zt⟩ ⟨congrArg (fun z=>some (ownA zav 3 34 (_) (z))) (zhH (zoX (by assumption))),Zt⟩ (kE7 Z Z Z Z Z Z Z Zt) (kL5 Z Z Z Z Z Zt))))))
 refine xpG Z (xmf Z (xo Z (xo Z (xo Z (xo Z (xo Z (xo Z (xpF Z ?_))))))))
 refine TL.done (TQ.then (TC.condF Z (TC.skip (TQ.then (TC.region (xmv Z (xL3 7 zcs Z Z (TL.bsN 10 [_] (zav d[k]!) zam zeB ⟨Z,Zt⟩ Z (lit1 Z) Z Z (fun bk10=>⟨Zt,?_⟩)))))))))
 refine TL.appS 6 10 (d2:=#[d[k]!]) Z (Z) Z (fun _=>Z) Z Z (row1 Z) zcH (by decide) zca (by have:=zff (row:=d) (pt:=pn) (q:=Q) k; simp; omega) Z Z (fun v11=>⟨Zt,?_⟩)
 refine xav Z (dI (TL.add (((k+1:Nat):Int)) Z Z (wrN (by omega)) Z Z (xmi Z (TL.done (TQ.roundK ((k+1,_)) ⟨(show k+1<=n by omega),(show n - (k+1)<n - k by omega)⟩ ⟨Z,Z,congrArg (fun z=>some (Value.int .i64 z)) (zlp (by assumption)),Zt⟩ ⟨congrArg (fun z=>some (ownA zav 3 34 (_) (z))) (zhH (zoY (by assumption))),Zt⟩ (kE7 Z Z Z Z Z Z Z Zt) (kL5 Z Z Z Z Z Zt))))))
 refine xmf Z (xo Z (xo Z (xo Z (xpF Z (xmf Z (xo Z (xo Z (xo Z ?_))))))))
 refine xo Z (xo Z (xo Z (xpF Z (TL.done (TQ.then (TC.condF Z (TC.skip (TQ.then ?_))))))))
 refine TC.region (xmv Z (xL3 7 zcs Z Z (TL.bsN 12 [_] (zav d[k]!) zam zeB ⟨Z,Zt⟩ Z (lit1 Z) Z Z (fun bk12=>⟨Zt,?_⟩))))
 refine TL.appS 6 12 (d2:=#[d[k]!]) Z (Z) Z (fun _=>Z) Z Z (row1 Z) zcH (by decide) zca (by have:=zff (row:=d) (pt:=pn) (q:=Q) k; simp; omega) Z Z (fun v13=>⟨Zt,?_⟩)
 refine xav Z (dI (TL.add (((k+1:Nat):Int)) Z Z (wrN (by omega)) Z Z (xmi Z (TL.done (TQ.roundK ((k+1,_)) ⟨(show k+1<=n by omega),(show n - (k+1)<n - k by omega)⟩ ⟨Z,Z,congrArg (fun z=>some (Value.int .i64 z)) (zlp (by assumption)),Zt⟩ ⟨congrArg (fun z=>some (ownA zav 3 34 (_) (z))) (zhH (zoZ (by assumption))),Zt⟩ (kE7 Z Z Z Z Z Z Z Zt) (kL5 Z Z Z Z Z Zt))))))
 refine TL.done (TQ.then (TC.condF Z (TC.skip (TQ.then (sB (TL.mv (.map _) Z Z Z (xf 1 zbT Z (xli 7 zad Z Z ?_))))))))
 refine TL.lkD2 2 (q:=d[k]!.cell) ((0:Int)) rfl rfl rfl zcC (zic zaQ) zfT rfl rfl trivial (xmu rfl (xei rfl rfl (TL.ext (.bool _) rfl rfl rfl rfl (xai rfl (xab rfl (dA (xmb rfl (TL.cases rfl (fun q4=>?_) (fun q4=>?_)))))))))
 refine xmt Z (xmi Z (xmi Z (TL.geq Z Z Z Z (fun q5=>?_) (fun q5=>?_))))
 refine xpT Z (xmt Z (xmi Z (TL.mv (.map _) Z Z Z (xf 1 zbT Z (xli 7 zad Z Z (TL.lkD1 3 (q:=d[k]!.cell) ((0:Int)) Z Z Z zcC (zic zaQ) zfT Z Z Zt (TL.lss Z Z Z Z (fun q6=>?_) (fun q6=>?_))))))))
 refine xpT Z (TL.done (TQ.then (TC.condT Z (TC.exit (TQ.thenExit (TQ.blockHere (TQ.then (TC.region ?_))))))))
 refine TL.add (((k+1:Nat):Int)) Z Z (wrN (by omega)) Z Z (xmi Z (TL.done (TQ.roundK ((k+1,_)) ⟨(show k+1<=n by omega),(show n - (k+1)<n - k by omega)⟩ ⟨Z,Z,congrArg (fun z=>some (Value.int .i64 z)) (zlq (by assumption)),Zt⟩ ⟨congrArg (fun z=>some (ownA zav 3 34 (_) (z))) (zsd (zmr (by assumption) (by assumption) (by assumption))),Zt⟩ (kE7 Z Z Z Z Z Z Z Zt) (kL5 Z Z Z Z Z Zt))))
 refine xpG Z (TL.done (TQ.then (TC.condF Z (TC.skip (TQ.then (TC.region (xmv Z (xL3 7 zcs Z Z ?_))))))))
 refine TL.bsN 14 [_] (zav d[k]!) zam zeB ⟨Z,Zt⟩ Z (lit1 Z) Z Z (fun bk14=>⟨Zt,?_⟩)
 refine TL.appS 6 14 (d2:=#[d[k]!]) Z (Z) Z (fun _=>Z) Z Z (row1 Z) zcH (by decide) zca (by have:=zff (row:=d) (pt:=pn) (q:=Q) k; simp; omega) Z Z (fun v15=>⟨Zt,?_⟩)
 refine xav Z (dI (TL.add (((k+1:Nat):Int)) Z Z (wrN (by omega)) Z Z (xmi Z (TL.done (TQ.roundK ((k+1,_)) ⟨(show k+1<=n by omega),(show n - (k+1)<n - k by omega)⟩ ⟨Z,Z,congrArg (fun z=>some (Value.int .i64 z)) (zlq (by assumption)),Zt⟩ ⟨congrArg (fun z=>some (ownA zav 3 34 (_) (z))) (zhH (zoX (by assumption))),Zt⟩ (kE7 Z Z Z Z Z Z Z Zt) (kL5 Z Z Z Z Z Zt))))))
 refine xpG Z (xmf Z (xo Z (xo Z (xo Z (xo Z (xo Z (xo Z (xpF Z ?_))))))))
 refine TL.done (TQ.then (TC.condF Z (TC.skip (TQ.then (TC.region (xmv Z (xL3 7 zcs Z Z (TL.bsN 16 [_] (zav d[k]!) zam zeB ⟨Z,Zt⟩ Z (lit1 Z) Z Z (fun bk16=>⟨Zt,?_⟩)))))))))
 refine TL.appS 6 16 (d2:=#[d[k]!]) Z (Z) Z (fun _=>Z) Z Z (row1 Z) zcH (by decide) zca (by have:=zff (row:=d) (pt:=pn) (q:=Q) k; simp; omega) Z Z (fun v17=>⟨Zt,?_⟩)
 refine xav Z (dI (TL.add (((k+1:Nat):Int)) Z Z (wrN (by omega)) Z Z (xmi Z (TL.done (TQ.roundK ((k+1,_)) ⟨(show k+1<=n by omega),(show n - (k+1)<n - k by omega)⟩ ⟨Z,Z,congrArg (fun z=>some (Value.int .i64 z)) (zlq (by assumption)),Zt⟩ ⟨congrArg (fun z=>some (ownA zav 3 34 (_) (z))) (zhH (zoY (by assumption))),Zt⟩ (kE7 Z Z Z Z Z Z Z Zt) (kL5 Z Z Z Z Z Zt))))))
 refine xmf Z (xo Z (xo Z (xo Z (xpF Z (xmf Z (xo Z (xo Z (xo Z ?_))))))))
 refine xo Z (xo Z (xo Z (xpF Z (TL.done (TQ.then (TC.condF Z (TC.skip (TQ.then ?_))))))))
 refine TC.region (xmv Z (xL3 7 zcs Z Z (TL.bsN 18 [_] (zav d[k]!) zam zeB ⟨Z,Zt⟩ Z (lit1 Z) Z Z (fun bk18=>⟨Zt,?_⟩))))
 refine TL.appS 6 18 (d2:=#[d[k]!]) Z (Z) Z (fun _=>Z) Z Z (row1 Z) zcH (by decide) zca (by have:=zff (row:=d) (pt:=pn) (q:=Q) k; simp; omega) Z Z (fun v19=>⟨Zt,?_⟩)
 refine xav Z (dI (TL.add (((k+1:Nat):Int)) Z Z (wrN (by omega)) Z Z (xmi Z (TL.done (TQ.roundK ((k+1,_)) ⟨(show k+1<=n by omega),(show n - (k+1)<n - k by omega)⟩ ⟨Z,Z,congrArg (fun z=>some (Value.int .i64 z)) (zlq (by assumption)),Zt⟩ ⟨congrArg (fun z=>some (ownA zav 3 34 (_) (z))) (zhH (zoZ (by assumption))),Zt⟩ (kE7 Z Z Z Z Z Z Z Zt) (kL5 Z Z Z Z Z Zt))))))
 refine dS (TC.condF Z (TC.exit (TQ.thenExit (TQ.thenExit (TQ.blockHere (TQ.then (sA (xmv Z ?_))))))))
 refine xmi Z (xav Z (xai Z (dR ?_)))
 refine FQ.ret2 (v:=_) (x:=(.int _ _)) (Bs:=[_,_,_]) [0,1,6] Z Z Z Z ⟨Z,Z,Z,Zt⟩ ?_
 obtain rfl:k=n:=by omega
 exact ⟨_,by subst hQ hSA hsz; rfl,by subst hQ hSA hsz; rfl⟩
theorem zxh {l:Lay} (hl:l.Ok) {wb tb ab mb:Nat} {hv:Value} {p:Pen} {u v:Int} {held:Array Int} {k:Nat} {σ σ1 σ2:Tr} {x y:Int} (hr1:root l k σ (l.vertex 0 u)=some (x,σ1)) (hr2:root l k σ1 (l.vertex 0 v)=some (y,σ2)) (hk:k<=561) (hh2:held.size<=2) (hz:Room 20000 σ):Go.Eng.Fn Tryz.prog 119 [.pointer (some ⟨wb,0,none⟩),.bool false] [zgo 198 wb tb 186 (hv) l p (u) (v),zbl tb ab mb 264 139 29 34 (σ),rowS (hv) (held)] (fun r Bs=>∃ xa xc ya yc B1 B2 B3,r=.agg #[.slice xa ((⟨σ2.row,zeF σ2.row (l.edge u v) σ2.row.size,false,zaw x y⟩:PlanS)).work.size xc,.int .i64 ((⟨σ2.row,zeF σ2.row (l.edge u v) σ2.row.size,false,zaw x y⟩:PlanS)).point,.bool ((⟨σ2.row,zeF σ2.row (l.edge u v) σ2.row.size,false,zaw x y⟩:PlanS)).tree,.slice ya ((⟨σ2.row,zeF σ2.row (l.edge u v) σ2.row.size,false,zaw x y⟩:PlanS)).roots.size yc]/\Bs=[B1,B2,B3,ownA zav 3 34 (.slice xa ((⟨σ2.row,zeF σ2.row (l.edge u v) σ2.row.size,false,zaw x y⟩:PlanS)).work.size xc) (((⟨σ2.row,zeF σ2.row (l.edge u v) σ2.row.size,false,zaw x y⟩:PlanS)).work),rowS (.slice ya ((⟨σ2.row,zeF σ2.row (l.edge u v) σ2.row.size,false,zaw x y⟩:PlanS)).roots.size yc) ((⟨σ2.row,zeF σ2.row (l.edge u v) σ2.row.size,false,zaw x y⟩:PlanS)).roots]):=by
 have hnb:=zaB hl
 have hsl:=zdD l l.nodes.toNat
 have hz2:Room 15000 σ2:=zdS hr2 (zdS hr1 (hz.le (by omega)))
 have hsn:(zax l l.nodes.toNat).size<=560:=by omega
 have hwl:=zdW (x:=x) (y:=y)
 refine Fn.enter (Tryz.func119) Z Z (fun w0 R=>?_)
 refine sA (TL.alloc 3 (cs:=#[.slice none 0 0,.int .i64 0,.bool false,.slice none 0 0]) zb1 Z Z Z (fun _=>Zt) (fun bk3=>(dA (xmf Z (xmp Z (TL.call [0,1] [0,1,4] (zmb hl hr1 hr2 (hz.le (by omega))) ⟨Z,Zt⟩ ⟨Z,Z,Zt⟩ ztK Z Z Z Z ?_))))))
 rintro r Bs rfl
 refine ⟨Z,Zt,?_⟩
 refine TL.rowS 4 Z (fun a8 b8 o8 c8 hv8 hc8 ha8=>⟨Zt,?_⟩)
 cases hv8
 refine TL.bld [.slice none 0 0,.int .i64 0,.bool false,.slice none 0 0] [(.bool false),(.slice _ _ _)] [_,_,_,_] zb1 zeV ⟨Z,Z,Zt⟩ ⟨Z,Z⟩ Z Z (TL.alloc 5 (cs:=#[.slice none 0 0,.int .i64 0,.bool false,.slice none 0 0]) zb1 Z Z Z (fun _=>Zt) (fun bk5=>(TL.stW 5 4 [_,_,_,_] Z Z Z Z Z Z zat Z Z Zt (dB (xmf Z (xnf Z (dT Z (xmp Z (xN0 Z ?_)))))))))
 refine xf 0 zbg Z (xlp 0 zc8 Z Z (TL.call [1] [1,6] (znw (hz2.le (by omega))) ⟨Z,Zt⟩ ⟨Z,Zt⟩ zop Z Z Z Z ?_))
 rintro v Bs rfl
 refine ⟨Z,Zt,?_⟩
 refine TL.ownW 6 Z (fun a7 g7 c7 hv7 hc7 ha7=>?_)
 cases hv7
 refine xf 0 za9 Z (TL.st 5 #[_,_,_,_] (.slice _ _ _) Z Z Z Z Z Z zcf Z Z Zt (dS (TC.draw2 [(0,true),(1,true),(2,true),(3,true),(4,true),(5,true),(6,true),(7,true),(8,true),(9,true),(10,true),(11,true),(12,true),(13,true),(14,false),(15,false),(16,true)] 17 [] [0,5] fc_m (by kernel_rfl) (xf 0 za9 Z (xls 5 zcf Z Z (xmp Z (xN0 Z (xf 1 zbp Z ?_))))))))
 refine xL3 0 zab Z Z (xmp Z (xN0 Z (xf 17 zb3 Z (xli 0 zad Z Z (xmp Z (xN0 Z (xf 18 zb2 Z (xli 0 zad Z Z ?_))))))))
 refine xd [] (zjW hl) zjR Z (kL2 Z Z Zt) (xd [6] (zuM ha7 (by have:=zcR.1 hz2; omega) Z (zaP ha7)) zzj Z (kL2 Z Z Zt) (xf 1 zcj Z (TL.late (TL.st 5 #[_,_,_,_] (.int _ _) Z Z Z Z Z Z zad Z Z Zt (dA (xL4 5 zat Z Z (TL.stW 3 4 [_,_,_,_] Z Z Z Z Z Z zat Z Z Zt (dRR ?_))))))))
 refine TQ.conseq 4 (B:=rowS _ (zaw x y)) Z (fun _ h=>⟨_,_,_,_,Z,hc8,ha8,h⟩) ?_
 refine FQ.retG (rs:=[.cell 4 50]) [(.agg _)] (Bs:=[_,_,_,_,_]) [0,1,2,6,4] Z ⟨⟨_,_,_,_,_,3,Z,Z,.inr ⟨4,[_,_,_,_],zat,Z,Z⟩⟩,Zt⟩ Z Z ⟨Z,Z,Z,Z,Z,Zt⟩ ?_
 exact ⟨_,_,_,_,_,_,_,Z,Z⟩
set_option maxHeartbeats 2000000 in
theorem zxg {l:Lay} (hl:l.Ok) {wb tb ab mb:Nat} {hv:Value} {p:Pen} {u v:Int} {held:Array Int} {k:Nat} {σ σ1 σ2:Tr} {x y:Int} (hr1:root l k σ (l.vertex 0 u)=some (x,σ1)) (hr2:root l k σ1 (l.vertex 0 v)=some (y,σ2)) (hk:k<=561) (hh2:held.size<=2) (hz:Room 20000 σ) (hne:0<σ2.row.size):Go.Eng.Fn Tryz.prog 119 [.pointer (some ⟨wb,0,none⟩),.bool true] [zgo 198 wb tb 186 (hv) l p (u) (v),zbl tb ab mb 264 139 29 34 (σ),rowS (hv) (held)] (fun r Bs=>∃ xa xc ya yc B1 B2 B3,r=.agg #[.slice xa (planT l p held (zaw x y) σ2).work.size xc,.int .i64 (planT l p held (zaw x y) σ2).point,.bool (planT l p held (zaw x y) σ2).tree,.slice ya (planT l p held (zaw x y) σ2).roots.size yc]/\Bs=[B1,B2,B3,ownA zav 3 34 (.slice xa (planT l p held (zaw x y) σ2).work.size xc) ((planT l p held (zaw x y) σ2).work),rowS (.slice ya (planT l p held (zaw x y) σ2).roots.size yc) (planT l p held (zaw x y) σ2).roots]):=by
 have hnb:=zaB hl
 have hsl:=zdD l l.nodes.toNat
 have hz2:Room 15000 σ2:=zdS hr2 (zdS hr1 (hz.le (by omega)))
 have hsn:(zax l l.nodes.toNat).size<=560:=by omega
 have hwl:=zdW (x:=x) (y:=y)
 refine Fn.enter (Tryz.func119) Z Z (fun w0 R=>?_)
 refine TC.seq (TC.rowS 2 Z (fun a9 b9 o9 c9 hv9 hc9 ha9=>?_))
 subst hv9
 refine TC.region (TL.alloc 3 (cs:=#[.slice none 0 0,.int .i64 0,.bool false,.slice none 0 0]) zb1 Z Z Z (fun _=>Zt) (fun bk3=>(dA (xmt Z (xmp Z (TL.call [0,1] [0,1,4] (zmb hl hr1 hr2 (hz.le (by omega))) ⟨Z,Zt⟩ ⟨Z,Z,Zt⟩ ztK Z Z Z Z ?_))))))
 rintro r Bs rfl
 refine ⟨Z,Zt,?_⟩
 refine TL.rowS 4 Z (fun a8 b8 o8 c8 hv8 hc8 ha8=>⟨Zt,?_⟩)
 cases hv8
 refine TL.bld [.slice none 0 0,.int .i64 0,.bool false,.slice none 0 0] [(.bool true),(.slice _ _ _)] [_,_,_,_] zb1 zeV ⟨Z,Z,Zt⟩ ⟨Z,Z⟩ Z Z (TL.alloc 5 (cs:=#[.slice none 0 0,.int .i64 0,.bool false,.slice none 0 0]) zb1 Z Z Z (fun _=>Zt) (fun bk5=>(TL.stW 5 4 [_,_,_,_] Z Z Z Z Z Z zat Z Z Zt (dB (xmt Z (xnt Z (dF Z (xmp Z (xD [0,1] (zuI hl (hz2.le (by omega))) zzi Z ?_)))))))))
 obtain ⟨τ1,hτ1⟩:∃ τ,τ=zb4 l p (chgL σ2.row) (zax l l.nodes.toNat) (zax l l.nodes.toNat).size σ2:=⟨_,rfl⟩
 have hy1:Room 10000 τ1:=by rw [hτ1]; exact zcX (hz2.le (by omega))
 rw [<-hτ1]
 refine dS (TC.draw (od [1,3,5,7,9,11,13,15,17,19,21,23,25,26]) [0,5] fc_m (by kernel_rfl) (xmp Z (xf 3 zdo Z (xls 5 zeU Z Z (xmp Z (xN0 Z (xf 16 zii Z (xls 0 zeU Z Z ?_))))))))
 refine xmp Z (xN0 Z (xf 4 zdq Z (xf 0 zdt Z (xli 0 zad Z Z (TL.conv _ Z zgr zbu (Z) Z Z (xd [0,1,4,2] (zoI hl (zcV _) ha8 (by omega) Z zcw ha9 (by omega) Z zcw (hy1.le (by omega))) ztJ Z (kL2 Z Z Zt) ?_))))))
 obtain ⟨τ2,hτ2⟩:∃ τ,τ=zbq l (zaw x y) held.toList (IntKind.u64.wrap p.thread) (zaw x y).size τ1:=⟨_,rfl⟩
 have hy2:Room 9000 τ2:=by rw [hτ2]; exact zdl (hy1.le (by omega))
 rw [<-hτ2]
 refine dS (TC.draw (od [1,3,5,7,9,11,13,15,17,19,21,23,25,26]) [0] fc_m (by kernel_rfl) (xmp Z (xN0 Z (xf 4 zdq Z (xL2 0 zba Z Z (xmp Z (xN0 Z (xf 0 zbg Z ?_))))))))
 refine xlp 0 zc8 Z Z (TL.miN (v:=(.pointer (some ⟨_,_,none⟩))) Z zfV Z Z (xmp Z (xN0 Z (xf 1 zbp Z (xL3 0 zab Z Z (xd [1] (zqu zd9 (show zhb Tryz.prog 186 "Store" 200=true by kernel_rfl) hl (hy2.le (by omega))) zzh Z (kL1 Z Zt) ?_))))))
 obtain ⟨τ3,hτ3⟩:∃ τ,τ=za0 l p τ2 p.tag true:=⟨_,rfl⟩
 have hy3:Room 8000 τ3:=by rw [hτ3]; exact zfd (hy2.le (by omega))
 have hsz3:=zcR.1 hy3
 rw [<-hτ3]
 refine dS ?_
 have hn3:0<τ3.row.size:=by rw [hτ3,hτ2,hτ1]; exact Nat.lt_of_lt_of_le hne (((Pre.vers _).trans (.lock _)).trans (.state _ _ _)).size
 refine TC.region (xmp Z (xN0 Z (xf 0 zbg Z (xlp 0 zc8 Z Z (TL.call [1] [1,6] (znw (hy3.le (by omega))) ⟨Z,Zt⟩ ⟨Z,Zt⟩ zop Z Z Z Z ?_)))))
 rintro v Bs rfl
 refine ⟨Z,Zt,?_⟩
 refine TL.ownW 6 Z (fun a7 g7 c7 hv7 hc7 ha7=>?_)
 cases hv7
 refine xz zam Z (TL.sub (((τ3.row.size - 1:Nat):Int)) Z Z (wrN (by omega)) Z Z (xai Z (dA (xmp Z (xD [0,1] (zq0 hl (hy3.le (by omega))) zzg Z ?_)))))
 obtain ⟨τ4,hτ4⟩:∃ τ,τ=cleanW l (chgL τ3.row) (zax l l.nodes.toNat) (zax l l.nodes.toNat).size τ3:=⟨_,rfl⟩
 have hy4:Room 5000 τ4:=by rw [hτ4]; exact zep (hy3.le (by omega))
 rw [<-hτ4]
 refine dS (TC.draw (od [1,3,5,7,9,11,13,15,17,19,21,23,25,26]) [0] fc_m (by kernel_rfl) (xmp Z (xN0 Z (xf 4 zdq Z (xL2 0 zba Z Z (xmp Z (xN0 Z (xf 0 zbg Z ?_))))))))
 refine xlp 0 zc8 Z Z (TL.miN (v:=(.pointer (some ⟨_,_,none⟩))) Z zfV Z Z (xmp Z (xN0 Z (xf 1 zbp Z (xL3 0 zab Z Z (xd [1] (zxS zd9 (show zhb Tryz.prog 186 "Store" 200=true by kernel_rfl) hl (hy4.le (by omega))) zzf Z (kL1 Z Zt) ?_))))))
 obtain ⟨τ5,hτ5⟩:∃ τ,τ=za0 l p τ4 (IntKind.i64.wrap (p.tag+1)) false:=⟨_,rfl⟩
 have hy5:Room 4000 τ5:=by rw [hτ5]; exact zfd (hy4.le (by omega))
 rw [<-hτ5]
 refine dS (TC.draw (od [1,3,5,7,9,11,13,14]) [0,5] fc_m (by kernel_rfl) (xmp Z (xmp Z (xN0 Z (xf 16 zii Z (xls 0 zeU Z Z (xf 3 zdo Z (xls 5 zeU Z Z ?_))))))))
 refine xd [0,1,2,4] (zoI hl (by decide) ha9 (by omega) Z zcw ha8 (by omega) Z zcw (hy5.le (by omega))) ztJ Z (kL2 Z Z Zt) ?_
 obtain ⟨τ6,hτ6⟩:∃ τ,τ=zbq l held (zaw x y).toList 65535 held.size τ5:=⟨_,rfl⟩
 have hy6:Room 1000 τ6:=by rw [hτ6]; exact zdl (hy5.le (by omega))
 have hsz6:=zcR.1 hy6
 rw [<-hτ6]
 refine dS ?_
 have hle:τ3.row.size - 1<=τ6.row.size:=by have h9:Pre τ3 τ6:=(by rw [hτ6,hτ5,hτ4]; exact ((Pre.cleanW _).trans (.state _ _ _)).trans (.lock _)); have:=h9.size; omega
 refine TC.region (xmp Z (xmp Z (xN0 Z (xf 0 zbg Z (xlp 0 zc8 Z Z (TL.call [1] [1,7] (znw (hy6.le (by omega))) ⟨Z,Zt⟩ ⟨Z,Zt⟩ zop Z Z Z Z ?_))))))
 rintro v Bs rfl
 refine ⟨Z,Zt,?_⟩
 refine TL.ownW 7 Z (fun a6 g6 c6 hv6 hc6 ha6=>?_)
 cases hv6
 refine xmi Z (TL.call [0,7] [0,7,8] (zuK hl ha6 (by omega) Z (zaP ha6) hle hc6) ⟨Z,Z,Z,Zt⟩ ⟨Z,Z,Zt⟩ zze Z Z Z Z ?_)
 rintro x Bs ⟨v9,rfl,rfl⟩
 refine ⟨Z,Zt,?_⟩
 refine TL.ownW 8 Z (fun a5 g5 c5 hv5 hc5 ha5=>?_)
 cases hv5
 refine xmu Z (xes Z Z (xei Z Z (xf 0 za9 Z (TL.st 5 #[_,_,_,_] (.slice _ _ _) Z Z Z Z Z Z zcf Z Z Zt (xf 1 zcj Z (TL.st 5 #[_,_,_,_] (.int _ _) Z Z Z Z Z Z zad Z Z Zt (dA (xL4 5 zat Z Z ?_))))))))
 refine TL.stW 3 4 [_,_,_,_] Z Z Z Z Z Z zat Z Z Zt (dR (TQ.conseq 4 (B:=rowS _ (zaw x y)) Z (fun _ h=>⟨_,_,_,_,Z,hc8,ha8,h⟩) ?_))
 refine FQ.retG (rs:=[.cell 4 50]) [(.agg _)] (Bs:=[_,_,_,_,_]) [0,1,2,8,4] Z ⟨⟨_,_,_,_,_,3,Z,Z,.inr ⟨4,[_,_,_,_],zat,Z,Z⟩⟩,Zt⟩ Z Z ⟨Z,Z,Z,Z,Z,Zt⟩ ?_
 subst hτ6 hτ5 hτ4 hτ3 hτ2 hτ1; exact ⟨_,_,_,_,_,_,_,Z,Z⟩
theorem zf6 {l:Lay} (hl:l.Ok) {wb tb ab mb:Nat} {hv:Value} {p:Pen} {u v:Int} {held:Array Int} {k:Nat} {σ:Tr} {tree:Bool} (P:PlanS) (hP:planF l p k held tree u v σ=some P) (hk:k<=561) (hh2:held.size<=2) (hz:Room 20000 σ) (hne:0<σ.row.size):Go.Eng.Fn Tryz.prog 119 [.pointer (some ⟨wb,0,none⟩),.bool tree] [zgo 198 wb tb 186 (hv) l p (u) (v),zbl tb ab mb 264 139 29 34 (σ),rowS (hv) (held)] (fun r Bs=>∃ xa xc ya yc B1 B2 B3,r=.agg #[.slice xa (P).work.size xc,.int .i64 (P).point,.bool (P).tree,.slice ya (P).roots.size yc]/\Bs=[B1,B2,B3,ownA zav 3 34 (.slice xa (P).work.size xc) ((P).work),rowS (.slice ya (P).roots.size yc) (P).roots]):=by
 unfold planF at hP
 obtain ⟨⟨x,σ1⟩,hr1,hP⟩:=Zb hP
 obtain ⟨⟨y,σ2⟩,hr2,hP⟩:=Zb hP
 cases hP
 cases tree
 ·exact zxh hl hr1 hr2 hk hh2 hz
 ·exact zxg hl hr1 hr2 hk hh2 hz (Nat.lt_of_lt_of_le hne ((Pre.root hr1).trans (Pre.root hr2)).size)
set_option maxHeartbeats 2000000 in
theorem zmg {l:Lay} (hl:l.Ok) {ab mb:Nat} {p:Pen} {σ:Array UInt64} {c:Cnt} {a1:Option Addr} {b1 o1 n1 c1:Nat} {A1:Assn} {d1:Array Int} (ha1:0<n1->a1=some ⟨b1,o1,none⟩) (hn1:n1<=2) (hs1:d1.size=n1) (hA1:zbj A1 Tm.encI 1 b1 o1 n1 (fun i=>d1[i]!)) (h0:0<σ.size) (h1:σ.size<=20000):Go.Eng.Fn Tryz.prog 118 [.pointer (some ⟨ab,0,none⟩),layV l,.agg #[.int .i64 p.thread,.int .i64 p.tag],.slice a1 n1 c1] [arenaC ab mb 139 29 (σ) (c),A1] (fun x Bs=>∃ wb tb ab2 mb2 hv,x=.pointer (some ⟨wb,0,none⟩)/\Bs=[arenaC ab mb 139 29 (σ) (c),A1,zgo 198 wb tb 186 (hv) l p (0) (0),zbl tb ab2 mb2 264 139 29 34 (⟨σ,#[]⟩),rowS hv d1]):=by
 refine Fn.enter (Tryz.func118) Z Z (fun w0 R=>?_)
 refine sA (xB 2 Z (fun bk2=>(xB 3 Z (fun bk3=>(TL.asg (.pointer none) Z Z Z (dA (xmp Z (TL.call [0] [0,4] (zxX h0 h1) ⟨Z,Zt⟩ ⟨Z,Zt⟩ zzl Z Z Z Z ?_))))))))
 rintro x Bs ⟨tb,ab2,mb2,rfl,rfl⟩
 refine ⟨Z,Zt,?_⟩
 refine xap Z (dS (TC.draw (od [1,3,5,7,9,11,13,17,14,18,21,22,25]) [2,3] fc_m (by kernel_rfl) (xmp Z (xL3 2 zab Z Z (xL2 3 zba Z Z (xL3 2 zab Z Z (xmp Z (TL.miN (v:=(.pointer (some ⟨_,_,none⟩))) Z zfV Z Z ?_))))))))
 refine xL2 3 zba Z Z (xms Z (xd [] (zhl (p:=p)) zjT Z (kL2 Z Z Zt) (TL.call [1] [1,5] (zt8 ha1 (by omega) hA1) ⟨Z,Zt⟩ ⟨Z,Zt⟩ zzk Z Z Z Z ?_)))
 rintro v Bs rfl
 refine ⟨Z,(kL2 Z Z Zt),?_⟩
 rw [zxI hs1]
 refine TL.conseq 5 (B:=rowS _ d1) Z (fun _ h=>zev h) (kL2 Z Z Zt) (TL.rowS 5 Z (fun a7 b7 o7 c7 hv7 hc7 ha7=>⟨(kL2 Z Z Zt),?_⟩))
 cases hv7
 refine TL.bld [.pointer none,.int .i64 0,.int .i64 0,.int .i64 0,.int .i64 0,.int .i64 0,.int .i64 0,.int .i64 0,.int .i64 0,.nilIface,.int .i64 0,.int .i64 0,.int .i64 0,.int .i64 0,.int .i64 0,.nilIface,.slice none 0 0,.int .i64 0,.int .i64 0] [(.pointer (some ⟨_,_,none⟩)),(.agg _),(.agg _),(.agg _),(.slice _ _ _)] [_,_,_,_,_,_,_,_,_,_,_,_,_,_,_,_,_,_,_] zyu zyC ⟨Z,Z,Z,Z,Z,Zt⟩ ⟨Z,Z⟩ Z Z (TL.boxA 6 Z Z Z (fun _=>(kL2 Z Z Zt)) (fun bk6=>(xap Z (dR (TQ.conseq 5 (B:=rowS _ d1) Z (fun _ h=>⟨_,_,_,_,Z,hc7,ha7,h⟩) ?_)))))
 refine FQ.ret1 (v:=(.pointer (some ⟨_,_,none⟩))) (Bs:=[_,A1,_,_,_]) [0,1,6,4,5] Z Z Z ⟨Z,Z,Z,Z,Z,Zt⟩ ?_
 exact ⟨_,_,_,_,_,Z,Z⟩
theorem zhz {l:Lay} (hl:l.Ok) {ab mb:Nat} {p:Pen} {σ:Array UInt64} {c:Cnt} {a1:Option Addr} {b1 o1 n1 c1:Nat} {A1:Assn} {d1:Array Int} (ha1:0<n1->a1=some ⟨b1,o1,none⟩) (hn1:n1<=2) (hs1:d1.size=n1) (hA1:zbj A1 Tm.encI 1 b1 o1 n1 (fun i=>d1[i]!)) (h0:0<σ.size) (h1:σ.size<=20000) {s u v:Int} {b:Bool} {τ:Tr} {P:PlanS} (hg:zbf l p 561 (⟨σ,#[]⟩:Tr) s u v=some (b,τ)) (hP:planF l p 561 d1 b u v τ=some P) (hne:0<τ.row.size):Go.Eng.Fn Tryz.prog 81 [.pointer (some ⟨ab,0,none⟩),layV l,.agg #[.int .i64 p.thread,.int .i64 p.tag],.slice a1 n1 c1,.int .i64 s,.int .i64 u,.int .i64 v] [arenaC ab mb 139 29 (σ) (c),A1] (fun r Bs=>∃ xa xc ya yc,r=.agg #[.slice xa (P).work.size xc,.int .i64 (P).point,.bool (P).tree,.slice ya (P).roots.size yc]/\Bs=[arenaC ab mb 139 29 (σ) (c),A1,ownA zav 3 34 (.slice xa (P).work.size xc) (P.work),rowS (.slice ya (P).roots.size yc) P.roots]):=by
 have hz0:Room 100000000 (⟨σ,#[]⟩:Tr):=zcR.2 (by show 0+100000000<=_; decide)
 have hz:Room 20000 τ:=zju hg (hz0.le (by decide))
 refine Fn.enter (Tryz.func81) Z Z (fun w0 R=>?_)
 refine sA (xB 2 Z (fun bk2=>(xB 3 Z (fun bk3=>(TL.alloc 4 (cs:=#[.slice none 0 0,.int .i64 0,.bool false,.slice none 0 0]) zb1 Z Z Z (fun _=>Zt) (fun bk4=>(dA (xmp Z (xL3 2 zab Z Z (xL2 3 zba Z Z (xms Z ?_)))))))))))
 refine TL.call [0,1] [0,1,5,6,7] (zmg hl ha1 hn1 hs1 hA1 h0 h1) ⟨Z,Z,Z,Z,Zt⟩ ⟨Z,Z,Zt⟩ ztO Z Z Z Z ?_
 rintro x Bs ⟨wb,tb,ab2,mb2,hv,rfl,rfl⟩
 refine ⟨Z,Zt,?_⟩
 refine xap Z (dA (xmp Z (xmp Z (xmi Z (xmi Z (xN0 Z (xf 17 zb3 Z (TL.st 5 #[_,_,_,_,_,_,_,_,_,_,_,_,_,_,_,_,_,_,_] (.int _ _) Z Z Z Z Z Z zad Z Z Zt ?_))))))))
 refine xN0 Z (xf 18 zb2 Z (TL.st 5 #[_,_,_,_,_,_,_,_,_,_,_,_,_,_,_,_,_,_,_] (.int _ _) Z Z Z Z Z Z zad Z Z Zt (dA (xmp Z (xmp Z (xN0 Z (xf 6 zcA Z (xL10 5 zck Z Z ?_))))))))
 refine xmi Z (xmi Z (xmi Z (xD [6] (zqE zd9 hl hg (hz0.le (by decide))) zzn Z (TL.call [5,6,7] [5,6,7,8,9] (zf6 hl P hP (by omega) (by omega) hz hne) ⟨Z,Z,Zt⟩ ⟨Z,Z,Z,Zt⟩ zh3 Z Z Z Z ?_))))
 rintro r9 Bs ⟨xa,xc,ya,yc,B1,B2,B3,rfl,rfl⟩
 refine ⟨Z,Zt,?_⟩
 refine TL.stW 4 4 [_,_,_,_] Z Z Z Z Z Z zat Z Z Zt (dR ?_)
 refine FQ.retG (rs:=[.cell 14 50]) [(.agg _)] (Bs:=[_,A1,_,_]) [0,1,8,9] Z ⟨⟨_,_,_,_,_,4,Z,Z,.inr ⟨4,[_,_,_,_],zat,Z,Z⟩⟩,Zt⟩ Z Z ⟨Z,Z,Z,Z,Zt⟩ ?_
 exact ⟨_,_,_,_,Z,Z⟩
theorem zp9 {l:Lay} (hl:l.Ok) {ab mb:Nat} {p:Pen} {σ:Array UInt64} {c:Cnt} {a1:Option Addr} {b1 o1 n1 c1:Nat} {A1:Assn} {d1:Array Int} (ha1:0<n1->a1=some ⟨b1,o1,none⟩) (hn1:n1<=2) (hs1:d1.size=n1) (hA1:zbj A1 Tm.encI 1 b1 o1 n1 (fun i=>d1[i]!)) (h0:0<σ.size) (h1:σ.size<=20000) {s o:Int} {b ok:Bool} {τ:Tr} {P:PlanS} (hg:zbk l p 561 (⟨σ,#[]⟩:Tr) s=some ((b,o,ok),τ)) (hP:planF l p 561 d1 b (eget l σ s).u (eget l σ s).v τ=some P) (hne:0<τ.row.size):Go.Eng.Fn Tryz.prog 105 [.pointer (some ⟨ab,0,none⟩),layV l,.agg #[.int .i64 p.thread,.int .i64 p.tag],.slice a1 n1 c1,.int .i64 s] [arenaC ab mb 139 29 (σ) (c),A1] (fun r Bs=>∃ xa xc ya yc,r=.agg #[.slice xa (P).work.size xc,.int .i64 (P).point,.bool (P).tree,.slice ya (P).roots.size yc]/\Bs=[arenaC ab mb 139 29 (σ) (c),A1,ownA zav 3 34 (.slice xa (P).work.size xc) (P.work),rowS (.slice ya (P).roots.size yc) P.roots]):=by
 have hz0:Room 130000000000 (⟨σ,#[]⟩:Tr):=zcR.2 (by show 0+130000000000<=_; decide)
 have hz:Room 20000 τ:=zjy hg (hz0.le (by decide))
 refine Fn.enter (Tryz.func105) Z Z (fun w0 R=>?_)
 refine sA (xB 2 Z (fun bk2=>(xB 3 Z (fun bk3=>(TL.alloc 4 (cs:=#[.slice none 0 0,.int .i64 0,.bool false,.slice none 0 0]) zb1 Z Z Z (fun _=>Zt) (fun bk4=>(dA (xmp Z (xL3 2 zab Z Z (xL2 3 zba Z Z (xms Z ?_)))))))))))
 refine TL.call [0,1] [0,1,5,6,7] (zmg hl ha1 hn1 hs1 hA1 h0 h1) ⟨Z,Z,Z,Z,Zt⟩ ⟨Z,Z,Zt⟩ ztO Z Z Z Z ?_
 rintro x Bs ⟨wb,tb,ab2,mb2,hv,rfl,rfl⟩
 refine ⟨Z,Zt,?_⟩
 refine xap Z (dS (TC.drawT (.br [(0,true),(1,true),(5,true),(10,true)] 2 12 (.br [] 3 12 (.br [(4,true)] 6 12 (.br [(7,true),(8,true),(9,true)] 11 12 (.fin [(12,false),(13,false)]) (.fin [(11,false),(13,false)])) (.fin [(6,false),(7,true),(8,true),(9,true),(11,false),(13,false)])) (.fin [(3,false),(4,true),(6,false),(7,true),(8,true),(9,true),(11,false),(13,false)])) (.fin [(2,false),(3,false),(4,true),(6,false),(7,true),(8,true),(9,true),(11,false),(13,false)])) [2,3] fc_m (by kernel_rfl) (TT.br (xL3 2 zab Z Z (xmp Z (xL2 3 zba Z Z (xmi Z (TL.both ?_ ?_))))))))
 refine TL.call [0] [0,8] (zj9 h0 h1) ⟨Z,Zt⟩ ⟨Z,Zt⟩ ztb Z Z Z Z ?_
 rintro v Bs ⟨ab2,mb2,rfl,rfl⟩
 refine ⟨Z,(kL2 Z Z Zt),?_⟩
 refine TL.conseq 8 (B:=zal _ _ 139 29 (σ)) Z (fun h hh=>zfw hh) (kL2 Z Z Zt) (TL.tree (TT.br (TL.both ?_ ?_)))
 refine xd [] zfh zjJ Z (kL2 Z Z Zt) (TL.tree (TT.br (TL.miN (v:=(.agg _)) Z zgM Z Z (TL.both ?_ ?_))))
 refine xd [] (zhl (p:=p)) zjT Z (kL2 Z Z Zt) (TL.tree (TT.br (TL.fvA 0 194 10 [_,_,_,_,_,_,_,_,_,_] Z zc9 zaZ Z Z Z (TL.fvA 0 192 10 [_,_,_,_,_,_,_,_,_,_] Z zda zao Z Z Z (TL.fvA 6 190 4 [_,_,_,_] Z zdb za3 Z Z Z (TL.both ?_ ?_))))))
 refine xd [8] (zdv zfz hl) zdu Z (kL2 Z Z Zt) (TL.tree (TT.fin (TL.alloc 9 (cs:=#[.int .i64 0,.int .i64 0,.int .i64 0,.bool false]) zdm Z Z Z (fun _=>(kL2 Z Z Zt)) (fun bk9=>(TL.stW 9 4 [_,_,_,_] Z Z Z Z Z Z zbU Z Z (kL2 Z Z Zt) (dS (TC.draw (od [1,3,5,7,9,11,13,15,16,19,21,22]) [9] fc_m (by kernel_rfl) (xmp Z (xmp Z (xf 0 zbo Z ?_))))))))))
 refine xli 9 zad Z Z (xf 1 zbn Z (xli 9 zad Z Z (xN0 Z (xf 17 zb3 Z (TL.st 5 #[_,_,_,_,_,_,_,_,_,_,_,_,_,_,_,_,_,_,_] (.int _ _) Z Z Z Z Z Z zad Z Z (kL1 Z Zt) (xN0 Z (xf 18 zb2 Z (TL.st 5 #[_,_,_,_,_,_,_,_,_,_,_,_,_,_,_,_,_,_,_] (.int _ _) Z Z Z Z Z Z zad Z Z (kL1 Z Zt) ?_))))))))
 refine dA (xmp Z (xN0 Z (xf 6 zcA Z (xL10 5 zck Z Z (xmi Z (xD [6] (zeT zd9 hl hg (hz0.le (by decide))) zjS Z (xmu Z (TL.ext (.bool _) Z Z Z Z ?_))))))))
 refine xei Z Z (TL.ext (.bool _) Z Z Z Z (xab Z (xai Z (xab Z (dA (xmp Z (xmb Z (TL.call [5,6,7] [5,6,7,10,11] (zf6 hl P hP (by omega) (by omega) hz hne) ⟨Z,Z,Zt⟩ ⟨Z,Z,Z,Zt⟩ zh3 Z Z Z Z ?_))))))))
 rintro r9 Bs ⟨xa,xc,ya,yc,B1,B2,B3,rfl,rfl⟩
 refine ⟨Z,Zt,?_⟩
 refine TL.stW 4 4 [_,_,_,_] Z Z Z Z Z Z zat Z Z Zt (dR ?_)
 refine FQ.retG (rs:=[.cell 10 50]) [(.agg _)] (Bs:=[_,A1,_,_]) [0,1,10,11] Z ⟨⟨_,_,_,_,_,4,Z,Z,.inr ⟨4,[_,_,_,_],zat,Z,Z⟩⟩,Zt⟩ Z Z ⟨Z,Z,Z,Z,Zt⟩ ?_
 exact ⟨_,_,_,_,Z,Z⟩
 refine TL.alloc 12 (cs:=#[.int .i64 0,.int .i64 0,.int .i64 0,.bool false]) zdm Z Z Z (fun _=>(kL2 Z Z Zt)) (fun bk12=>(TL.tree (TT.fin (xd [8] (zdv zfz hl) zdu Z (kL2 Z Z Zt) (TL.stW 12 4 [_,_,_,_] Z Z Z Z Z Z zbU Z Z (kL2 Z Z Zt) (dS (TC.draw (od [1,3,5,7,9,11,13,15,16,19,21,22]) [12] fc_m (by kernel_rfl) (xmp Z (xmp Z (xf 0 zbo Z ?_))))))))))
 refine xli 12 zad Z Z (xf 1 zbn Z (xli 12 zad Z Z (xN0 Z (xf 17 zb3 Z (TL.st 5 #[_,_,_,_,_,_,_,_,_,_,_,_,_,_,_,_,_,_,_] (.int _ _) Z Z Z Z Z Z zad Z Z (kL1 Z Zt) (xN0 Z (xf 18 zb2 Z (TL.st 5 #[_,_,_,_,_,_,_,_,_,_,_,_,_,_,_,_,_,_,_] (.int _ _) Z Z Z Z Z Z zad Z Z (kL1 Z Zt) ?_))))))))
 refine dA (xmp Z (xN0 Z (xf 6 zcA Z (xL10 5 zck Z Z (xmi Z (xD [6] (zeT zd9 hl hg (hz0.le (by decide))) zjS Z (xmu Z (TL.ext (.bool _) Z Z Z Z ?_))))))))
 refine xei Z Z (TL.ext (.bool _) Z Z Z Z (xab Z (xai Z (xab Z (dA (xmp Z (xmb Z (TL.call [5,6,7] [5,6,7,13,14] (zf6 hl P hP (by omega) (by omega) hz hne) ⟨Z,Z,Zt⟩ ⟨Z,Z,Z,Zt⟩ zh3 Z Z Z Z ?_))))))))
 rintro r9 Bs ⟨xa,xc,ya,yc,B1,B2,B3,rfl,rfl⟩
 refine ⟨Z,Zt,?_⟩
 refine TL.stW 4 4 [_,_,_,_] Z Z Z Z Z Z zat Z Z Zt (dR ?_)
 refine FQ.retG (rs:=[.cell 10 50]) [(.agg _)] (Bs:=[_,A1,_,_]) [0,1,13,14] Z ⟨⟨_,_,_,_,_,4,Z,Z,.inr ⟨4,[_,_,_,_],zat,Z,Z⟩⟩,Zt⟩ Z Z ⟨Z,Z,Z,Z,Zt⟩ ?_
 exact ⟨_,_,_,_,Z,Z⟩
 refine TL.alloc 15 (cs:=#[.int .i64 0,.int .i64 0,.int .i64 0,.bool false]) zdm Z Z Z (fun _=>(kL2 Z Z Zt)) (fun bk15=>(TL.tree (TT.fin (xd [] (zhl (p:=p)) zjT Z (kL2 Z Z Zt) (TL.fvA 0 194 10 [_,_,_,_,_,_,_,_,_,_] Z zc9 zaZ Z Z Z (TL.fvA 0 192 10 [_,_,_,_,_,_,_,_,_,_] Z zda zao Z Z Z (TL.fvA 6 190 4 [_,_,_,_] Z zdb za3 Z Z Z (xd [8] (zdv zfz hl) zdu Z (kL2 Z Z Zt) (TL.stW 15 4 [_,_,_,_] Z Z Z Z Z Z zbU Z Z (kL2 Z Z Zt) (dS ?_))))))))))
 refine TC.draw (od [1,3,5,7,9,11,13,15,16,19,21,22]) [15] fc_m (by kernel_rfl) (xmp Z (xmp Z (xf 0 zbo Z (xli 15 zad Z Z (xf 1 zbn Z (xli 15 zad Z Z (xN0 Z (xf 17 zb3 Z ?_))))))))
 refine TL.st 5 #[_,_,_,_,_,_,_,_,_,_,_,_,_,_,_,_,_,_,_] (.int _ _) Z Z Z Z Z Z zad Z Z (kL1 Z Zt) (xN0 Z (xf 18 zb2 Z (TL.st 5 #[_,_,_,_,_,_,_,_,_,_,_,_,_,_,_,_,_,_,_] (.int _ _) Z Z Z Z Z Z zad Z Z (kL1 Z Zt) (dA (xmp Z (xN0 Z (xf 6 zcA Z (xL10 5 zck Z Z ?_))))))))
 refine xmi Z (xD [6] (zeT zd9 hl hg (hz0.le (by decide))) zjS Z (xmu Z (TL.ext (.bool _) Z Z Z Z (xei Z Z (TL.ext (.bool _) Z Z Z Z (xab Z (xai Z (xab Z ?_))))))))
 refine dA (xmp Z (xmb Z (TL.call [5,6,7] [5,6,7,16,17] (zf6 hl P hP (by omega) (by omega) hz hne) ⟨Z,Z,Zt⟩ ⟨Z,Z,Z,Zt⟩ zh3 Z Z Z Z ?_)))
 rintro r9 Bs ⟨xa,xc,ya,yc,B1,B2,B3,rfl,rfl⟩
 refine ⟨Z,Zt,?_⟩
 refine TL.stW 4 4 [_,_,_,_] Z Z Z Z Z Z zat Z Z Zt (dR ?_)
 refine FQ.retG (rs:=[.cell 10 50]) [(.agg _)] (Bs:=[_,A1,_,_]) [0,1,16,17] Z ⟨⟨_,_,_,_,_,4,Z,Z,.inr ⟨4,[_,_,_,_],zat,Z,Z⟩⟩,Zt⟩ Z Z ⟨Z,Z,Z,Z,Zt⟩ ?_
 exact ⟨_,_,_,_,Z,Z⟩
 refine TL.alloc 18 (cs:=#[.int .i64 0,.int .i64 0,.int .i64 0,.bool false]) zdm Z Z Z (fun _=>(kL2 Z Z Zt)) (fun bk18=>(TL.tree (TT.fin (xd [] zfh zjJ Z (kL2 Z Z Zt) (TL.miN (v:=(.agg _)) Z zgM Z Z (xd [] (zhl (p:=p)) zjT Z (kL2 Z Z Zt) (TL.fvA 0 194 10 [_,_,_,_,_,_,_,_,_,_] Z zc9 zaZ Z Z Z (TL.fvA 0 192 10 [_,_,_,_,_,_,_,_,_,_] Z zda zao Z Z Z (TL.fvA 6 190 4 [_,_,_,_] Z zdb za3 Z Z Z (xd [8] (zdv zfz hl) zdu Z (kL2 Z Z Zt) ?_))))))))))
 refine TL.stW 18 4 [_,_,_,_] Z Z Z Z Z Z zbU Z Z (kL2 Z Z Zt) (dS (TC.draw (od [1,3,5,7,9,11,13,15,16,19,21,22]) [18] fc_m (by kernel_rfl) (xmp Z (xmp Z (xf 0 zbo Z (xli 18 zad Z Z (xf 1 zbn Z (xli 18 zad Z Z ?_))))))))
 refine xN0 Z (xf 17 zb3 Z (TL.st 5 #[_,_,_,_,_,_,_,_,_,_,_,_,_,_,_,_,_,_,_] (.int _ _) Z Z Z Z Z Z zad Z Z (kL1 Z Zt) (xN0 Z (xf 18 zb2 Z (TL.st 5 #[_,_,_,_,_,_,_,_,_,_,_,_,_,_,_,_,_,_,_] (.int _ _) Z Z Z Z Z Z zad Z Z (kL1 Z Zt) (dA (xmp Z (xN0 Z ?_))))))))
 refine xf 6 zcA Z (xL10 5 zck Z Z (xmi Z (xD [6] (zeT zd9 hl hg (hz0.le (by decide))) zjS Z (xmu Z (TL.ext (.bool _) Z Z Z Z (xei Z Z (TL.ext (.bool _) Z Z Z Z (xab Z ?_))))))))
 refine xai Z (xab Z (dA (xmp Z (xmb Z (TL.call [5,6,7] [5,6,7,19,20] (zf6 hl P hP (by omega) (by omega) hz hne) ⟨Z,Z,Zt⟩ ⟨Z,Z,Z,Zt⟩ zh3 Z Z Z Z ?_)))))
 rintro r9 Bs ⟨xa,xc,ya,yc,B1,B2,B3,rfl,rfl⟩
 refine ⟨Z,Zt,?_⟩
 refine TL.stW 4 4 [_,_,_,_] Z Z Z Z Z Z zat Z Z Zt (dR ?_)
 refine FQ.retG (rs:=[.cell 10 50]) [(.agg _)] (Bs:=[_,A1,_,_]) [0,1,19,20] Z ⟨⟨_,_,_,_,_,4,Z,Z,.inr ⟨4,[_,_,_,_],zat,Z,Z⟩⟩,Zt⟩ Z Z ⟨Z,Z,Z,Z,Zt⟩ ?_
 exact ⟨_,_,_,_,Z,Z⟩
 refine TL.alloc 21 (cs:=#[.int .i64 0,.int .i64 0,.int .i64 0,.bool false]) zdm Z Z Z (fun _=>(kL2 Z Z Zt)) (fun bk21=>(TL.tree (TT.fin (TL.call [0] [0,22] (zj9 h0 h1) ⟨Z,Zt⟩ ⟨Z,Zt⟩ ztb Z Z Z Z ?_))))
 rintro v Bs ⟨ab2,mb2,rfl,rfl⟩
 refine ⟨Z,(kL2 Z Z Zt),?_⟩
 refine TL.conseq 22 (B:=zal _ _ 139 29 (σ)) Z (fun h hh=>zfw hh) (kL2 Z Z Zt) (xd [] zfh zjJ Z (kL2 Z Z Zt) (TL.miN (v:=(.agg _)) Z zgM Z Z (xd [] (zhl (p:=p)) zjT Z (kL2 Z Z Zt) (TL.fvA 0 194 10 [_,_,_,_,_,_,_,_,_,_] Z zc9 zaZ Z Z Z (TL.fvA 0 192 10 [_,_,_,_,_,_,_,_,_,_] Z zda zao Z Z Z (TL.fvA 6 190 4 [_,_,_,_] Z zdb za3 Z Z Z (xd [22] (zdv zfz hl) zdu Z (kL2 Z Z Zt) (TL.stW 21 4 [_,_,_,_] Z Z Z Z Z Z zbU Z Z (kL2 Z Z Zt) ?_))))))))
 refine dS (TC.draw (od [1,3,5,7,9,11,13,15,16,19,21,22]) [21] fc_m (by kernel_rfl) (xmp Z (xmp Z (xf 0 zbo Z (xli 21 zad Z Z (xf 1 zbn Z (xli 21 zad Z Z (xN0 Z ?_))))))))
 refine xf 17 zb3 Z (TL.st 5 #[_,_,_,_,_,_,_,_,_,_,_,_,_,_,_,_,_,_,_] (.int _ _) Z Z Z Z Z Z zad Z Z (kL1 Z Zt) (xN0 Z (xf 18 zb2 Z (TL.st 5 #[_,_,_,_,_,_,_,_,_,_,_,_,_,_,_,_,_,_,_] (.int _ _) Z Z Z Z Z Z zad Z Z (kL1 Z Zt) (dA (xmp Z (xN0 Z (xf 6 zcA Z ?_))))))))
 refine xL10 5 zck Z Z (xmi Z (xD [6] (zeT zd9 hl hg (hz0.le (by decide))) zjS Z (xmu Z (TL.ext (.bool _) Z Z Z Z (xei Z Z (TL.ext (.bool _) Z Z Z Z (xab Z (xai Z ?_))))))))
 refine xab Z (dA (xmp Z (xmb Z (TL.call [5,6,7] [5,6,7,23,24] (zf6 hl P hP (by omega) (by omega) hz hne) ⟨Z,Z,Zt⟩ ⟨Z,Z,Z,Zt⟩ zh3 Z Z Z Z ?_))))
 rintro r9 Bs ⟨xa,xc,ya,yc,B1,B2,B3,rfl,rfl⟩
 refine ⟨Z,Zt,?_⟩
 refine TL.stW 4 4 [_,_,_,_] Z Z Z Z Z Z zat Z Z Zt (dR ?_)
 refine FQ.retG (rs:=[.cell 10 50]) [(.agg _)] (Bs:=[_,A1,_,_]) [0,1,23,24] Z ⟨⟨_,_,_,_,_,4,Z,Z,.inr ⟨4,[_,_,_,_],zat,Z,Z⟩⟩,Zt⟩ Z Z ⟨Z,Z,Z,Z,Zt⟩ ?_
 exact ⟨_,_,_,_,Z,Z⟩
theorem zpg {v:Int} (hv:0<=v/\v<18446744073709551616):FnD Tryz.prog 33 [.int .u64 v] [] (.agg #[.int .i64 (v / 65536 % 65536),.int .i64 (v % 65536),.int .i64 (v / 65536 / 65536 % 256),.int .i64 (v / 65536 / 65536 / 256)]) []:=by
 refine Fn.enter (Tryz.func33) Z Z (fun w0 R=>?_)
 refine sA (TL.alloc 0 (cs:=#[.int .i64 0,.int .i64 0,.int .i64 0,.int .i64 0]) zm6 Z Z Z (fun _=>Zt) (fun bk0=>(dA (xmi Z (TL.rem _ Z Z (by omega) (znL (by omega)) Z Z (TL.conv _ Z zdT zaQ (wr64 (by omega)) Z Z (TL.bld [.int .i64 0,.int .i64 0,.int .i64 0,.int .i64 0] [(.int _ _)] [_,_,_,_] zm6 zAx ⟨Z,Zt⟩ ⟨Z,Z⟩ Z Z (TL.alloc 1 (cs:=#[.int .i64 0,.int .i64 0,.int .i64 0,.int .i64 0]) zm6 Z Z Z (fun _=>Zt) (fun bk1=>(TL.stW 1 4 [_,_,_,_] Z Z Z Z Z Z zgj Z Z Zt ?_))))))))))
 refine dA (xmi Z (TL.quo _ Z Z (by omega) (quoU (by omega) (by omega) (by omega)) Z Z (xai Z (dA (xmi Z (TL.rem _ Z Z (by omega) (znL (by omega)) Z Z (TL.conv _ Z zdT zaQ (wr64 (by omega)) Z Z (xf 0 zhX Z ?_))))))))
 refine TL.st 1 #[_,_,_,_] (.int _ _) Z Z Z Z Z Z zad Z Z Zt (dA (xmi Z (TL.quo _ Z Z (by omega) (quoU (by omega) (by omega) (by omega)) Z Z (xai Z (dA (xmi Z (TL.rem _ Z Z (by omega) (znL (by omega)) Z Z (TL.conv _ Z zdT zaQ (wr64 (by omega)) Z Z ?_))))))))
 refine xf 2 zeW Z (TL.st 1 #[_,_,_,_] (.int _ _) Z Z Z Z Z Z zad Z Z Zt (dA (xmi Z (TL.quo _ Z Z (by omega) (quoU (by omega) (by omega) (by omega)) Z Z (TL.conv _ Z zdT zaQ (wr64 (by omega)) Z Z (xf 3 zhW Z (TL.st 1 #[_,_,_,_] (.int _ _) Z Z Z Z Z Z zad Z Z Zt (dA ?_))))))))
 refine xL4 1 zgj Z Z (TL.stW 0 4 [_,_,_,_] Z Z Z Z Z Z zgj Z Z Zt (dR ?_))
 refine FQ.retG (rs:=[.cell 2 63]) [(.agg _)] (Bs:=[]) [] Z ⟨⟨_,_,_,_,_,0,Z,Z,.inr ⟨4,[_,_,_,_],zgj,Z,Z⟩⟩,Zt⟩ Z Z Zt ?_
 exact ⟨Z,Z⟩
theorem znM {v s:Int} (hv:0<=v/\v<18446744073709551616) (hs:0<=s/\s<18446744073709551616):FnD Tryz.prog 102 [.int .u64 v,.int .u64 s] [] (.int .i64 (refM v s)) []:=by
 refine Fn.enter (Tryz.func102) Z Z (fun w0 R=>?_)
 refine sA (xai Z (dA (xmi Z (xD [] (zpg hv) zw1 Z (TL.alloc 0 (cs:=#[.int .i64 0,.int .i64 0,.int .i64 0,.int .i64 0]) zm6 Z Z Z (fun _=>Zt) (fun bk0=>(TL.stW 0 4 [_,_,_,_] Z Z Z Z Z Z zgj Z Z Zt (dB (xf 2 zeW Z ?_)))))))))
 refine xli 0 zad Z Z (TL.eql Z Z Z Z (fun q1=>?_) (fun q1=>?_))
 refine xmt Z (xo Z (xo Z (xo Z (xo Z (xo Z (xo Z (xpT Z (xmt Z ?_))))))))
 refine xo Z (xo Z (xo Z (xo Z (xo Z (xo Z (xo Z (xo Z (xo Z ?_))))))))
 refine xo Z (xo Z (xpT Z (dT Z (xf 1 zeX Z (xli 0 zad Z Z (xai Z (dRR ?_)))))))
 refine FQ.ret1 (v:=(.int _ _)) (Bs:=[]) [] Z Z Z Zt ?_
 first | exact ⟨iE (by unfold refM; rw [Zp (by omega)]),Z⟩ | exact ⟨iE (by unfold refM; rw [Zn (by omega)]),Z⟩
 refine xmf Z (xmi Z (TL.quo _ Z Z (by omega) (quoU (by omega) (by omega) (by omega)) Z Z (TL.conv _ Z zdT zaQ (wr64 (by omega)) Z Z (xf 3 zhW Z (xli 0 zad Z Z (TL.gtr Z Z Z Z (fun q2=>?_) (fun q2=>?_)))))))
 refine xpH Z (xmt Z (xo Z (xo Z (xo Z (xo Z (xo Z (xo Z (xo Z ?_))))))))
 refine xo Z (xo Z (xo Z (xo Z (xpT Z (dT Z (xf 1 zeX Z (xli 0 zad Z Z (xai Z ?_))))))))
 refine dRR ?_
 refine FQ.ret1 (v:=(.int _ _)) (Bs:=[]) [] Z Z Z Zt ?_
 first | exact ⟨iE (by unfold refM; rw [Zp (by omega)]),Z⟩ | exact ⟨iE (by unfold refM; rw [Zn (by omega)]),Z⟩
 refine xpF Z (xmf Z (xmi Z (TL.quo _ Z Z (by omega) (quoU (by omega) (by omega) (by omega)) Z Z (TL.conv _ Z zdT zaQ (wr64 (by omega)) Z Z (xf 3 zhW Z (xli 0 zad Z Z (TL.eql Z Z Z Z (fun q3=>?_) (fun q3=>?_))))))))
 refine xmt Z (xmi Z (TL.rem _ Z Z (by omega) (znL (by omega)) Z Z (TL.eql Z Z Z Z (fun q4=>?_) (fun q4=>?_))))
 refine xpT Z (xpH Z (dT Z (xf 1 zeX Z (xli 0 zad Z Z (xai Z (dRR ?_))))))
 refine FQ.ret1 (v:=(.int _ _)) (Bs:=[]) [] Z Z Z Zt ?_
 first | exact ⟨iE (by unfold refM; rw [Zp (by omega)]),Z⟩ | exact ⟨iE (by unfold refM; rw [Zn (by omega)]),Z⟩
 refine xpG Z (xpF Z (dF Z (xf 0 zhX Z (xli 0 zad Z Z (xai Z (dR ?_))))))
 refine FQ.ret1 (v:=(.int _ _)) (Bs:=[]) [] Z Z Z Zt ?_
 first | exact ⟨iE (by unfold refM; rw [Zp (by omega)]),Z⟩ | exact ⟨iE (by unfold refM; rw [Zn (by omega)]),Z⟩
 refine xmf Z (xo Z (xo Z (xo Z (xpF Z (xpF Z (dF Z (xf 0 zhX Z (xli 0 zad Z Z ?_))))))))
 refine xai Z (dR ?_)
 refine FQ.ret1 (v:=(.int _ _)) (Bs:=[]) [] Z Z Z Zt ?_
 first | exact ⟨iE (by unfold refM; rw [Zp (by omega)]),Z⟩ | exact ⟨iE (by unfold refM; rw [Zn (by omega)]),Z⟩
theorem zmV {l:Lay} {pb ab mb:Nat} {tg:Int} {av:Value} {σ:Array UInt64} {i:Int}:FnD Tryz.prog 34 [.pointer (some ⟨pb,0,none⟩),.int .i64 i] [pt pb (.cells #[.int .i64 l.V,.int .i64 l.S,.int .i64 l.T,.pointer (some ⟨ab,0,none⟩),.int .i64 (tg),av] 57),zal ab mb 139 29 (σ)] (.int .u64 (MemLike.get σ i)) [pt pb (.cells #[.int .i64 l.V,.int .i64 l.S,.int .i64 l.T,.pointer (some ⟨ab,0,none⟩),.int .i64 (tg),av] 57),zal ab mb 139 29 (σ)]:=by
 refine Fn.enter (Tryz.func34) Z Z (fun w0 R=>?_)
 refine sA (xai Z (dA (xmp Z (xN0 Z (xf 3 zci Z (xlp 0 zdU Z Z (xmi Z (xD [1] ziU zpL Z ?_))))))))
 refine xmu Z (xei Z Z (xei Z Z (xai Z (xai Z (dA (xmi Z (xai Z (dR ?_))))))))
 refine FQ.ret1 (v:=(.int _ _)) (Bs:=[_,_]) [0,1] Z Z Z ⟨Z,Z,Zt⟩ ?_
 exact ⟨Z,Z⟩
theorem zgf {l:Lay} (hl:l.Ok) {pb ab mb:Nat} {tg:Int} {av:Value} {σ:Array UInt64} {x f:Int}:FnD Tryz.prog 42 [.pointer (some ⟨pb,0,none⟩),.int .i64 x,.int .i64 f] [pt pb (.cells #[.int .i64 l.V,.int .i64 l.S,.int .i64 l.T,.pointer (some ⟨ab,0,none⟩),.int .i64 (tg),av] 57),zal ab mb 139 29 (σ)] (.int .i64 (zaK l σ x f)) [pt pb (.cells #[.int .i64 l.V,.int .i64 l.S,.int .i64 l.T,.pointer (some ⟨ab,0,none⟩),.int .i64 (tg),av] 57),zal ab mb 139 29 (σ)]:=by
 have hrg:=zlM σ (l.field x f)
 refine Fn.enter (Tryz.func42) Z Z (fun w0 R=>?_)
 refine sA (xai Z (dA (xmp Z (xmp Z (xN0 Z (xf 0 zaF Z (xL3 0 zab Z Z (xmi Z ?_))))))))
 refine xmi Z (xD [] (zbc hl) zcq Z (xD [0,1] zmV zw0 Z (xai Z (dA (xmi Z (xD [] (zpg (MemLike.rng _ _)) zw1 Z (TL.alloc 2 (cs:=#[.int .i64 0,.int .i64 0,.int .i64 0,.int .i64 0]) zm6 Z Z Z (fun _=>Zt) (fun bk2=>(TL.stW 2 4 [_,_,_,_] Z Z Z Z Z Z zgj Z Z Zt ?_)))))))))
 refine dS (TC.seq (TC.draw (od [1,3,5,7,9,11,13,15,17,19,21,23,25]) [0,2] fc_m (by kernel_rfl) (xf 2 zeW Z (xli 2 zad Z Z (TL.lss Z Z Z Z (fun q1=>?_) (fun q1=>?_))))))
 refine xmt Z (xo Z (xo Z (xo Z (xo Z (xo Z (xo Z (xo Z (xo Z ?_))))))))
 refine xpT Z (dT Z (xf 1 zeX Z (xli 2 zad Z Z (xai Z (dRR ?_)))))
 refine FQ.ret1 (v:=(.int _ _)) (Bs:=[_,_]) [0,1] Z Z Z ⟨Z,Z,Zt⟩ ?_
 first | exact ⟨iE (by unfold zaK; rw [Zp (by omega)]),Z⟩ | exact ⟨iE (by unfold zaK; rw [Zn (by omega)]),Z⟩
 refine xmf Z (xf 2 zeW Z (xli 2 zad Z Z (xmp Z (xN0 Z (xf 0 zaF Z (xf 2 ze2 Z (xli 0 zad Z Z (TL.gtr Z Z Z Z (fun q2=>?_) (fun q2=>?_)))))))))
 refine xpH Z (dT Z (xf 1 zeX Z (xli 2 zad Z Z (xai Z (dRR ?_)))))
 refine FQ.ret1 (v:=(.int _ _)) (Bs:=[_,_]) [0,1] Z Z Z ⟨Z,Z,Zt⟩ ?_
 first | exact ⟨iE (by unfold zaK; rw [Zp (by omega)]),Z⟩ | exact ⟨iE (by unfold zaK; rw [Zn (by omega)]),Z⟩
 refine xpF Z (TL.done (TQ.then (TC.condF Z (TC.skip (TQ.then (TC.seq (TC.draw (od [1,3,5,7,9,11,13,15,16,18,20,23]) [0,2] fc_m (by kernel_rfl) (xmi Z ?_))))))))
 refine xmp Z (xmp Z (xN0 Z (xf 0 zaF Z (xL3 0 zab Z Z (xf 2 zeW Z (xli 2 zad Z Z (xd [] (zmQ hl) zwY Z (kL2 Z Z Zt) (xd [0,1] zmV zw0 Z (kL2 Z Z Zt) ?_))))))))
 refine xd [] (znM (MemLike.rng _ _) (MemLike.rng _ _)) zzs Z (kL2 Z Z Zt) (xai Z (dR ?_))
 refine FQ.ret1 (v:=(.int _ _)) (Bs:=[_,_]) [0,1] Z Z Z ⟨Z,Z,Zt⟩ ?_
 first | exact ⟨iE (by unfold zaK; rw [Zp (by omega)]),Z⟩ | exact ⟨iE (by unfold zaK; rw [Zn (by omega)]),Z⟩
theorem zdE {l:Lay} (hl:l.Ok) {pb ab mb:Nat} {tg:Int} {av:Value} {σ:Array UInt64} {v:Int}:FnD Tryz.prog 45 [.pointer (some ⟨pb,0,none⟩),.int .i64 v] [pt pb (.cells #[.int .i64 l.V,.int .i64 l.S,.int .i64 l.T,.pointer (some ⟨ab,0,none⟩),.int .i64 (tg),av] 57),zal ab mb 139 29 (σ)] (.int .i64 (zaS l σ v)) [pt pb (.cells #[.int .i64 l.V,.int .i64 l.S,.int .i64 l.T,.pointer (some ⟨ab,0,none⟩),.int .i64 (tg),av] 57),zal ab mb 139 29 (σ)]:=by
 have hnb:=zaB hl
 refine Fn.enter (Tryz.func45) Z Z (fun w0 R=>?_)
 refine sA (xai Z (dA (xmp Z (xN0 Z (xf 0 zaF Z (xL3 0 zab Z Z (xmi Z (xD [] (zc0 hl) zfu Z ?_))))))))
 refine xai Z (dB (xai Z (dK (TC.loopK (X:=Nat×Int) [0] [0,1] (fun ⟨k,x⟩=>[(6,.int .i64 ((k:Nat):Int)),(5,.int .i64 x)]) (fun ⟨k,x⟩=>[]) (fun ⟨k,x⟩=>k<=l.nodes.toNat+1/\zeS l σ (l.nodes.toNat+1 - k) x=zaS l σ v) (fun ⟨k,x⟩=>l.nodes.toNat+1 - k) ((0,l.vertex 0 v)) ⟨Nat.zero_le _,Z⟩ ⟨Z,Z,Zt⟩ Zt (fun y hI=>?_)))))
 obtain ⟨k,x⟩:=y
 obtain ⟨hk,hr⟩:=hI
 replace hk:k<=l.nodes.toNat+1:=hk
 replace hr:zeS l σ (l.nodes.toNat+1 - k) x=zaS l σ v:=hr
 refine TC.sub (env':=[(6,_),(5,_),(0,_)]) (L':=[(0,_),(1,_)]) ⟨Z,Z,Z,Zt⟩ ⟨Z,Z,Zt⟩ (sB (xmi Z (xmp Z (xN0 Z (xf 0 zaF Z (xL3 0 zab Z Z (xD [] (zdz hl) zgz Z (TL.leq Z Z Z Z (fun q1=>?_) (fun q1=>?_)))))))))
 refine TL.done (TQ.then (TC.condT Z (TC.skip (TQ.then (TC.seq (TC.block (sA (xmp Z ?_))))))))
 refine xmi Z (xD [0,1] (zgf hl) zpK Z (xai Z (dB (xmi Z (TL.eql Z Z Z Z (fun q2=>?_) (fun q2=>?_))))))
 refine dT Z (xmi Z (xai Z (dRR (TQ.blockRet (TQ.thenRet (TQ.thenRet (TQ.blockRet (TQ.thenRet ?_))))))))
 refine FQ.ret1 (v:=(.int _ _)) (Bs:=[_,_]) [0,1] Z Z Z ⟨Z,Z,Zt⟩ ?_
 exact ⟨iE (zqA (by omega) (by assumption) hr),Z⟩
 refine TL.done (TQ.then (TC.condF Z (TC.skip (TQ.then (TC.region (xmi Z (xai Z (dI ?_))))))))
 refine xmi Z (TL.add (((k+1:Nat):Int)) Z Z (wrN (by omega)) Z Z (xai Z (TL.done (TQ.roundK ((k+1,_)) ⟨⟨(show k+1<=l.nodes.toNat+1 by omega),znU (by omega) (by assumption) hr⟩,(show l.nodes.toNat+1 - (k+1)<l.nodes.toNat+1 - k by omega)⟩ ⟨Z,Z,Zt⟩ Zt (kE1 Z Zt) (kL2 Z Z Zt)))))
 refine dE Z (sA (xai Z (dR ?_)))
 refine FQ.ret1 (v:=(.int _ _)) (Bs:=[_,_]) [0,1] Z Z Z ⟨Z,Z,Zt⟩ ?_
 obtain rfl:k=l.nodes.toNat+1:=by omega
 exact ⟨iE (by rw [<-hr,Nat.sub_self,zeS]),Z⟩
theorem zjq {l:Lay} (hl:l.Ok) {pb ab mb:Nat} {tg:Int} {av:Value} {σ:Array UInt64} {u v:Int}:Go.Eng.Fn Tryz.prog 80 [.pointer (some ⟨pb,0,none⟩),.int .i64 u,.int .i64 v] [pt pb (.cells #[.int .i64 l.V,.int .i64 l.S,.int .i64 l.T,.pointer (some ⟨ab,0,none⟩),.int .i64 (tg),av] 57),zal ab mb 139 29 (σ)] (fun x Bs=>Bs=[pt pb (.cells #[.int .i64 l.V,.int .i64 l.S,.int .i64 l.T,.pointer (some ⟨ab,0,none⟩),.int .i64 (tg),av] 57),zal ab mb 139 29 (zbq l (zaw (zaS l σ u) (zaS l σ v)) [] 1 (zaw (zaS l σ u) (zaS l σ v)).size σ),rowS x (zaw (zaS l σ u) (zaS l σ v))]):=by
 have hwl:=zdW (x:=zaS l σ u) (y:=zaS l σ v)
 refine Fn.enter (Tryz.func80) Z Z (fun w0 R=>?_)
 refine sA (TL.asg (.slice none 0 0) Z Z Z (dA (xmp Z (xmi Z (xD [0,1] (zdE hl) zij Z (xmp Z (xmi Z (xD [0,1] (zdE hl) zij Z ?_))))))))
 refine xai Z (xai Z (dA (xmi Z (xmi Z (TL.min2 Z Z Z Z (TL.bsN 2 [_] (Tm.encI (min (zaS l σ u) (zaS l σ v))) zah zfT ⟨Z,Zt⟩ Z (lit1 Z) Z Z (fun bk2=>⟨Zt,?_⟩)))))))
 refine xas Z (dS (TC.seq (TC.conseq 2 (B:=ownA Tm.encI 1 3 (.slice (some ⟨bk2,0,none⟩) 1 1) #[min (zaS l σ u) (zaS l σ v)]) Z (fun h hh=>zxW Z h hh) (TC.region (xmi Z (xmi Z (TL.neq Z Z Z Z (fun q1=>?_) (fun q1=>?_))))))))
 refine TL.done (TQ.then (TC.condT Z (TC.region (xmv Z (xmi Z (xmi Z (TL.max2 Z Z Z Z (TL.bsN 3 [_] (Tm.encI (max (zaS l σ u) (zaS l σ v))) zah zfT ⟨Z,Zt⟩ Z (lit1 Z) Z Z (fun bk3=>⟨Zt,?_⟩)))))))))
 refine TL.appS 2 3 (d2:=#[max (zaS l σ u) (zaS l σ v)]) Z (Z) Z (fun _=>Z) Z Z (row1 Z) zdA (by decide) zch (by simp) Z Z (fun v4=>⟨Zt,?_⟩)
 refine xav Z (dS (TC.seq (TC.conseq 2 (B:=ownA Tm.encI 1 3 _ (zaw (zaS l σ u) (zaS l σ v))) Z (fun _ h=>by first | (rw [zoK (by assumption)]; exact h) | (rw [zoL (by assumption)]; exact h)) (TC.ownW 2 Z (fun a7 g7 c7 hv7 hc7 ha7=>?_)))))
 first | cases hv7 | rw [hv7]
 refine TC.region (xmv Z (xz zah Z (xmi Z (dK (TC.loopK (X:=Nat) [0,6,9,31,32] [0,2] (fun k=>[(33,.int .i64 ((k:Nat):Int))]) (fun k=>[(1,zal ab mb 139 29 (zbq l (zaw (zaS l σ u) (zaS l σ v)) [] 1 k σ))]) (fun k=>k<=(zaw (zaS l σ u) (zaS l σ v)).size) (fun k=>(zaw (zaS l σ u) (zaS l σ v)).size - k) (0) (Nat.zero_le _) ⟨Z,Zt⟩ ⟨Z,Zt⟩ (fun k hI=>(TC.sub (env':=[(33,_),(0,_),(6,_),(9,_),(31,_),(32,_)]) (L':=[(1,_),(0,_),(2,_)]) ⟨Z,Z,Z,Z,Z,Z,Zt⟩ ⟨Z,Z,Z,Zt⟩ (sA (TL.lss Z Z Z Z (fun q2=>?_) (fun q2=>?_))))))))))
 refine dS (TC.condT Z (TC.skip (TQ.then (TC.seq (TC.block (sA (TL.iaO Z ha7 Z zah (by omega) Z Z (TL.ldRS 2 (.int _ _) Z Z (zaP ha7) (by omega) (Z) zad Z Z ?_))))))))
 refine xai Z (TL.done (TQ.then (TC.draw (od [1,3,5,7,9,11,13,15,17,18,20]) [0] fc_m (by kernel_rfl) (xmp Z (xN0 Z (xf 3 zci Z (xlp 0 zdU Z Z (xmp Z ?_))))))))
 refine xN0 Z (xf 0 zaF Z (xL3 0 zab Z Z (xmi Z (xd [] (zbc hl) zcq Z (kL1 Z Zt) (xd [1] (ze6 (by decide)) zkO Z (kL1 Z Zt) (dI (TL.add (((k+1:Nat):Int)) Z Z (wrN (by omega)) Z Z (xmi Z ?_))))))))
 refine TL.done (TQ.roundK (k+1) ⟨by omega,by omega⟩ ⟨Z,Zt⟩ ⟨congrArg (fun z=>some (zal ab mb 139 29 (z))) zkz,Zt⟩ (kE5 Z Z Z Z Z Zt) (kL2 Z Z Zt))
 refine dS (TC.condF Z (TC.exit (TQ.thenExit (TQ.thenExit (TQ.blockHere (TQ.then (sA (xmv Z ?_))))))))
 refine xav Z (dR (TQ.conseq 2 (B:=rowS _ (zaw (zaS l σ u) (zaS l σ v))) Z (fun _ h=>zev h) ?_))
 refine FQ.ret1 (v:=_) (Bs:=[_,_,_]) [0,1,2] Z Z Z ⟨Z,Z,Z,Zt⟩ ?_
 obtain rfl:k=(zaw (zaS l σ u) (zaS l σ v)).size:=by omega
 rfl
 refine TL.done (TQ.then (TC.condF Z (TC.skip (TQ.then (TC.seq (TC.seq (TC.conseq 2 (B:=ownA Tm.encI 1 3 _ (zaw (zaS l σ u) (zaS l σ v))) Z (fun _ h=>by first | (rw [zoK (by assumption)]; exact h) | (rw [zoL (by assumption)]; exact h)) (TC.ownW 2 Z (fun a7 g7 c7 hv7 hc7 ha7=>?_)))))))))
 first | cases hv7 | rw [hv7]
 refine TC.region (xmv Z (xz zah Z (xmi Z (dK (TC.loopK (X:=Nat) [0,6,9,31,32] [0,2] (fun k=>[(33,.int .i64 ((k:Nat):Int))]) (fun k=>[(1,zal ab mb 139 29 (zbq l (zaw (zaS l σ u) (zaS l σ v)) [] 1 k σ))]) (fun k=>k<=(zaw (zaS l σ u) (zaS l σ v)).size) (fun k=>(zaw (zaS l σ u) (zaS l σ v)).size - k) (0) (Nat.zero_le _) ⟨Z,Zt⟩ ⟨Z,Zt⟩ (fun k hI=>(TC.sub (env':=[(33,_),(0,_),(6,_),(9,_),(31,_),(32,_)]) (L':=[(1,_),(0,_),(2,_)]) ⟨Z,Z,Z,Z,Z,Z,Zt⟩ ⟨Z,Z,Z,Zt⟩ (sA (TL.lss Z Z Z Z (fun q2=>?_) (fun q2=>?_))))))))))
 refine dS (TC.condT Z (TC.skip (TQ.then (TC.seq (TC.block (sA (TL.iaO Z ha7 Z zah (by omega) Z Z (TL.ldRS 2 (.int _ _) Z Z (zaP ha7) (by omega) (Z) zad Z Z ?_))))))))
 refine xai Z (TL.done (TQ.then (TC.draw (od [1,3,5,7,9,11,13,15,17,18,20]) [0] fc_m (by kernel_rfl) (xmp Z (xN0 Z (xf 3 zci Z (xlp 0 zdU Z Z (xmp Z ?_))))))))
 refine xN0 Z (xf 0 zaF Z (xL3 0 zab Z Z (xmi Z (xd [] (zbc hl) zcq Z (kL1 Z Zt) (xd [1] (ze6 (by decide)) zkO Z (kL1 Z Zt) (dI (TL.add (((k+1:Nat):Int)) Z Z (wrN (by omega)) Z Z (xmi Z ?_))))))))
 refine TL.done (TQ.roundK (k+1) ⟨by omega,by omega⟩ ⟨Z,Zt⟩ ⟨congrArg (fun z=>some (zal ab mb 139 29 (z))) zkz,Zt⟩ (kE5 Z Z Z Z Z Zt) (kL2 Z Z Zt))
 refine dS (TC.condF Z (TC.exit (TQ.thenExit (TQ.thenExit (TQ.blockHere (TQ.then (sA (xmv Z ?_))))))))
 refine xav Z (dR (TQ.conseq 2 (B:=rowS _ (zaw (zaS l σ u) (zaS l σ v))) Z (fun _ h=>zev h) ?_))
 refine FQ.ret1 (v:=_) (Bs:=[_,_,_]) [0,1,2] Z Z Z ⟨Z,Z,Z,Zt⟩ ?_
 obtain rfl:k=(zaw (zaS l σ u) (zaS l σ v)).size:=by omega
 rfl
theorem zkW {l:Lay} (hl:l.Ok) {da oa:Option Addr} {dn dc on oc bd offd:Nat} {Ad:Assn} {fd:Nat->Int} (hda:0<dn->da=some ⟨bd,offd,none⟩) (hAd:zbj Ad encU 1 bd offd dn fd) (hfd:∀ i,i<dn->0<=fd i/\fd i<18446744073709551616) (hdn:dn<=60)  : Go.Eng.Fn Tryz.prog 25 [.agg #[.int .i64 l.V,.int .i64 l.S,.int .i64 l.T,.slice da dn dc,.slice oa on oc]] [Ad] (fun x Bs=>∃ pb ab mb,x=.pointer (some ⟨pb,0,none⟩)/\Bs=[Ad,pt pb (.cells #[.int .i64 l.V,.int .i64 l.S,.int .i64 l.T,.pointer (some ⟨ab,0,none⟩),.int .i64 (0),.slice none 0 0] 57),zal ab mb 139 29 (zf2 l dn fd (Array.replicate l.cells.toNat 0))]):=by
 refine Fn.enter (Tryz.func25) Z Z (fun w0 R=>?_)
 refine sA (xB 1 Z (fun bk1=>(TL.asg (.pointer none) Z Z Z (dA (xf 0 ze1 Z (xL3 1 zab Z Z (xf 3 zkM Z (xls 1 zih Z Z (TL.call [0] [0,2] (zv8 hl hda hAd hfd (by omega)) ⟨Z,Z,Zt⟩ ⟨Z,Zt⟩ zAF Z Z Z Z ?_)))))))))
 rintro v Bs ⟨ab,mb,rfl,rfl⟩
 refine ⟨Z,Zt,?_⟩
 refine xmu Z (TL.ext (.pointer (some ⟨_,_,none⟩)) Z Z Z Z (xei Z Z (xap Z (xai Z (dB (xmi Z (TL.neqF Z Z (by decide) Z Z (xmf Z ?_))))))))
 refine xmp Z (TL.nilP false Z Z zAB Z Z Z (xpF Z (dF Z (xf 0 ze1 Z (xL3 1 zab Z Z (xmp Z (TL.bld [.int .i64 0,.int .i64 0,.int .i64 0,.pointer none,.int .i64 0,.slice none 0 0] [(.agg _),(.pointer (some ⟨_,_,none⟩))] [_,_,_,_,_,_] zAp zAy ⟨Z,Z,Zt⟩ ⟨Z,Z⟩ Z Z (xB 3 Z (fun bk3=>?_)))))))))
 refine xap Z (dR ?_)
 refine FQ.ret1 (v:=(.pointer (some ⟨_,_,none⟩))) (Bs:=[_,_,_]) [0,3,2] Z Z Z ⟨Z,Z,Z,Zt⟩ ?_
 exact ⟨_,_,_,Z,Z⟩
set_option maxHeartbeats 2000000 in
theorem zkX  : FnD Tryz.prog 15 [] [] (.bool true) []:=by
 obtain ⟨b,τ,P,hg,hP,hne,hTr,hrs,⟨n,hpn,hn1,hn2,hw1,hw2⟩,hv,hw9,hok,hr0,hr1⟩:=zv9
 have hts:0<t19.size/\t19.size<=20000:=by decide +kernel
 have hhs:h19.size<=2:=zdW
 refine Fn.enter (Tryz.func15) Z Z (fun w0 R=>?_)
 refine TC.seq (TC.nilA 0 (A:=fun _=>True) Zt (TC.region (xaf Z (dA (TL.bld [.int .i64 0,.int .i64 0,.int .i64 0] [(.int _ _),(.int _ _),(.int _ _)] [_,_,_] zAs zAA ⟨Z,Z,Z,Zt⟩ ⟨Z,Z⟩ Z Z (TL.bld [.int .i64 0,.int .i64 0,.int .i64 0,.slice none 0 0,.slice none 0 0] [(.agg _)] [_,_,_,_,_] zAr zAz ⟨Z,Zt⟩ ⟨Z,Z⟩ Z Z ?_))))))
 refine TL.call [0] [0,1,2] (zkW (l:=l19) (da:=none) (dn:=0) (dc:=0) (Ad:=fun _=>True) (bd:=0) (offd:=0) (fd:=fun _=>0) zgx (fun h=>absurd h (Nat.lt_irrefl 0)) (fun _ _ i hi=>absurd hi (Nat.not_lt_zero i)) (fun i hi=>absurd hi (Nat.not_lt_zero i)) (by decide)) ⟨Z,Zt⟩ ⟨Z,Zt⟩ zw2 Z Z Z Z ?_
 rintro x Bs ⟨pb,ab,mb,rfl,rfl⟩
 refine ⟨Z,Zt,?_⟩
 refine xap Z (dB (xmp Z (TL.nilP false Z Z zwV Z Z Z (dF Z (xmp Z (TL.call [1,2] [1,2,3] (zjq (l:=l19) zgx) ⟨Z,Z,Z,Zt⟩ ⟨Z,Z,Zt⟩ zta Z Z Z Z ?_))))))
 rintro r9 Bs rfl
 refine ⟨Z,Zt,?_⟩
 refine TL.rowS 3 Z (fun a9 b9 o9 c9 hv9 hc9 ha9=>⟨Zt,?_⟩)
 cases hv9
 rw [show zbq l19 (zaw (zaS l19 (zf2 l19 0 (fun _=>0) (Array.replicate l19.cells.toNat 0)) 0) (zaS l19 (zf2 l19 0 (fun _=>0) (Array.replicate l19.cells.toNat 0)) 1)) [] 1 (zaw (zaS l19 (zf2 l19 0 (fun _=>0) (Array.replicate l19.cells.toNat 0)) 0) (zaS l19 (zf2 l19 0 (fun _=>0) (Array.replicate l19.cells.toNat 0)) 1)).size (zf2 l19 0 (fun _=>0) (Array.replicate l19.cells.toNat 0))=t19 from Z]
 refine xas Z (dS (TC.drawT (.br [(0,true),(1,true),(2,true),(3,true),(4,true),(5,true),(6,true),(7,true),(8,true),(9,true)] 10 11 (.fin [(11,false),(12,false)]) (.fin [(10,false),(12,false)])) [1] fc_m (by kernel_rfl) (TT.br (xmp Z (xN0 Z (xf 3 zci Z (xlp 1 zdU Z Z (xmp Z (xN0 Z ?_)))))))))
 refine xf 0 zaF Z (xL3 1 zab Z Z (TL.bld [.int .i64 0,.int .i64 0] [(.int _ _)] [_,_] zfU zjB ⟨Z,Zt⟩ ⟨Z,Z⟩ Z Z (xms Z (TL.both ?_ ?_))))
 refine TL.openE 2 Z (fun n0=>⟨(kL1 Z Zt),?_⟩)
 refine TL.call [2,3] [2,3,4,5] (zhz (p:=⟨1,0⟩) zgx ha9 hhs Z zcw hts.1 hts.2 hg hP hne) ⟨Z,Z,Z,Z,Z,Z,Z,Zt⟩ ⟨Z,Z,Zt⟩ zs9 Z Z Z Z ?_
 rintro r9 Bs ⟨xa,xc,ya,yc,rfl,rfl⟩
 refine ⟨Z,(kL1 Z Zt),?_⟩
 refine TL.conseq 2 (B:=zal ab mb 139 29 (t19)) Z (fun h hh=>zfw hh) (kL1 Z Zt) (TL.ownW 4 Z (fun a8 g8 c8 hv8 hc8 ha8=>?_))
 cases hv8
 refine TL.rowS 5 Z (fun a7 b7 o7 c7 hv7 hc7 ha7=>⟨(kL1 Z Zt),?_⟩)
 cases hv7
 refine TL.tree (TT.fin (TL.alloc 6 (cs:=#[.slice none 0 0,.int .i64 0,.bool false,.slice none 0 0]) zb1 Z Z Z (fun _=>(kL1 Z Zt)) (fun bk6=>(TL.stW 6 4 [_,_,_,_] Z Z Z Z Z Z zat Z Z (kL1 Z Zt) (dB (xf 2 ze0 Z (xlb 6 zd3 Z Z ?_)))))))
 rw [hTr]
 refine xnt Z (xmf Z (xf 3 zdo Z (xls 6 zeU Z Z (xz zah Z (TL.neqF Z Z (by omega) Z Z (xpF Z (xmf Z (xf 1 zcj Z ?_))))))))
 refine xli 6 zad Z Z (TL.lssF Z Z (by omega) Z Z (xpF Z (xmf Z (xf 1 zcj Z (xli 6 zad Z Z (xf 0 za9 Z (xls 6 zcf Z Z (xz zam Z ?_))))))))
 refine TL.geqF Z Z (by omega) Z Z (xpF Z (xmf Z (xf 0 za9 Z (xls 6 zcf Z Z (xf 1 zcj Z (xli 6 zad Z Z ?_))))))
 rw [hpn]
 refine TL.iaO Z ha8 Z zam (by omega) Z Z (xf 0 zd8 Z (TL.ldRF 4 (.bool true) Z Z (zaP ha8) (by omega) Z (congrArg (fun z=>some (Value.bool z)) hw1) zd3 Z Z (xnt Z (xpF Z (xmf Z (xf 0 za9 Z (xls 6 zcf Z Z (xf 1 zcj Z ?_))))))))
 refine xli 6 zad Z Z ?_
 first | rw [hpn] | skip
 refine TL.iaO Z ha8 Z zam (by omega) Z Z (xf 1 zbT Z (TL.ldRF 4 (.int .i64 0) Z Z (zaP ha8) (by omega) Z (congrArg (fun z=>some (Value.int .i64 z)) hw2) zad Z Z (TL.cmpF Z Z Z (by decide) Z Z (xpF Z (dF Z (xf 0 za9 Z (xls 6 zcf Z Z (TL.call [4] [4,7,8] (zjm ha8 (by omega) (zaP ha8)) ⟨Z,Zt⟩ ⟨Z,Zt⟩ ztD Z Z Z Z ?_))))))))
 rintro x Bs ⟨rb,v,rfl,rfl⟩
 refine ⟨Z,Zt,?_⟩
 rw [ziz]
 refine TL.ownW 8 Z (fun a6 g6 c6 hv6 hc6 ha6=>?_)
 cases hv6
 refine xap Z (dB (xmp Z (TL.nilP false Z Z zs8 Z Z Z (xmf Z (xmp Z (xD [7] zg4 zm8 Z ?_))))))
 rw [decide_eq_false (show ¬(0:Int)=(P.work.size:Int) by omega)]
 refine xpF Z (TL.done (TQ.then (TC.condF Z (TC.skip (TQ.then (sB (xai Z (dK ?_))))))))
 refine TC.loopK (X:=Nat) [1,3,4] [0,1,3,4,5,6,8] (fun k=>[(5,.int .i64 ((k:Nat):Int))]) (fun k=>[(7,pt rb (.cells #[.slice a6 P.work.size c6,.int .i64 (((k:Nat):Int)),.bool (badA t19 P.work k)] 145)),(2,zal ab mb 139 29 (runA t19 P.work k))]) (fun k=>k<P.work.size) (fun k=>P.work.size - k) (0) (by omega) ⟨Z,Zt⟩ ⟨Z,Z,Zt⟩ (fun k hI=>(TC.sub (env':=[(5,_),(1,_),(3,_),(4,_)]) (L':=[(7,_),(2,_),(0,_),(1,_),(3,_),(4,_),(5,_),(6,_),(8,_)]) ⟨Z,Z,Z,Z,Zt⟩ ⟨Z,Z,Z,Z,Z,Z,Z,Z,Z,Zt⟩ (sB (xmp Z (xmp Z (xN0 Z (xf 3 zci Z (xlp 1 zdU Z Z ?_))))))))
 refine xD [7,8,2] (znH (by omega) hc6 ha6 hI hv) ztw Z ?_
 rw [show (badA t19 P.work k || !accG P.work[k]! (runA t19 P.work k))=badA t19 P.work (k+1) from Z,show acc1 P.work[k]! (runA t19 P.work k)=runA t19 P.work (k+1) from Z]
 refine TL.casesP Z (fun q1=>?_) (fun q1=>?_)
 refine xnt Z (dE Z (TC.seq ?_))
 have hk2:k+1=P.work.size:=by assumption
 rw [hk2]
 have hbd:badA t19 P.work P.work.size=false:=zoA hok (Nat.le_refl _)
 refine TC.draw (od [1,2,5,7,11,13,15,8,17,19,21,23,27,24,28,31,33,35,37,41,43,45,47,38,49,51,53]) [5,6] fc_m (by kernel_rfl) (xmp Z (xd [7] zlf ztn Z (kL2 Z Z Zt) ?_))
 rw [hbd]
 refine xmt Z (xmp Z (xf 0 za9 Z (xls 6 zcf Z Z (xz zam Z (xd [7] zje ztp Z (kL2 Z Z Zt) (TL.eqlT Z Z Z Z Z (xpT Z (xmt Z ?_))))))))
 refine xmp Z (xmp Z (xd [1,2] (zdE (l:=l19) zgx) zij Z (kL2 Z Z Zt) (xd [1,2] (zdE (l:=l19) zgx) zij Z (kL2 Z Z Zt) (TL.eqlT Z Z (hr0.trans hr1.symm) Z Z (xpT Z (xmt Z (xmp Z (xf 3 zdo Z ?_))))))))
 refine xls 6 zeU Z Z (TL.iaO (i:=0) Z ha7 Z zah (by omega) Z Z (TL.ldRS 5 (.int _ _) Z Z zcw (by omega) (Z) zad Z Z (xd [1,2] (zdE (l:=l19) zgx) zij Z (kL2 Z Z Zt) (TL.eqlT Z Z hr0 Z Z (xpT Z (xat Z (dR ?_)))))))
 refine FQ.ret1 (v:=(.bool true)) (Bs:=[]) [] Z Z Z Zt ?_
 exact ⟨Z,Z⟩
 refine xnf Z (TL.done (TQ.then (TC.condT Z (TC.skip (TQ.then (TC.seq (TC.block (sA ?_))))))))
 refine xmi Z (TL.gtrF Z Z (by omega) Z Z (TL.done (TQ.then (TC.condF Z (TC.skip (TQ.inBlock (TQ.then (TC.region ?_))))))))
 refine xmi Z (TL.add (((k+1:Nat):Int)) Z Z (wrN (by omega)) Z Z (xai Z (TL.done (TQ.roundK (k+1) ⟨by omega,by omega⟩ ⟨Z,Zt⟩ ⟨Z,Z,Zt⟩ (kE3 Z Z Z Zt) (kL7 Z Z Z Z Z Z Z Zt)))))
 refine TL.alloc 9 (cs:=#[.slice none 0 0,.int .i64 0,.bool false,.slice none 0 0]) zb1 Z Z Z (fun _=>(kL1 Z Zt)) (fun bk9=>(TL.tree (TT.fin (TL.openE 2 Z (fun n0=>⟨(kL1 Z Zt),?_⟩)))))
 refine TL.call [2,3] [2,3,10,11] (zhz (p:=⟨1,0⟩) zgx ha9 hhs Z zcw hts.1 hts.2 hg hP hne) ⟨Z,Z,Z,Z,Z,Z,Z,Zt⟩ ⟨Z,Z,Zt⟩ zs9 Z Z Z Z ?_
 rintro r9 Bs ⟨xa,xc,ya,yc,rfl,rfl⟩
 refine ⟨Z,(kL1 Z Zt),?_⟩
 refine TL.conseq 2 (B:=zal ab mb 139 29 (t19)) Z (fun h hh=>zfw hh) (kL1 Z Zt) (TL.ownW 10 Z (fun a8 g8 c8 hv8 hc8 ha8=>?_))
 cases hv8
 refine TL.rowS 11 Z (fun a7 b7 o7 c7 hv7 hc7 ha7=>⟨(kL1 Z Zt),?_⟩)
 cases hv7
 refine TL.stW 9 4 [_,_,_,_] Z Z Z Z Z Z zat Z Z (kL1 Z Zt) (dB (xf 2 ze0 Z (xlb 9 zd3 Z Z ?_)))
 rw [hTr]
 refine xnt Z (xmf Z (xf 3 zdo Z (xls 9 zeU Z Z (xz zah Z (TL.neqF Z Z (by omega) Z Z (xpF Z (xmf Z (xf 1 zcj Z ?_))))))))
 refine xli 9 zad Z Z (TL.lssF Z Z (by omega) Z Z (xpF Z (xmf Z (xf 1 zcj Z (xli 9 zad Z Z (xf 0 za9 Z (xls 9 zcf Z Z (xz zam Z ?_))))))))
 refine TL.geqF Z Z (by omega) Z Z (xpF Z (xmf Z (xf 0 za9 Z (xls 9 zcf Z Z (xf 1 zcj Z (xli 9 zad Z Z ?_))))))
 rw [hpn]
 refine TL.iaO Z ha8 Z zam (by omega) Z Z (xf 0 zd8 Z (TL.ldRF 10 (.bool true) Z Z (zaP ha8) (by omega) Z (congrArg (fun z=>some (Value.bool z)) hw1) zd3 Z Z (xnt Z (xpF Z (xmf Z (xf 0 za9 Z (xls 9 zcf Z Z (xf 1 zcj Z ?_))))))))
 refine xli 9 zad Z Z ?_
 first | rw [hpn] | skip
 refine TL.iaO Z ha8 Z zam (by omega) Z Z (xf 1 zbT Z (TL.ldRF 10 (.int .i64 0) Z Z (zaP ha8) (by omega) Z (congrArg (fun z=>some (Value.int .i64 z)) hw2) zad Z Z (TL.cmpF Z Z Z (by decide) Z Z (xpF Z (dF Z (xf 0 za9 Z (xls 9 zcf Z Z (TL.call [10] [10,12,13] (zjm ha8 (by omega) (zaP ha8)) ⟨Z,Zt⟩ ⟨Z,Zt⟩ ztD Z Z Z Z ?_))))))))
 rintro x Bs ⟨rb,v,rfl,rfl⟩
 refine ⟨Z,Zt,?_⟩
 rw [ziz]
 refine TL.ownW 13 Z (fun a6 g6 c6 hv6 hc6 ha6=>?_)
 cases hv6
 refine xap Z (dB (xmp Z (TL.nilP false Z Z zs8 Z Z Z (xmf Z (xmp Z (xD [12] zg4 zm8 Z ?_))))))
 rw [decide_eq_false (show ¬(0:Int)=(P.work.size:Int) by omega)]
 refine xpF Z (TL.done (TQ.then (TC.condF Z (TC.skip (TQ.then (sB (xai Z (dK ?_))))))))
 refine TC.loopK (X:=Nat) [1,3,4] [0,1,3,9,10,11,13] (fun k=>[(5,.int .i64 ((k:Nat):Int))]) (fun k=>[(12,pt rb (.cells #[.slice a6 P.work.size c6,.int .i64 (((k:Nat):Int)),.bool (badA t19 P.work k)] 145)),(2,zal ab mb 139 29 (runA t19 P.work k))]) (fun k=>k<P.work.size) (fun k=>P.work.size - k) (0) (by omega) ⟨Z,Zt⟩ ⟨Z,Z,Zt⟩ (fun k hI=>(TC.sub (env':=[(5,_),(1,_),(3,_),(4,_)]) (L':=[(12,_),(2,_),(0,_),(1,_),(3,_),(9,_),(10,_),(11,_),(13,_)]) ⟨Z,Z,Z,Z,Zt⟩ ⟨Z,Z,Z,Z,Z,Z,Z,Z,Z,Zt⟩ (sB (xmp Z (xmp Z (xN0 Z (xf 3 zci Z (xlp 1 zdU Z Z ?_))))))))
 refine xD [12,13,2] (znH (by omega) hc6 ha6 hI hv) ztw Z ?_
 rw [show (badA t19 P.work k || !accG P.work[k]! (runA t19 P.work k))=badA t19 P.work (k+1) from Z,show acc1 P.work[k]! (runA t19 P.work k)=runA t19 P.work (k+1) from Z]
 refine TL.casesP Z (fun q1=>?_) (fun q1=>?_)
 refine xnt Z (dE Z (TC.seq ?_))
 have hk2:k+1=P.work.size:=by assumption
 rw [hk2]
 have hbd:badA t19 P.work P.work.size=false:=zoA hok (Nat.le_refl _)
 refine TC.draw (od [1,2,5,7,11,13,15,8,17,19,21,23,27,24,28,31,33,35,37,41,43,45,47,38,49,51,53]) [9,11] fc_m (by kernel_rfl) (xmp Z (xd [12] zlf ztn Z (kL2 Z Z Zt) ?_))
 rw [hbd]
 refine xmt Z (xmp Z (xf 0 za9 Z (xls 9 zcf Z Z (xz zam Z (xd [12] zje ztp Z (kL2 Z Z Zt) (TL.eqlT Z Z Z Z Z (xpT Z (xmt Z ?_))))))))
 refine xmp Z (xmp Z (xd [1,2] (zdE (l:=l19) zgx) zij Z (kL2 Z Z Zt) (xd [1,2] (zdE (l:=l19) zgx) zij Z (kL2 Z Z Zt) (TL.eqlT Z Z (hr0.trans hr1.symm) Z Z (xpT Z (xmt Z (xmp Z (xf 3 zdo Z ?_))))))))
 refine xls 9 zeU Z Z (TL.iaO (i:=0) Z ha7 Z zah (by omega) Z Z (TL.ldRS 11 (.int _ _) Z Z zcw (by omega) (Z) zad Z Z (xd [1,2] (zdE (l:=l19) zgx) zij Z (kL2 Z Z Zt) (TL.eqlT Z Z hr0 Z Z (xpT Z (xat Z (dR ?_)))))))
 refine FQ.ret1 (v:=(.bool true)) (Bs:=[]) [] Z Z Z Zt ?_
 exact ⟨Z,Z⟩
 refine xnf Z (TL.done (TQ.then (TC.condT Z (TC.skip (TQ.then (TC.seq (TC.block (sA ?_))))))))
 refine xmi Z (TL.gtrF Z Z (by omega) Z Z (TL.done (TQ.then (TC.condF Z (TC.skip (TQ.inBlock (TQ.then (TC.region ?_))))))))
 refine xmi Z (TL.add (((k+1:Nat):Int)) Z Z (wrN (by omega)) Z Z (xai Z (TL.done (TQ.roundK (k+1) ⟨by omega,by omega⟩ ⟨Z,Zt⟩ ⟨Z,Z,Zt⟩ (kE3 Z Z Z Zt) (kL7 Z Z Z Z Z Z Z Zt)))))
end Go.Proofs.YtabjfnfglcghfaaGreat
