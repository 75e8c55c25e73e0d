import Derived.Test.YtabjfnfglcghfaaGreatConA
set_option linter.unusedVariables false
set_option linter.unusedSimpArgs false
set_option maxRecDepth 20000
namespace Go.Proofs.YtabjfnfglcghfaaGreat
open Go.Eng Go.Tm
theorem zuc {a:Option Addr} {b off n c:Nat} {A:Assn} {f:Nat->Int} (ha:0<n->a=some ⟨b,off,none⟩) (hn:n<=20000) (hA:za8 A encU 1 b off n f):Go.Eng.Fn Tryz.prog 106 [.slice a n c] [A] (fun v Bs=>Bs=[A,ownA encU 1 29 v ((List.range n).map f).toArray]):=by
 refine Fn.enter (Tryz.func106) Z Z (fun w0 R=>?_)
 refine sA (TL.asg (.slice none 0 0) rfl rfl rfl (dB (xms rfl (TL.nilS rfl rfl zaM rfl rfl (TL.cases rfl (fun q1=>?_) (fun q1=>?_))))))
 refine TL.done (TQ.then (TC.condT Z (TC.seq ?_)))
 obtain rfl:n=0:=by
   rcases Nat.eq_zero_or_pos n with h | h
   ·exact h
   ·rw [ha h] at q1; simp at q1
 refine TC.nilA 1 (A:=ownA encU 1 29 (.slice none 0 0) ((List.range 0).map f).toArray) (.inl ⟨Z,Z⟩) (TC.region (TL.asg (.slice none 0 0) Z Z Z (dRR ?_)))
 refine FQ.ret1 (v:=(.slice none 0 0)) (Bs:=[A,_]) [0,1] Z Z Z ⟨Z,Z,Zt⟩ ?_
 rfl
 refine dF Z (TL.bs0 2 encU zaM Z Z (fun bk2=>⟨Zt,?_⟩))
 refine xms Z ?_
 obtain ⟨ad,rfl⟩:∃ ad,a=some ad:=Option.ne_none_iff_exists'.1 (by rintro rfl; simp at q1)
 refine TL.appS 2 0 (d2:=((List.range n).map f).toArray) Z (zex f n) Z (ha) Z Z (hA.congr fun i hi=>(zlc f hi).symm) zvU (by decide) zjD (by rw [zex]; show 0+n<=137438953472; omega) Z Z (fun v3=>⟨Zt,?_⟩)
 refine TL.conseq 2 (B:=ownA encU 1 29 v3 ((List.range n).map f).toArray) Z (fun h hh=>by simpa using hh) Zt (xav Z (dR ?_))
 refine FQ.ret1 (v:=_) (Bs:=[A,_]) [0,2] Z Z Z ⟨Z,Z,Zt⟩ ?_
 rfl
theorem zud {a:Option Addr} {b off n c:Nat} {A:Assn} {f:Nat->Int} (ha:0<n->a=some ⟨b,off,none⟩) (hn:n<=20000) (hA:za8 A Tm.encI 1 b off n f):Go.Eng.Fn Tryz.prog 150 [.slice a n c] [A] (fun v Bs=>Bs=[A,ownA Tm.encI 1 3 v ((List.range n).map f).toArray]):=by
 refine Fn.enter (Tryz.func150) Z Z (fun w0 R=>?_)
 refine sA (TL.asg (.slice none 0 0) rfl rfl rfl (dB (xms rfl (TL.nilS rfl rfl zah rfl rfl (TL.cases rfl (fun q1=>?_) (fun q1=>?_))))))
 refine TL.done (TQ.then (TC.condT Z (TC.seq ?_)))
 obtain rfl:n=0:=by
   rcases Nat.eq_zero_or_pos n with h | h
   ·exact h
   ·rw [ha h] at q1; simp at q1
 refine TC.nilA 1 (A:=ownA Tm.encI 1 3 (.slice none 0 0) ((List.range 0).map f).toArray) (.inl ⟨Z,Z⟩) (TC.region (TL.asg (.slice none 0 0) Z Z Z (dRR ?_)))
 refine FQ.ret1 (v:=(.slice none 0 0)) (Bs:=[A,_]) [0,1] Z Z Z ⟨Z,Z,Zt⟩ ?_
 rfl
 refine dF Z (TL.bs0 2 Tm.encI zah Z Z (fun bk2=>⟨Zt,?_⟩))
 refine xms Z ?_
 obtain ⟨ad,rfl⟩:∃ ad,a=some ad:=Option.ne_none_iff_exists'.1 (by rintro rfl; simp at q1)
 refine TL.appS 2 0 (d2:=((List.range n).map f).toArray) Z (zex f n) Z (ha) Z Z (hA.congr fun i hi=>(zlc f hi).symm) zeG (by decide) zc3 (by rw [zex]; show 0+n<=137438953472; omega) Z Z (fun v3=>⟨Zt,?_⟩)
 refine TL.conseq 2 (B:=ownA Tm.encI 1 3 v3 ((List.range n).map f).toArray) Z (fun h hh=>by simpa using hh) Zt (xav Z (dR ?_))
 refine FQ.ret1 (v:=_) (Bs:=[A,_]) [0,2] Z Z Z ⟨Z,Z,Zt⟩ ?_
 rfl
theorem ztX {a1 a2:Option Addr} {b1 o1 n1 c1 b2 o2 n2 c2:Nat} {A1 A2:Assn} {f g:Nat->Int} (h1:0<n1->a1=some ⟨b1,o1,none⟩) (h2:0<n2->a2=some ⟨b2,o2,none⟩) (hn:n1<=20000) (hA1:za8 A1 encU 1 b1 o1 n1 f) (hA2:za8 A2 encU 1 b2 o2 n2 g):FnD Tryz.prog 107 [.slice a1 n1 c1,.slice a2 n2 c2] [A1,A2] (.bool (decide (n1=n2) && eqN f g n1)) [A1,A2]:=by
 refine Fn.enter (Tryz.func107) Z Z (fun w0 R=>?_)
 refine sA (xaf Z (dB (xms Z (xz zaM Z (xms Z (xz zaM Z (TL.neq Z Z Z Z (fun q1=>?_) (fun q1=>?_))))))))
 refine dT Z (xaf Z (dRR ?_))
 refine FQ.ret1 (v:=(.bool false)) (Bs:=[A1,A2]) [0,1] Z Z Z ⟨Z,Z,Zt⟩ ?_
 exact ⟨congrArg Value.bool (by rw [decide_eq_false (by omega)]; rfl),Z⟩
 refine TL.done (TQ.then (TC.condF Z (TC.skip (TQ.then (sB (xms Z (xz zaM Z (xmi Z ?_))))))))
 refine dK (TC.loopK (X:=Nat) [0,1,12] [0,1] (fun i=>[(13,.int .i64 ((i:Nat):Int))]) (fun i=>[]) (fun i=>i<=n1/\∀ j,j<i->f j=g j) (fun i=>n1 - i) (0) ⟨Nat.zero_le _,fun j hj=>absurd hj (Nat.not_lt_zero _)⟩ ⟨Z,Zt⟩ Zt (fun i hI=>?_))
 obtain ⟨hi,hj⟩:=hI
 have hn12:n1=n2:=by omega
 refine TC.sub (env':=[(13,_),(0,_),(1,_),(12,_)]) (L':=[(0,_),(1,_)]) ⟨Z,Z,Z,Z,Zt⟩ ⟨Z,Z,Zt⟩ (sA (TL.lss Z Z Z Z (fun q2=>?_) (fun q2=>?_)))
 refine dS (TC.condT Z (TC.skip (TQ.then (TC.seq (TC.block (sA (xmi Z (xai Z ?_))))))))
 refine dS (TC.draw (od [1,3,5,7,9,11,13,15,17]) [0,1] fc_m (by kernel_rfl) (xms Z (xmi Z (TL.iaO Z h1 Z zaM (by omega) Z Z (TL.ldRS 0 (.int _ _) Z Z hA1 (by omega) (Z) zik Z Z (xms Z (xmi Z (TL.iaO Z h2 Z zaM (by omega) Z Z ?_))))))))
 refine TL.ldRS 1 (.int _ _) Z Z hA2 (by omega) (Z) zik Z Z (TL.neq Z Z Z Z (fun q3=>?_) (fun q3=>?_))
 refine dT Z (xaf Z (dR (TQ.blockRet (TQ.thenRet (TQ.thenRet (TQ.blockRet (TQ.thenRet ?_)))))))
 refine FQ.ret1 (v:=(.bool false)) (Bs:=[A1,A2]) [0,1] Z Z Z ⟨Z,Z,Zt⟩ ?_
 exact ⟨congrArg Value.bool (by rw [zAS (i:=i) (by omega) (by assumption),Bool.and_false]),Z⟩
 refine TL.done (TQ.then (TC.condF Z (TC.skip (TQ.inBlock (TQ.then (TC.region (TL.add (((i+1:Nat):Int)) Z Z (wrN (by omega)) Z Z (xmi Z ?_))))))))
 refine TL.done (TQ.roundK (i+1) ⟨⟨by omega,fun j hj2=>by by_cases he:j=i; subst he; exact Decidable.not_not.1 (by assumption); exact hj j (by omega)⟩,by omega⟩ ⟨Z,Zt⟩ Zt (kE3 Z Z Z Zt) (kL2 Z Z Zt))
 refine dS (TC.condF Z (TC.exit (TQ.thenExit (TQ.thenExit (TQ.blockHere (TQ.then (sA (xat Z ?_))))))))
 refine dR ?_
 refine FQ.ret1 (v:=(.bool true)) (Bs:=[A1,A2]) [0,1] Z Z Z ⟨Z,Z,Zt⟩ ?_
 exact ⟨congrArg Value.bool (by rw [decide_eq_true hn12,zw9 (fun j h=>hj j (by omega))]; rfl),Z⟩
theorem zwd {ab mb cap:Nat} {rs:Array Value} {σ:Array UInt64} {c:Cnt} (h0:0<σ.size) (h1:σ.size<=20000):Go.Eng.Fn Tryz.prog 58 [.pointer (some ⟨ab,0,none⟩)] [arO ab mb (σ.size) cap 139 c,pt mb (.cells (encM (σ)++rs) 29)] (fun v Bs=>∃ ab2 mb2,v=.pointer (some ⟨ab2,0,none⟩)/\Bs=[arO ab mb (σ.size) cap 139 c,pt mb (.cells (encM (σ)++rs) 29),arenaC ab2 mb2 139 29 (σ) (c)]):=by
 refine Fn.enter (Tryz.func58) Z Z (fun w0 R=>?_)
 refine sA (TL.asg (.pointer none) Z Z Z (dS (TC.draw (od [1,3,5,7,11,13,15,17,8,19,20,23]) [0] fc_m (by kernel_rfl) (xmp Z (xN0 Z (xf 0 zcC Z (xls 0 zgv Z Z (xmp Z ?_))))))))
 refine xN0 Z (xf 1 zeo Z (xL5 0 ztU Z Z (TL.call [1] [1,2] (zuc (fun _=>Z) h1 zn1) ⟨Z,Zt⟩ ⟨Z,Zt⟩ zzt Z Z Z Z ?_)))
 rintro v Bs rfl
 refine ⟨Z,(kL1 Z Zt),?_⟩
 refine TL.ownM 2 h0 Z (fun _ _=>(kL1 Z Zt)) (fun g2 cap2 rs2 hv=>?_)
 subst hv
 refine TL.bld [.slice none 0 0,.int .i64 0,.int .i64 0,.int .i64 0,.int .i64 0,.int .i64 0] [(.slice _ _ _),(.agg _)] [_,_,_,_,_,_] zta ztc ⟨Z,Z,Zt⟩ ⟨Z,Z⟩ Z Z (TL.boxA 3 Z Z Z (fun _=>(kL1 Z Zt)) (fun bk3=>(xap Z (dR (TQ.arenaC 3 2 (N:=σ.size) (c:=c) Z Z Z (by decide) ?_)))))
 refine FQ.ret1 (v:=(.pointer (some ⟨_,_,none⟩))) (Bs:=[_,_,_]) [0,1,3] Z Z Z ⟨Z,Z,Z,Zt⟩ ?_
 exact ⟨_,_,Z,Z⟩
theorem zhA {ab mb:Nat} {σ:Array UInt64} {c:Cnt} (h0:0<σ.size) (h1:σ.size<=20000):Go.Eng.Fn Tryz.prog 58 [.pointer (some ⟨ab,0,none⟩)] [arenaC ab mb 139 29 (σ) (c)] (fun v Bs=>∃ ab2 mb2,v=.pointer (some ⟨ab2,0,none⟩)/\Bs=[arenaC ab mb 139 29 (σ) (c),arenaC ab2 mb2 139 29 (σ) (c)]) :=
 Fn.arenaX Z (fun cap rs=>Fn.mono (zwd h0 h1) fun v Bs ⟨ab2,mb2,hv,hB⟩=>⟨_,hB,ab2,mb2,hv,Z⟩)
theorem zuI {ab1 mb1 cap1 ab2 mb2 cap2:Nat} {rs1 rs2:Array Value} {σ1 σ2:Array UInt64} {c1 c2:Cnt} (h1:σ1.size<=20000):FnD Tryz.prog 59 [.pointer (some ⟨ab1,0,none⟩),.pointer (some ⟨ab2,0,none⟩)] [arO ab1 mb1 σ1.size cap1 139 c1,pt mb1 (.cells (encM σ1++rs1) 29),arO ab2 mb2 σ2.size cap2 139 c2,pt mb2 (.cells (encM σ2++rs2) 29)] (.bool (decide (σ1.size=σ2.size) && eqN (memF σ1) (memF σ2) σ1.size)) [arO ab1 mb1 σ1.size cap1 139 c1,pt mb1 (.cells (encM σ1++rs1) 29),arO ab2 mb2 σ2.size cap2 139 c2,pt mb2 (.cells (encM σ2++rs2) 29)]:=by
 refine Fn.enter (Tryz.func59) Z Z (fun w0 R=>?_)
 refine sA (xaf Z (dS (TC.draw (od [1,3,5,7,9,11,13,15,16,19]) [0,2] fc_m (by kernel_rfl) (xmp Z (xN0 Z (xf 0 zcC Z (xls 0 zgv Z Z (xmp Z ?_))))))))
 refine xN0 Z (xf 0 zcC Z (xls 2 zgv Z Z (xd [1,3] (ztX (fun _=>Z) (fun _=>Z) h1 zn1 zn1) zzs Z (kL2 Z Z Zt) (xab Z (dR ?_)))))
 refine FQ.ret1 (v:=(.bool _)) (Bs:=[_,_,_,_]) [0,1,2,3] Z Z Z ⟨Z,Z,Z,Z,Zt⟩ ?_
 exact ⟨Z,Z⟩
theorem zrg {ab1 mb1 ab2 mb2:Nat} {σ1 σ2:Array UInt64} {c1 c2:Cnt} (h1:σ1.size<=20000):FnD Tryz.prog 59 [.pointer (some ⟨ab1,0,none⟩),.pointer (some ⟨ab2,0,none⟩)] [arenaC ab1 mb1 139 29 (σ1) (c1),arenaC ab2 mb2 139 29 (σ2) (c2)] (.bool (decide (σ1.size=σ2.size) && eqN (memF σ1) (memF σ2) σ1.size)) [arenaC ab1 mb1 139 29 (σ1) (c1),arenaC ab2 mb2 139 29 (σ2) (c2)] :=
 Fn.arenaX Z fun cap1 rs1=>Fn.permI (As:=[arenaC ab2 mb2 139 29 (σ2) (c2),arO ab1 mb1 σ1.size cap1 139 c1,pt mb1 (.cells (encM σ1++rs1) 29)]) [2,0,1] Z ⟨Z,Z,Z,Zt⟩ (Fn.permO (Fn.arenaX Z fun cap2 rs2=>Fn.permI (As:=[arO ab1 mb1 σ1.size cap1 139 c1,pt mb1 (.cells (encM σ1++rs1) 29),arO ab2 mb2 σ2.size cap2 139 c2,pt mb2 (.cells (encM σ2++rs2) 29)]) [2,3,0,1] Z ⟨Z,Z,Z,Z,Zt⟩ (Fn.permO (Fn.mono (zuI h1) fun v Bs ⟨hv,hB⟩ =>
  ⟨[2,3,0,1],[arO ab2 mb2 σ2.size cap2 139 c2,pt mb2 (.cells (encM σ2++rs2) 29),arO ab1 mb1 σ1.size cap1 139 c1,pt mb1 (.cells (encM σ1++rs1) 29)],Z,by rw [hB]; exact ⟨Z,Z,Z,Z,Zt⟩,_,Z,[1,2,0],[arO ab1 mb1 σ1.size cap1 139 c1,pt mb1 (.cells (encM σ1++rs1) 29),arenaC ab2 mb2 139 29 (σ2) (c2)],Z,⟨Z,Z,Z,Zt⟩,_,Z,hv,Z⟩))))
theorem znU {V S T:Int}  : FnD Tryz.prog 86 [.agg #[.int .i64 V,.int .i64 S,.int .i64 T]] [] (.bool (decide (okL V S T))) []:=by
 refine Fn.enter (Tryz.func86) Z Z (fun w0 R=>?_)
 refine sA (xB 0 Z (fun bk0=>(xaf Z (dA (xf 0 zdv Z (xli 0 zaa Z Z (TL.geq Z Z Z Z (fun q1=>?_) (fun q1=>?_))))))))
 refine xmt Z (xf 0 zdv Z (xli 0 zaa Z Z (TL.leq Z Z Z Z (fun q2=>?_) (fun q2=>?_))))
 refine xpT Z (xmt Z (xf 1 zgf Z (xli 0 zaa Z Z (TL.geq Z Z Z Z (fun q3=>?_) (fun q3=>?_)))))
 refine xpT Z (xmt Z (xf 1 zgf Z (xli 0 zaa Z Z (TL.leq Z Z Z Z (fun q4=>?_) (fun q4=>?_)))))
 refine xpT Z (xmt Z (xf 2 zhW Z (xli 0 zaa Z Z (TL.geq Z Z Z Z (fun q5=>?_) (fun q5=>?_)))))
 refine xpT Z (xmt Z (xf 2 zhW Z (xli 0 zaa Z Z (TL.leqV Z Z Z Z (TL.pickT (.bool _) Z Z Z Z (xab Z (dR ?_)))))))
 refine FQ.ret1 (v:=(.bool _)) (Bs:=[]) [] Z Z Z Zt ?_
 first | exact ⟨congrArg Value.bool (by unfold okL; first | (simp [*]; done) | (simp [*]; omega) | (rw [eq_comm,decide_eq_false_iff_not]; omega) | (rw [eq_comm,decide_eq_true_iff]; omega) | (rw [decide_eq_decide]; omega)),Z⟩
 refine xpG Z (xmf Z (xo Z (xo Z (xo Z (xpF Z (xaf Z (dR ?_)))))))
 refine FQ.ret1 (v:=(.bool false)) (Bs:=[]) [] Z Z Z Zt ?_
 first | exact ⟨congrArg Value.bool (by unfold okL; first | (simp [*]; done) | (simp [*]; omega) | (rw [eq_comm,decide_eq_false_iff_not]; omega) | (rw [eq_comm,decide_eq_true_iff]; omega) | (rw [decide_eq_decide]; omega)),Z⟩
 refine xpG Z (xmf Z (xo Z (xo Z (xo Z (xpF Z (xmf Z (xo Z (xo Z ?_))))))))
 refine xo Z (xpF Z (xaf Z (dR ?_)))
 refine FQ.ret1 (v:=(.bool false)) (Bs:=[]) [] Z Z Z Zt ?_
 first | exact ⟨congrArg Value.bool (by unfold okL; first | (simp [*]; done) | (simp [*]; omega) | (rw [eq_comm,decide_eq_false_iff_not]; omega) | (rw [eq_comm,decide_eq_true_iff]; omega) | (rw [decide_eq_decide]; omega)),Z⟩
 refine xpG Z (xmf Z (xo Z (xo Z (xo Z (xpF Z (xmf Z (xo Z (xo Z ?_))))))))
 refine xo Z (xpF Z (xmf Z (xo Z (xo Z (xo Z (xpF Z (xaf Z (dR ?_))))))))
 refine FQ.ret1 (v:=(.bool false)) (Bs:=[]) [] Z Z Z Zt ?_
 first | exact ⟨congrArg Value.bool (by unfold okL; first | (simp [*]; done) | (simp [*]; omega) | (rw [eq_comm,decide_eq_false_iff_not]; omega) | (rw [eq_comm,decide_eq_true_iff]; omega) | (rw [decide_eq_decide]; omega)),Z⟩
 refine xpG Z (xmf Z (xo Z (xo Z (xo Z (xpF Z (xmf Z (xo Z (xo Z ?_))))))))
 refine xo Z (xpF Z (xmf Z (xo Z (xo Z (xo Z (xpF Z (xmf Z (xo Z ?_))))))))
 refine xo Z (xo Z (xpF Z (xaf Z (dR ?_))))
 refine FQ.ret1 (v:=(.bool false)) (Bs:=[]) [] Z Z Z Zt ?_
 first | exact ⟨congrArg Value.bool (by unfold okL; first | (simp [*]; done) | (simp [*]; omega) | (rw [eq_comm,decide_eq_false_iff_not]; omega) | (rw [eq_comm,decide_eq_true_iff]; omega) | (rw [decide_eq_decide]; omega)),Z⟩
 refine xmf Z (xo Z (xo Z (xo Z (xpF Z (xmf Z (xo Z (xo Z (xo Z ?_))))))))
 refine xpF Z (xmf Z (xo Z (xo Z (xo Z (xpF Z (xmf Z (xo Z (xo Z ?_))))))))
 refine xo Z (xpF Z (xmf Z (xo Z (xo Z (xo Z (xpF Z (xaf Z (dR ?_))))))))
 refine FQ.ret1 (v:=(.bool false)) (Bs:=[]) [] Z Z Z Zt ?_
 first | exact ⟨congrArg Value.bool (by unfold okL; first | (simp [*]; done) | (simp [*]; omega) | (rw [eq_comm,decide_eq_false_iff_not]; omega) | (rw [eq_comm,decide_eq_true_iff]; omega) | (rw [decide_eq_decide]; omega)),Z⟩
set_option maxHeartbeats 2000000 in
theorem zj3 {a:Option Addr} {n c:Nat} {d:Array Int} (hn:n<=137438953472) (hsz:d.size=n):Go.Eng.Fn Tryz.prog 191 [.slice a n c] [ownA Tm.encI 1 3 (.slice a n c) (d)] (fun v Bs=>∃ d2,Bs=[rowS v d2]/\d2.toList=cpt d n):=by
 refine Fn.enter (Tryz.func191) Z Z (fun w0 R=>?_)
 refine sA (TL.asg (.slice none 0 0) Z Z Z (dB (xms Z (xz zah Z (TL.lss Z Z Z Z (fun q1=>?_) (fun q1=>?_))))))
 refine dT Z (xms Z (xas Z (dRR ?_)))
 first | refine TQ.conseq 0 (B:=rowS _ d) Z (fun _ h=>zgb h) ?_ | refine TQ.conseq 0 (B:=rowS (.slice (slA (some ⟨g8,0,none⟩) 0 1 c) k1 c) (D.extract 0 k1)) Z (fun _ h=>znP (by rw [Array.size_extract]; omega) (by omega) (fun h9=>by simpa using zfL (size:=1) (fun _=>Z) hc8 (i:=0) (by omega)) h) ?_
 refine FQ.ret1 (v:=(.slice _ _ _)) (Bs:=[_]) [0] Z Z Z ⟨Z,Zt⟩ ?_
 exact ⟨d,Z,zzH hsz (by omega)⟩
 refine TL.done (TQ.then (TC.condF Z (TC.skip (TQ.then (TC.seq (TC.seq (TC.ownW 0 Z (fun a8 g8 c8 hv8 hc8 ha8=>?_))))))))
 simp only [Value.slice.injEq] at hv8
 obtain ⟨rfl,_,rfl⟩:=hv8
 obtain rfl:=ha8 (by omega)
 rw [hsz] at hc8
 have haR:0<n->(some ⟨g8,0,none⟩:Option Addr)=some ⟨g8,0,none⟩:=fun _=>Z
 refine TC.region (xai Z (dK (TC.loopK (X:=Nat) [0] [0] (fun k=>[(3,.int .i64 ((k:Nat):Int))]) (fun k=>[]) (fun k=>1<=k/\k<=n/\CpA d k) (fun k=>n - k) (1) ⟨Nat.le_refl _,by omega,.start⟩ ⟨Z,Zt⟩ Zt (fun k hI=>?_))))
 obtain ⟨hk1,hkn,hA⟩:=hI
 refine TC.sub (env':=[(3,_),(0,_)]) (L':=[(0,_)]) ⟨Z,Z,Zt⟩ ⟨Z,Zt⟩ (sB (xmi Z (xms Z (xz zah Z (TL.lss Z Z Z Z (fun q2=>?_) (fun q2=>?_))))))
 refine TL.done (TQ.then (TC.condT Z (TC.skip (TQ.then (TC.seq (TC.block (TC.seq (TC.draw (od [1,3,5,7,9,11,13,15,17,19]) [0] fc_m (by kernel_rfl) ?_))))))))
 refine xms Z (xmi Z (TL.iaO Z haR Z zah (by omega) Z Z (TL.ldRS 0 (.int _ _) Z Z (zey (by omega)) (by omega) (Z) zaa Z Z (xms Z (xmi Z (TL.sub (((k - 1:Nat):Int)) Z Z (wrN (by omega)) Z Z (TL.iaO Z haR Z zah (by omega) Z Z (TL.ldRS 0 (.int _ _) Z Z (zey (by omega)) (by omega) (Z) zaa Z Z ?_))))))))
 refine TL.eql Z Z Z Z (fun q3=>?_) (fun q3=>?_)
 refine dT Z (xms Z (xmi Z (TL.slLo Z Z zah (by omega) Z Z (xas Z (dB (xai Z (dK (TC.loopK (X:=Nat×Nat×Array Int) [0,4] [] (fun ⟨k1,k2,D⟩=>[(3,.int .i64 ((k1:Nat):Int)),(5,.int .i64 ((k2:Nat):Int))]) (fun ⟨k1,k2,D⟩=>[(0,ownA Tm.encI 1 3 (.slice (some ⟨g8,0,none⟩) n c) (D))]) (fun ⟨k1,k2,D⟩=>k2<=n - k/\CpI d k k1 k2 D) (fun ⟨k1,k2,D⟩=>n - k2) ((k,1,d)) ⟨(show 1<=n - k by omega),.start hA (by omega) (by assumption)⟩ ⟨Z,Z,Zt⟩ ⟨Z,Zt⟩ (fun y hI=>?_)))))))))
 obtain ⟨k1,k2,D⟩:=y
 obtain ⟨hk2,hI2⟩:=hI
 replace hk2:k2<=n - k:=hk2
 replace hI2:CpI d k k1 k2 D:=hI2
 have hle:=hI2.le
 have hDz:D.size=n:=hI2.sz.trans hsz
 refine TC.sub (env':=[(3,_),(5,_),(0,_),(4,_)]) (L':=[(0,_)]) ⟨Z,Z,Z,Z,Zt⟩ ⟨Z,Zt⟩ (sB (xmi Z (xms Z (xz zah Z (TL.lss Z Z Z Z (fun q4=>?_) (fun q4=>?_))))))
 refine TL.done (TQ.then (TC.condT Z (TC.skip (TQ.then (TC.seq (TC.block (TC.seq (TC.draw (od [1,3,5,7,9,11,13,15,17,19]) [0] fc_m (by kernel_rfl) ?_))))))))
 refine xms Z (xmi Z (TL.iaO Z (zfL haR hc8) Z zah (by omega) Z Z (TL.ldRS 0 (.int _ _) Z Z ((zey (by omega)).drop k (n - k) (by omega)) (by omega) (Z) zaa Z Z (xms Z (xmi Z (TL.sub (((k2 - 1:Nat):Int)) Z Z (wrN (by omega)) Z Z (TL.iaO Z (zfL haR hc8) Z zah (by omega) Z Z (TL.ldRS 0 (.int _ _) Z Z ((zey (by omega)).drop k (n - k) (by omega)) (by omega) (Z) zaa Z Z ?_))))))))
 refine TL.neq Z Z Z Z (fun q5=>?_) (fun q5=>?_)
 refine dT Z (xms Z (xmi Z (xms Z (xmi Z (TL.iaO Z (zfL haR hc8) Z zah (by omega) Z Z (TL.ldRS 0 (.int _ _) Z Z ((zey (by omega)).drop k (n - k) (by omega)) (by omega) (Z) zaa Z Z (TL.iaO Z haR Z zah (by omega) Z Z (TL.stOF 0 (o:=0) (i:=k1) (cur:=D[k1]!) (u:=D[k+k2]!) (by rw [hI2.sz]; exact hsz) Z Z Z Z (by have:=hI2.sz; omega) (Z) ⟨Z,Z⟩ Z zaa Z Z Zt ?_))))))))
 refine dG (xmi Z (TL.add (((k1+1:Nat):Int)) Z Z (wrN (by omega)) Z Z (xai Z (dI (xmi Z (TL.add (((k2+1:Nat):Int)) Z Z (wrN (by omega)) Z Z (xai Z (TL.done ?_))))))))
 refine TQ.roundK ((k1+1,k2+1,_)) ⟨⟨(show k2+1<=n - k by omega),hI2.yes (by omega) (by rw [show k+k2 - 1=k+(k2 - 1) by omega]; assumption)⟩,(show n - (k2+1)<n - k2 by omega)⟩ ⟨Z,Z,Zt⟩ ⟨Z,Zt⟩ (kE2 Z Z Zt) Zt
 refine TL.done (TQ.then (TC.condF Z (TC.skip (TQ.inBlock (TQ.then (TC.region (xmi Z (TL.add (((k2+1:Nat):Int)) Z Z (wrN (by omega)) Z Z ?_))))))))
 refine xai Z (TL.done (TQ.roundK ((k1,k2+1,D)) ⟨⟨(show k2+1<=n - k by omega),hI2.no (by rw [show k+k2 - 1=k+(k2 - 1) by omega]; exact Decidable.not_not.1 (by assumption))⟩,(show n - (k2+1)<n - k2 by omega)⟩ ⟨Z,Z,Zt⟩ ⟨Z,Zt⟩ (kE2 Z Z Zt) Zt))
 refine dE Z (TC.seq (TC.ownS 0 (sz:=n) (hI2.sz.trans hsz) Z (fun a7 g7 c7 hv7 hc7 ha7=>?_)))
 simp only [Value.slice.injEq] at hv7
 obtain ⟨rfl,_,rfl⟩:=hv7
 obtain ⟨rfl,_⟩:=Addr.mk.inj (Option.some.inj (ha7 (by omega)))
 refine TC.region (xms Z (xmi Z (TL.slLo Z Z zah (by omega) Z Z (TL.clr 0 (i:=k1) Z (fun h=>zfL (fun _=>Z) hc8 h) (by omega) (hI2.sz.trans hsz) Z zah zeV ⟨Z,Z⟩ Z Z Zt (dA (xms Z (xmi Z (TL.slHi Z Z zah (by omega) Z Z ?_))))))))
 refine xas Z (dR (TQ.blockRet (TQ.thenRet (TQ.thenRet (TQ.blockRet (TQ.thenRet ?_))))))
 first | refine TQ.conseq 0 (B:=rowS _ d) Z (fun _ h=>zgb h) ?_ | refine TQ.conseq 0 (B:=rowS (.slice (slA (some ⟨g8,0,none⟩) 0 1 c) k1 c) (D.extract 0 k1)) Z (fun _ h=>znP (by rw [Array.size_extract]; omega) (by omega) (fun h9=>by simpa using zfL (size:=1) (fun _=>Z) hc8 (i:=0) (by omega)) h) ?_
 refine FQ.ret1 (v:=(.slice _ _ _)) (Bs:=[_]) [0] Z Z Z ⟨Z,Zt⟩ ?_
 have h9:=(hI2.fin (by omega)).2
 rw [hsz] at h9
 exact ⟨_,Z,h9⟩
 refine TL.done (TQ.then (TC.condF Z (TC.skip (TQ.inBlock (TQ.then (TC.region (xmi Z (TL.add (((k+1:Nat):Int)) Z Z (wrN (by omega)) Z Z ?_))))))))
 refine xai Z (TL.done (TQ.roundK (k+1) ⟨⟨by omega,by omega,hA.step (by assumption)⟩,by omega⟩ ⟨Z,Zt⟩ Zt (kE1 Z Zt) (kL1 Z Zt)))
 refine dE Z (sA (xms Z (xas Z (dR ?_))))
 first | refine TQ.conseq 0 (B:=rowS _ d) Z (fun _ h=>zgb h) ?_ | refine TQ.conseq 0 (B:=rowS (.slice (slA (some ⟨g8,0,none⟩) 0 1 c) k1 c) (D.extract 0 k1)) Z (fun _ h=>znP (by rw [Array.size_extract]; omega) (by omega) (fun h9=>by simpa using zfL (size:=1) (fun _=>Z) hc8 (i:=0) (by omega)) h) ?_
 refine FQ.ret1 (v:=(.slice _ _ _)) (Bs:=[_]) [0] Z Z Z ⟨Z,Zt⟩ ?_
 obtain rfl:k=n:=by omega
 exact ⟨d,Z,by rw [<-hsz]; exact (show CpA d d.size by rw [hsz]; exact hA).all⟩
theorem zuF {ab mb:Nat} {σ:Array UInt64} {i:Int} (h:0<=i/\i<σ.size):FnD Tryz.prog 23 [.pointer (some ⟨ab,0,none⟩),.int .i64 i] [zap ab mb 139 29 (σ)] (.tuple #[.int .u64 (MemLike.get σ i),.int .i64 0]) [zap ab mb 139 29 (σ)]:=by have:=ziU (ab:=ab) (mb:=mb) (σ:=σ) (i:=i); rwa [Zp h] at this
theorem zuE {ab mb:Nat} {σ:Array UInt64} {i:Int} (h:¬(0<=i/\i<σ.size)):FnD Tryz.prog 23 [.pointer (some ⟨ab,0,none⟩),.int .i64 i] [zap ab mb 139 29 (σ)] (.tuple #[.int .u64 (MemLike.get σ i),.int .i64 20]) [zap ab mb 139 29 (σ)]:=by have:=ziU (ab:=ab) (mb:=mb) (σ:=σ) (i:=i); rwa [Zn h] at this
theorem zrd {ab mb:Nat} {σ:Array UInt64} {i v:Int} (hv:0<=v/\v<18446744073709551616) (h:0<=i/\i<σ.size):FnD Tryz.prog 17 [.pointer (some ⟨ab,0,none⟩),.int .i64 i,.int .u64 v] [zap ab mb 139 29 (σ)] (.int .i64 0) [zap ab mb 139 29 (MemLike.st σ i v)]:=by have:=ze6 (ab:=ab) (mb:=mb) (σ:=σ) (i:=i) hv; rwa [Zp h] at this
theorem zrc {ab mb:Nat} {σ:Array UInt64} {i v:Int} (hv:0<=v/\v<18446744073709551616) (h:¬(0<=i/\i<σ.size)):FnD Tryz.prog 17 [.pointer (some ⟨ab,0,none⟩),.int .i64 i,.int .u64 v] [zap ab mb 139 29 (σ)] (.int .i64 20) [zap ab mb 139 29 (MemLike.st σ i v)]:=by have:=ze6 (ab:=ab) (mb:=mb) (σ:=σ) (i:=i) hv; rwa [Zn h] at this
theorem zxw {tb ab mb g c:Nat} {a:Option Addr} {σ:Tr} {i:Int} (ha:0<σ.row.size->a=some ⟨g,0,none⟩) (hac:σ.row.size<=c) (h:0<=i/\i<σ.mem.size) (hz:Room 1 σ):Go.Eng.Fn Tryz.prog 196 [.pointer (some ⟨tb,0,none⟩),.int .i64 i] [pt tb (.cells #[.pointer (some ⟨ab,0,none⟩),.slice a σ.row.size c] 264),zap ab mb 139 29 (σ.mem),ownA zax 3 34 (.slice a σ.row.size c) (σ.row)] (fun x Bs=>∃ v2,x=.int .u64 (MemLike.get σ i)/\Bs=[pt tb (.cells #[.pointer (some ⟨ab,0,none⟩),v2] 264),zap ab mb 139 29 ((MemLike.ld σ i).mem),ownA zax 3 34 (v2) ((MemLike.ld σ i).row)]):=by
 have hs2:MemLike.ld σ i=⟨σ.mem,σ.row++#[⟨false,i,MemLike.get σ.mem i⟩]⟩:=by rw [zkc,Zp h]
 refine Fn.enter (Tryz.func196) Z Z (fun w0 R=>?_)
 refine sA (xai Z (dA (xmp Z (xN0 Z (xf 0 zfq Z (xlp 0 zdl Z Z (xmi Z (xD [1] (zuF h) zpW Z ?_))))))))
 refine xmu Z (xei Z Z (xei Z Z (xai Z (xai Z (dB (xmi Z (TL.cmpT Z Z Z (by decide) Z Z (TL.done ?_))))))))
 refine TQ.then (TC.condT Z (TC.region (xmp Z (xmp Z (xN0 Z (xf 1 zdy Z (xls 0 zco Z Z (xmi Z ?_))))))))
 refine xmi Z (TL.bld [.bool false,.int .i64 0,.int .u64 0] [(.int _ _),(.int _ _)] [_,_,_] zek zwU ⟨Z,Z,Zt⟩ ⟨Z,Z⟩ Z Z (TL.bsN 3 [_] (zax ⟨false,i,MemLike.get σ.mem i⟩) zal zek ⟨Z,Zt⟩ Z (lit1 Z) Z Z (fun bk3=>⟨Zt,?_⟩)))
 refine TL.appS 2 3 (d2:=#[(⟨false,i,MemLike.get σ.mem i⟩:Acc)]) Z (Z) Z (fun _=>Z) Z Z (row1 Z) zcK (by decide) zcc (by have:=zcV.1 hz; simp; omega) Z Z (fun v4=>⟨Zt,?_⟩)
 refine TL.ownW 2 Z (fun a9 g9 c9 hv9 _ _=>?_)
 cases hv9
 refine xN0 Z (xf 1 zdy Z (TL.st 0 #[_,_] _ Z Z Z Z Z Z zco Z Z Zt (dA (xmi Z (xai Z (dR ?_))))))
 refine FQ.ret1 (v:=(.int _ _)) (Bs:=[_,_,_]) [0,1,2] Z Z Z ⟨Z,Z,Z,Zt⟩ ?_
 rw [hs2]; exact ⟨_,Z,Z⟩
theorem zxv {tb ab mb g c:Nat} {a:Option Addr} {σ:Tr} {i:Int} (ha:0<σ.row.size->a=some ⟨g,0,none⟩) (hac:σ.row.size<=c) (h:¬(0<=i/\i<σ.mem.size)) (hz:Room 1 σ):Go.Eng.Fn Tryz.prog 196 [.pointer (some ⟨tb,0,none⟩),.int .i64 i] [pt tb (.cells #[.pointer (some ⟨ab,0,none⟩),.slice a σ.row.size c] 264),zap ab mb 139 29 (σ.mem),ownA zax 3 34 (.slice a σ.row.size c) (σ.row)] (fun x Bs=>∃ v2,x=.int .u64 (MemLike.get σ i)/\Bs=[pt tb (.cells #[.pointer (some ⟨ab,0,none⟩),v2] 264),zap ab mb 139 29 ((MemLike.ld σ i).mem),ownA zax 3 34 (v2) ((MemLike.ld σ i).row)]):=by
 have hs2:MemLike.ld σ i=σ:=by rw [zkc,Zn h]
 refine Fn.enter (Tryz.func196) Z Z (fun w0 R=>?_)
 refine sA (xai Z (dA (xmp Z (xN0 Z (xf 0 zfq Z (xlp 0 zdl Z Z (xmi Z (xD [1] (zuE h) zpW Z ?_))))))))
 refine xmu Z (xei Z Z (xei Z Z (xai Z (xai Z (dB (xmi Z (TL.cmpF Z Z Z (by decide) Z Z (dF Z ?_))))))))
 refine xmi Z (xai Z (dR ?_))
 refine FQ.ret1 (v:=(.int _ _)) (Bs:=[_,_,_]) [0,1,2] Z Z Z ⟨Z,Z,Z,Zt⟩ ?_
 rw [hs2]; exact ⟨_,Z,Z⟩
theorem zuY {tb ab mb g c:Nat} {a:Option Addr} {σ:Tr} {i:Int} (ha:0<σ.row.size->a=some ⟨g,0,none⟩) (hac:σ.row.size<=c) {y:Int} (hv:0<=y/\y<18446744073709551616) (h:0<=i/\i<σ.mem.size) (hz:Room 1 σ):Go.Eng.Fn Tryz.prog 200 [.pointer (some ⟨tb,0,none⟩),.int .i64 i,.int .u64 y] [pt tb (.cells #[.pointer (some ⟨ab,0,none⟩),.slice a σ.row.size c] 264),zap ab mb 139 29 (σ.mem),ownA zax 3 34 (.slice a σ.row.size c) (σ.row)] (fun x Bs=>∃ v2,x=.tuple #[]/\Bs=[pt tb (.cells #[.pointer (some ⟨ab,0,none⟩),v2] 264),zap ab mb 139 29 ((MemLike.st σ i y).mem),ownA zax 3 34 (v2) ((MemLike.st σ i y).row)]):=by
 have hs2:MemLike.st σ i y=⟨MemLike.st σ.mem i y,σ.row++#[⟨true,i,y⟩]⟩:=by rw [zkb,Zp h]
 refine Fn.enter (Tryz.func200) Z Z (fun w0 R=>?_)
 refine sA (xmp Z (xN0 Z (xf 0 zfq Z (xlp 0 zdl Z Z (xmi Z (xmi Z (xD [1] (zrd hv h) zkN Z (TL.cmpT Z Z Z (by decide) Z Z ?_))))))))
 refine TL.done (TQ.then (TC.condT Z (TC.region (xmp Z (xmp Z (xN0 Z (xf 1 zdy Z (xls 0 zco Z Z ?_))))))))
 refine xmi Z (xmi Z (TL.bld [.bool false,.int .i64 0,.int .u64 0] [(.bool true),(.int _ _),(.int _ _)] [_,_,_] zek zwU ⟨Z,Z,Z,Zt⟩ ⟨Z,Z⟩ Z Z (TL.bsN 3 [_] (zax ⟨true,i,y⟩) zal zek ⟨Z,Zt⟩ Z (lit1 Z) Z Z (fun bk3=>⟨Zt,?_⟩))))
 refine TL.appS 2 3 (d2:=#[(⟨true,i,y⟩:Acc)]) Z (Z) Z (fun _=>Z) Z Z (row1 Z) zcK (by decide) zcc (by have:=zcV.1 hz; simp; omega) Z Z (fun v4=>⟨Zt,?_⟩)
 refine TL.ownW 2 Z (fun a9 g9 c9 hv9 _ _=>?_)
 cases hv9
 refine xN0 Z (xf 1 zdy Z (TL.st 0 #[_,_] _ Z Z Z Z Z Z zco Z Z Zt (TL.done ?_)))
 refine FQ.end0 (Bs:=[_,_,_]) [0,1,2] Z Z ⟨Z,Z,Z,Zt⟩ ?_
 rw [hs2]; exact ⟨_,Z,Z⟩
theorem zuX {tb ab mb g c:Nat} {a:Option Addr} {σ:Tr} {i:Int} (ha:0<σ.row.size->a=some ⟨g,0,none⟩) (hac:σ.row.size<=c) {y:Int} (hv:0<=y/\y<18446744073709551616) (h:¬(0<=i/\i<σ.mem.size)) (hz:Room 1 σ):Go.Eng.Fn Tryz.prog 200 [.pointer (some ⟨tb,0,none⟩),.int .i64 i,.int .u64 y] [pt tb (.cells #[.pointer (some ⟨ab,0,none⟩),.slice a σ.row.size c] 264),zap ab mb 139 29 (σ.mem),ownA zax 3 34 (.slice a σ.row.size c) (σ.row)] (fun x Bs=>∃ v2,x=.tuple #[]/\Bs=[pt tb (.cells #[.pointer (some ⟨ab,0,none⟩),v2] 264),zap ab mb 139 29 ((MemLike.st σ i y).mem),ownA zax 3 34 (v2) ((MemLike.st σ i y).row)]):=by
 have hs2:MemLike.st σ i y=σ:=by rw [zkb,Zn h]
 refine Fn.enter (Tryz.func200) Z Z (fun w0 R=>?_)
 refine sA (xmp Z (xN0 Z (xf 0 zfq Z (xlp 0 zdl Z Z (xmi Z (xmi Z (xD [1] (zrc hv h) zkN Z (TL.cmpF Z Z Z (by decide) Z Z ?_))))))))
 refine TL.done (TQ.then (TC.condF Z (TC.skip ?_)))
 refine FQ.end0 (Bs:=[_,_,_]) [0,1,2] Z Z ⟨Z,Z,Z,Zt⟩ ?_
 rw [hs2,zj7,Zn h]; exact ⟨_,Z,Z⟩
theorem zo1 {tb ab mb:Nat} {σ:Tr} {i:Int} (hz:Room 1 σ):FnD Tryz.prog 196 [.pointer (some ⟨tb,0,none⟩),.int .i64 i] [zbk tb ab mb 264 139 29 34 (σ)] (.int .u64 (MemLike.get σ i)) [zbk tb ab mb 264 139 29 34 (MemLike.ld σ i)] :=
 Fn.traceX fun a g c ha hac=>by
  by_cases h:0<=i/\i<σ.mem.size
  ·exact Go.Eng.Fn.mono (zxw ha hac h hz) fun v Bs ⟨v2,h1,h2⟩=>⟨v2,_,[],h2,h1,Z⟩
  ·exact Go.Eng.Fn.mono (zxv ha hac h hz) fun v Bs ⟨v2,h1,h2⟩=>⟨v2,_,[],h2,h1,Z⟩
theorem zmo {tb ab mb:Nat} {σ:Tr} {i y:Int} (hv:0<=y/\y<18446744073709551616) (hz:Room 1 σ):FnD Tryz.prog 200 [.pointer (some ⟨tb,0,none⟩),.int .i64 i,.int .u64 y] [zbk tb ab mb 264 139 29 34 (σ)] (.tuple #[]) [zbk tb ab mb 264 139 29 34 (MemLike.st σ i y)] :=
 Fn.traceX fun a g c ha hac=>by
  by_cases h:0<=i/\i<σ.mem.size
  ·exact Go.Eng.Fn.mono (zuY ha hac hv h hz) fun v Bs ⟨v2,h1,h2⟩=>⟨v2,_,[],h2,h1,Z⟩
  ·exact Go.Eng.Fn.mono (zuX ha hac hv h hz) fun v Bs ⟨v2,h1,h2⟩=>⟨v2,_,[],h2,h1,Z⟩
theorem zd8 {tb ab mb:Nat}:MemI (S:=Tr) Tryz.prog 186 (.pointer (some ⟨tb,0,none⟩)) (zbk tb ab mb 264 139 29 34) :=
 ⟨⟨196,_,ziG (by kernel_rfl) (by kernel_rfl),fun _ _ hz=>zo1 hz⟩,⟨200,_,ziG (by kernel_rfl) (by kernel_rfl),fun _ _ _ hv hz=>zmo hv hz⟩⟩
theorem zno {a:Option Addr} {b off n c:Nat} {A:Assn} {f:Nat->Acc} (ha:0<n->a=some ⟨b,off,none⟩) (hn:n<=137438953471) (hA:za8 A zax 3 b off n f):Go.Eng.Fn Tryz.prog 83 [.slice a n c] [A] (fun v Bs=>Bs=[A,ownA zax 3 34 v ((List.range n).map f).toArray]):=by
 refine Fn.enter (Tryz.func83) Z Z (fun w0 R=>?_)
 refine sA (TL.asg (.slice none 0 0) rfl rfl rfl (dB (xms rfl (TL.nilS rfl rfl zal rfl rfl (TL.cases rfl (fun q1=>?_) (fun q1=>?_))))))
 refine TL.done (TQ.then (TC.condT Z (TC.seq ?_)))
 obtain rfl:n=0:=by
   rcases Nat.eq_zero_or_pos n with h | h
   ·exact h
   ·rw [ha h] at q1; simp at q1
 refine TC.nilA 1 (A:=ownA zax 3 34 (.slice none 0 0) ((List.range 0).map f).toArray) (.inl ⟨Z,Z⟩) (TC.region (TL.asg (.slice none 0 0) Z Z Z (dRR ?_)))
 refine FQ.ret1 (v:=(.slice none 0 0)) (Bs:=[A,_]) [0,1] Z Z Z ⟨Z,Z,Zt⟩ ?_
 rfl
 refine dF Z (TL.bs0 2 zax zal Z Z (fun bk2=>⟨Zt,?_⟩))
 refine xms Z ?_
 obtain ⟨ad,rfl⟩:∃ ad,a=some ad:=Option.ne_none_iff_exists'.1 (by rintro rfl; simp at q1)
 refine TL.appS 2 0 (d2:=((List.range n).map f).toArray) Z (zex f n) Z (ha) Z Z (hA.congr fun i hi=>(zlc f hi).symm) zcK (by decide) zcc (by rw [zex]; show 0+n<=137438953472; omega) Z Z (fun v3=>⟨Zt,?_⟩)
 refine TL.conseq 2 (B:=ownA zax 3 34 v3 ((List.range n).map f).toArray) Z (fun h hh=>by simpa using hh) Zt (xav Z (dR ?_))
 refine FQ.ret1 (v:=_) (Bs:=[A,_]) [0,2] Z Z Z ⟨Z,Z,Zt⟩ ?_
 rfl
theorem zzV {tb ab mb g c:Nat} {a:Option Addr} {σ:Tr} (ha:0<σ.row.size->a=some ⟨g,0,none⟩) (hac:σ.row.size<=c) (hz:Room 0 σ):Go.Eng.Fn Tryz.prog 152 [.pointer (some ⟨tb,0,none⟩)] [pt tb (.cells #[.pointer (some ⟨ab,0,none⟩),.slice a σ.row.size c] 264),zap ab mb 139 29 (σ.mem),ownA zax 3 34 (.slice a σ.row.size c) (σ.row)] (fun x Bs=>Bs=[pt tb (.cells #[.pointer (some ⟨ab,0,none⟩),.slice a σ.row.size c] 264),zap ab mb 139 29 (σ.mem),ownA zax 3 34 (.slice a σ.row.size c) (σ.row),ownA zax 3 34 (x) (σ.row)]):=by
 refine Fn.enter (Tryz.func152) Z Z (fun w0 R=>?_)
 refine sA (TL.asg (.slice none 0 0) Z Z Z (dA (xmp Z (xN0 Z (xf 1 zdy Z (xls 0 zco Z Z (TL.call [2] [2,3] (zno (f:=fun i=>σ.row[i]!) ha (by have:=zcV.1 hz; omega) (zas ha)) ⟨Z,Zt⟩ ⟨Z,Zt⟩ zwY Z Z Z Z ?_)))))))
 rintro v Bs rfl
 refine ⟨Z,Zt,?_⟩
 refine xav Z (dR ?_)
 refine FQ.ret1 (v:=_) (Bs:=[_,_,_,_]) [0,1,2,3] Z Z Z ⟨Z,Z,Z,Z,Zt⟩ ?_
 rw [ziA]
theorem znC {tb ab mb:Nat} {σ:Tr} (hz:Room 0 σ):Go.Eng.Fn Tryz.prog 152 [.pointer (some ⟨tb,0,none⟩)] [zbk tb ab mb 264 139 29 34 (σ)] (fun x Bs=>Bs=[zbk tb ab mb 264 139 29 34 (σ),ownA zax 3 34 (x) (σ.row)]) :=
 Fn.traceX fun a g c ha hac=>Go.Eng.Fn.mono (zzV ha hac hz) fun v Bs h=>⟨_,σ,[ownA zax 3 34 (v) (σ.row)],h,Z⟩
theorem zxZ {ab mb:Nat} {σ:Array UInt64} {c:Cnt} (h0:0<σ.size) (h1:σ.size<=20000):Go.Eng.Fn Tryz.prog 149 [.pointer (some ⟨ab,0,none⟩)] [arenaC ab mb 139 29 (σ) (c)] (fun x Bs=>∃ tb ab2 mb2,x=.pointer (some ⟨tb,0,none⟩)/\Bs=[arenaC ab mb 139 29 (σ) (c),zbk tb ab2 mb2 264 139 29 34 (⟨σ,#[]⟩)]):=by
 refine Fn.enter (Tryz.func149) Z Z (fun w0 R=>?_)
 refine sA (TL.asg (.pointer none) Z Z Z (dS (TC.nilA 1 (A:=ownA zax 3 34 (.slice none 0 0) (#[])) (.inl ⟨Z,Z⟩) (TC.region (xmp Z (TL.call [0] [0,2] (zhA h0 h1) ⟨Z,Zt⟩ ⟨Z,Zt⟩ zpV Z Z Z Z ?_))))))
 rintro v Bs ⟨ab2,mb2,rfl,rfl⟩
 refine ⟨Z,Zt,?_⟩
 refine TL.bld [.pointer none,.slice none 0 0] [(.pointer (some ⟨_,_,none⟩))] [_,_] zyv zyC ⟨Z,Zt⟩ ⟨Z,Z⟩ Z Z (xB 3 Z (fun bk3=>(xap Z (dR (TQ.close 2 1 (star (zap _ _ 139 29 (σ)) (ownA zax 3 34 (.slice none 0 0) (#[]))) (by decide) Z Z (fun _ _ _ s1 s2 hd h1 h2=>⟨_,_,s1,s2,hd,⟨_,h1⟩,h2⟩) (TQ.close 3 2 (zbk _ _ _ 264 139 29 34 (⟨σ,#[]⟩)) (by decide) Z Z (fun _ _ _ s1 s2 hd h1 h2=>⟨_,_,_,s1,s2,hd,h1,h2⟩) ?_))))))
 refine FQ.ret1 (v:=(.pointer (some ⟨_,_,none⟩))) (Bs:=[_,_]) [0,3] Z Z Z ⟨Z,Z,Zt⟩ ?_
 exact ⟨_,_,_,Z,Z⟩
theorem zsU {a:Option Addr} {b off n c:Nat} {A:Assn} {d:Array Int} {v:Int} (ha:0<n->a=some ⟨b,off,none⟩) (hn:n<=137438953472) (hsz:d.size=n) (hA:za8 A Tm.encI 1 b off n (fun i=>d[i]!))  : Go.Eng.Fn Tryz.prog 230 [.slice a n c,.int .i64 v] [A] (fun x Bs=>∃ k:Int,x=.int .i64 k/\Bs=[A]/\decide (0<=k)=decide (v∈d.toList)):=by
 refine Fn.enter (Tryz.func230) Z Z (fun w0 R=>?_)
 refine sA (xai Z (dB (xms Z (xz zah Z (xmi Z (dK (TC.loopK (X:=Nat) [0,1,7] [0] (fun i=>[(8,.int .i64 ((i:Nat):Int))]) (fun i=>[]) (fun i=>i<=n/\∀ j,j<i->d[j]!≠v) (fun i=>n - i) (0) ⟨Nat.zero_le _,fun j hj=>absurd hj (Nat.not_lt_zero _)⟩ ⟨Z,Zt⟩ Zt (fun i hI=>?_))))))))
 obtain ⟨hi,hj⟩:=hI
 refine TC.sub (env':=[(8,_),(0,_),(1,_),(7,_)]) (L':=[(0,_)]) ⟨Z,Z,Z,Z,Zt⟩ ⟨Z,Zt⟩ (sA (TL.lss Z Z Z Z (fun q1=>?_) (fun q1=>?_)))
 refine dS (TC.condT Z (TC.skip (TQ.then (TC.seq (TC.block (sA (xmi Z (xai Z ?_))))))))
 refine dA (xmi Z (xms Z (xmi Z (TL.iaO Z ha Z zah (by omega) Z Z (TL.ldRS 0 (.int _ _) Z Z hA (by omega) (Z) zaa Z Z (TL.eql Z Z Z Z (fun q2=>?_) (fun q2=>?_)))))))
 refine dT Z (xmi Z (xai Z (dR (TQ.blockRet (TQ.thenRet (TQ.thenRet (TQ.blockRet (TQ.thenRet ?_))))))))
 refine FQ.ret1 (v:=(.int _ _)) (Bs:=[A]) [0] Z Z Z ⟨Z,Zt⟩ ?_
 exact ⟨_,Z,Z,by rw [decide_eq_true (by omega),decide_eq_true (zmc (i:=i) (by omega) (by first | exact q2.symm | exact q1.symm | simp_all))]⟩
 refine TL.done (TQ.then (TC.condF Z (TC.skip (TQ.inBlock (TQ.then (TC.region (TL.add (((i+1:Nat):Int)) Z Z (wrN (by omega)) Z Z (xmi Z ?_))))))))
 refine TL.done (TQ.roundK (i+1) ⟨⟨by omega,zx9 hj (by first | exact fun h=>q2 h.symm | exact fun h=>q1 h.symm)⟩,by omega⟩ ⟨Z,Zt⟩ Zt (kE3 Z Z Z Zt) (kL1 Z Zt))
 refine dS (TC.condF Z (TC.exit (TQ.thenExit (TQ.thenExit (TQ.blockHere (TQ.then (sA (xai Z ?_))))))))
 refine dR ?_
 refine FQ.ret1 (v:=(.int _ _)) (Bs:=[A]) [0] Z Z Z ⟨Z,Zt⟩ ?_
 exact ⟨_,Z,Z,by rw [decide_eq_false (by omega),decide_eq_false (zqc hsz fun j h=>hj j (by omega))]⟩
theorem znn {a:Option Addr} {b off n c:Nat} {A:Assn} {d:Array Int} {v:Int} (ha:0<n->a=some ⟨b,off,none⟩) (hn:n<=137438953472) (hsz:d.size=n) (hA:za8 A Tm.encI 1 b off n (fun i=>d[i]!))  : FnD Tryz.prog 199 [.slice a n c,.int .i64 v] [A] (.bool (decide (v∈d.toList))) [A]:=by
 refine Fn.enter (Tryz.func199) Z Z (fun w0 R=>?_)
 refine sA (xaf Z (dA (xms Z (xmi Z (TL.call [0] [0] (zsU ha hn hsz hA) ⟨Z,Z,Zt⟩ ⟨Z,Zt⟩ zyX Z Z Z Z ?_)))))
 rintro x Bs ⟨k,rfl,rfl,hk⟩
 refine ⟨Z,Zt,?_⟩
 refine TL.geqV Z Z Z Z (xab Z (dR ?_))
 refine FQ.ret1 (v:=(.bool _)) (Bs:=[A]) [0] Z Z Z ⟨Z,Zt⟩ ?_
 exact ⟨by rw [<-hk],Z⟩
theorem zvE {x:Int}:FnD Tryz.prog 226 [.int .i64 x] [] (.bool false) []:=by
 refine Fn.enter (Tryz.func226) Z Z (fun w0 R=>?_)
 refine sA (xaf Z (dA (xmi Z (xmi Z (TL.neqV Z Z Z Z (xab Z (dR ?_)))))))
 refine FQ.ret1 (v:=(.bool _)) (Bs:=[]) [] Z Z Z Zt ?_
 first | exact ⟨congrArg Value.bool (decide_eq_false (by omega)),Z⟩ | exact ⟨Z,Z⟩ | exact ⟨by simp,Z⟩
theorem zsS {x:Int}:FnD Tryz.prog 252 [.int .i64 x] [] (.bool false) []:=by
 refine Fn.enter (Tryz.func252) Z Z (fun w0 R=>?_)
 refine sA (xaf Z (dA (xmi Z (xmi Z (TL.neqV Z Z Z Z (xab Z (dR ?_)))))))
 refine FQ.ret1 (v:=(.bool _)) (Bs:=[]) [] Z Z Z Zt ?_
 first | exact ⟨congrArg Value.bool (decide_eq_false (by omega)),Z⟩ | exact ⟨Z,Z⟩ | exact ⟨by simp,Z⟩
theorem zv3 {x y:Int}:FnD Tryz.prog 225 [.int .i64 x,.int .i64 y] [] (.bool (decide (x<y))) []:=by
 refine Fn.enter (Tryz.func225) Z Z (fun w0 R=>?_)
 refine sA (xaf Z (dA (xmi Z (xD [] zsS zyT Z (xmf Z (xo Z (xo Z (xo Z ?_))))))))
 refine xpF Z (xmf Z (xmi Z (xmi Z (TL.lssV Z Z Z Z (TL.pickF (.bool _) Z Z Z Z (xab Z (dR ?_)))))))
 refine FQ.ret1 (v:=(.bool _)) (Bs:=[]) [] Z Z Z Zt ?_
 first | exact ⟨Z,Z⟩ | exact ⟨by simp [*],Z⟩
theorem zkS {a:Option Addr} {b off n c:Nat} {A:Assn} {d:Array Int} {v:Int} (ha:0<n->a=some ⟨b,off,none⟩) (hn:n<=137438953472) (hsz:d.size=n) (hA:za8 A Tm.encI 1 b off n (fun i=>d[i]!)) (hs:∀ k j,k<=j->j<n->d[k]!<=d[j]!)  : Go.Eng.Fn Tryz.prog 194 [.slice a n c,.int .i64 v] [A] (fun x Bs=>∃ k:Int,x=.tuple #[.int .i64 k,.bool (decide (v∈d.toList))]/\Bs=[A]):=by
 refine Fn.enter (Tryz.func194) Z Z (fun w0 R=>?_)
 refine sA (xai Z (xaf Z (dA (xms Z (xz zah Z (xai Z (dA (xmi Z ?_))))))))
 refine xai Z (xai Z (dS (TC.block (TC.loopK (X:=Nat×Nat) [0,1,4,5,6] [0] (fun ⟨i,j⟩=>[(7,.int .i64 ((i:Nat):Int)),(8,.int .i64 ((j:Nat):Int))]) (fun ⟨i,j⟩=>[]) (fun ⟨i,j⟩=>i<=j/\j<=n/\(∀ k,k<i->d[k]!<v)/\(∀ k,j<=k->k<n->v<=d[k]!)) (fun ⟨i,j⟩=>j - i) ((0,n)) ⟨Nat.zero_le _,Nat.le_refl _,fun k hk=>absurd hk (Nat.not_lt_zero _),fun k h1 h2=>absurd h2 (by omega)⟩ ⟨Z,Z,Zt⟩ Zt (fun y hI=>?_)))))
 obtain ⟨i,j⟩:=y
 obtain ⟨hij,hjn,hlo,hhi⟩:=hI
 refine TC.sub (env':=[(7,_),(8,_),(0,_),(1,_),(4,_),(5,_),(6,_)]) (L':=[(0,_)]) ⟨Z,Z,Z,Z,Z,Z,Z,Zt⟩ ⟨Z,Zt⟩ (sB (xmi Z (xmi Z (TL.lss Z Z Z Z (fun q1=>?_) (fun q1=>?_)))))
 refine TL.done (TQ.then (TC.condT Z (TC.skip (TQ.then (TC.block (sA (xmi Z (xmi Z ?_))))))))
 refine TL.add (((i+j:Nat):Int)) Z Z (wrN (by omega)) Z Z (TL.conv _ Z zgp zjE (zuP (by omega)) Z Z (TL.shr (((((i+j) / 2):Nat):Int)) Z Z (by omega) (by exact shr1 _) Z Z (TL.conv _ Z zyB zaQ (wr64 (by omega)) Z Z (xai Z (dA (xms Z (xmi Z (TL.iaO Z ha Z zah (by omega) Z Z ?_))))))))
 refine TL.ldRS 0 (.int _ _) rfl rfl hA (by omega) (rfl) zaa rfl rfl (xmi rfl (xD [] zv3 zyZ rfl (TL.cases rfl (fun q2=>?_) (fun q2=>?_))))
 refine TL.done (TQ.then (TC.condT Z (TC.region (xmi Z (TL.add (((((i+j) / 2)+1:Nat):Int)) Z Z (wrN (by omega)) Z Z (xai Z (TL.done (TQ.inBlock ?_))))))))
 refine TQ.roundK ((((i+j) / 2)+1,j)) ⟨⟨(show ((i+j) / 2)+1<=j by omega),hjn,bs_lo hs (show ((i+j) / 2)<n by omega) (by first | exact of_decide_eq_true q2 | exact q2),hhi⟩,(show j - (((i+j) / 2)+1)<j - i by omega)⟩ ⟨Z,Z,Zt⟩ Zt (kE5 Z Z Z Z Z Zt) (kL1 Z Zt)
 refine TL.done (TQ.then (TC.condF Z (TC.region (xmi Z (xai Z (TL.done (TQ.inBlock (TQ.roundK ((i,((i+j) / 2))) ⟨⟨(show i<=((i+j) / 2) by omega),(show ((i+j) / 2)<=n by omega),hlo,bs_hi hs (by first | exact of_decide_eq_false q2 | exact q2)⟩,(show ((i+j) / 2) - i<j - i by omega)⟩ ⟨Z,Z,Zt⟩ Zt (kE5 Z Z Z Z Z Zt) (kL1 Z Zt)))))))))
 refine dE Z (sA (xmi Z (xmi Z (xmi Z (TL.lss Z Z Z Z (fun q2=>?_) (fun q2=>?_))))))
 refine xmt Z (xms Z (xmi Z (TL.iaO Z ha Z zah (by omega) Z Z (TL.ldRS 0 (.int _ _) Z Z hA (by omega) (Z) zaa Z Z (xmi Z (TL.eql Z Z Z Z (fun q3=>?_) (fun q3=>?_)))))))
 refine xmt Z (xo Z (xo Z (xo Z (xo Z (xo Z (xo Z (xo Z (xo Z ?_))))))))
 refine xo Z (xpT Z (xpT Z (xai Z (xat Z (dR ?_)))))
 refine FQ.ret2 (v:=(.int _ _)) (x:=(.bool true)) (Bs:=[A]) [0] Z Z Z Z ⟨Z,Zt⟩ ?_
 obtain rfl:i=j:=by omega
 exact ⟨_,by rw [decide_eq_true (zA2 hsz (i:=i) (by omega) (by omega))],Z⟩
 refine xmf Z (xms Z (xmi Z (TL.iaO Z ha Z zah (by omega) Z Z (TL.ldRS 0 (.int _ _) Z Z hA (by omega) (Z) zaa Z Z (xD [] zvE zyY Z (xmf Z (xo Z (xo Z ?_))))))))
 refine xpF Z (xpF Z (xpG Z (xai Z (xaf Z (dR ?_)))))
 refine FQ.ret2 (v:=(.int _ _)) (x:=(.bool false)) (Bs:=[A]) [0] Z Z Z Z ⟨Z,Zt⟩ ?_
 obtain rfl:i=j:=by omega
 exact ⟨_,by rw [decide_eq_false (zA3 hsz hlo hhi hs (fun _=>by omega))],Z⟩
 refine xmf Z (xo Z (xo Z (xo Z (xo Z (xo Z (xo Z (xo Z (xo Z ?_))))))))
 refine xo Z (xo Z (xo Z (xo Z (xo Z (xo Z (xo Z (xo Z (xo Z ?_))))))))
 refine xpF Z (xai Z (xaf Z (dR ?_)))
 refine FQ.ret2 (v:=(.int _ _)) (x:=(.bool false)) (Bs:=[A]) [0] Z Z Z Z ⟨Z,Zt⟩ ?_
 obtain rfl:i=j:=by omega
 exact ⟨_,by rw [decide_eq_false (zA3 hsz hlo hhi hs (fun _=>by omega))],Z⟩
def zm4:Go.Shelf.Ren:=⟨fun | 189=>224 | 125=>121 | 257=>251 | 128=>164 | 129=>165 | 294=>266 | 295=>267 | 296=>268 | 297=>269 | 298=>270 | 299=>271 | 216=>225 | 300=>272 | 301=>273 | 328=>279 | 329=>280 | 330=>281 | 331=>282 | 332=>283 | 215=>252 | 343=>284 | n=>n,fun | 28=>48 | 3=>3 | 46=>203 | 0=>0 | 51=>241 | 53=>29 | 4=>4 | 183=>299 | 182=>298 | 131=>146 | 5=>5 | 9=>9 | 218=>304 | 222=>142 | 228=>309 | 229=>247 | n=>n,fun | n=>n⟩
theorem zpM:Go.Proofs.Lays.n189 Tryz.prog zm4 where
 mixed:=by kernel_rfl
 f125:=Tryz.func121.trans (congrArg some (by kernel_rfl))
 f128:=Tryz.func164.trans (congrArg some (by kernel_rfl))
 f129:=Tryz.func165.trans (congrArg some (by kernel_rfl))
 f189:=Tryz.func224.trans (congrArg some (by kernel_rfl))
 f215:=Tryz.func252.trans (congrArg some (by kernel_rfl))
 f216:=Tryz.func225.trans (congrArg some (by kernel_rfl))
 f257:=Tryz.func251.trans (congrArg some (by kernel_rfl))
 f294:=Tryz.func266.trans (congrArg some (by kernel_rfl))
 f295:=Tryz.func267.trans (congrArg some (by kernel_rfl))
 f296:=Tryz.func268.trans (congrArg some (by kernel_rfl))
 f297:=Tryz.func269.trans (congrArg some (by kernel_rfl))
 f298:=Tryz.func270.trans (congrArg some (by kernel_rfl))
 f299:=Tryz.func271.trans (congrArg some (by kernel_rfl))
 f300:=Tryz.func272.trans (congrArg some (by kernel_rfl))
 f301:=Tryz.func273.trans (congrArg some (by kernel_rfl))
 f328:=Tryz.func279.trans (congrArg some (by kernel_rfl))
 f329:=Tryz.func280.trans (congrArg some (by kernel_rfl))
 f330:=Tryz.func281.trans (congrArg some (by kernel_rfl))
 f331:=Tryz.func282.trans (congrArg some (by kernel_rfl))
 f332:=Tryz.func283.trans (congrArg some (by kernel_rfl))
 f343:=Tryz.func284.trans (congrArg some (by kernel_rfl))
 t0:=Tryz.underlying0
 a0:=Tryz.isAgg0
 z0:=Tryz.sizeOf0
 v0:=Tryz.zeroValue0
 t3:=Tryz.underlying3
 a3:=Tryz.isAgg3
 z3:=Tryz.sizeOf3
 v3:=Tryz.zeroValue3
 t4:=Tryz.underlying4
 a4:=Tryz.isAgg4
 z4:=Tryz.sizeOf4
 v4:=Tryz.zeroValue4
 t5:=Tryz.underlying5
 a5:=Tryz.isAgg5
 z5:=Tryz.sizeOf5
 v5:=Tryz.zeroValue5
 t9:=Tryz.underlying9
 a9:=Tryz.isAgg9
 z9:=Tryz.sizeOf9
 v9:=Tryz.zeroValue9
 t28:=Tryz.underlying48
 a28:=Tryz.isAgg48
 z28:=Tryz.sizeOf48
 v28:=Tryz.zeroValue48
 t46:=Tryz.underlying203
 a46:=Tryz.isAgg203
 z46:=Tryz.sizeOf203
 v46:=Tryz.zeroValue203
 t51:=Tryz.underlying241
 a51:=Tryz.isAgg241
 z51:=Tryz.sizeOf241
 v51:=Tryz.zeroValue241
 t53:=Tryz.underlying29
 a53:=Tryz.isAgg29
 z53:=Tryz.sizeOf29
 v53:=Tryz.zeroValue29
 t131:=Tryz.underlying146
 a131:=Tryz.isAgg146
 z131:=Tryz.sizeOf146
 v131:=Tryz.zeroValue146
 t182:=Tryz.underlying298
 a182:=Tryz.isAgg298
 z182:=Tryz.sizeOf298
 v182:=Tryz.zeroValue298
 t183:=Tryz.underlying299
 a183:=Tryz.isAgg299
 z183:=Tryz.sizeOf299
 v183:=Tryz.zeroValue299
 t218:=Tryz.underlying304
 a218:=Tryz.isAgg304
 z218:=Tryz.sizeOf304
 v218:=Tryz.zeroValue304
 t222:=Tryz.underlying142
 a222:=Tryz.isAgg142
 z222:=Tryz.sizeOf142
 v222:=Tryz.zeroValue142
 t228:=Tryz.underlying309
 a228:=Tryz.isAgg309
 z228:=Tryz.sizeOf309
 v228:=Tryz.zeroValue309
 t229:=Tryz.underlying247
 a229:=Tryz.isAgg247
 z229:=Tryz.sizeOf247
 v229:=Tryz.zeroValue247
theorem zu4 {e:Nat} {v:Value} {d:Array Int} (hn:d.size<4611686018427387904):FnD Tryz.prog 224 [v] [ownA Tm.encI 1 e v d] (.tuple #[]) [ownA Tm.encI 1 e v (srt d)] :=
 Go.Tm.Fn.sortI hn (fun blk off cap zs w=>Go.Proofs.Any.slices_Sort_int zpM blk off cap zs w) (fun p cap w=>Go.Proofs.Any.slices_Sort_int_none zpM p cap w)
theorem zzX {tb ab mb g c:Nat} {a:Option Addr} {σ:Tr} (ha:0<σ.row.size->a=some ⟨g,0,none⟩) (hac:σ.row.size<=c) (hz:Room 0 σ):Go.Eng.Fn Tryz.prog 192 [.pointer (some ⟨tb,0,none⟩)] [pt tb (.cells #[.pointer (some ⟨ab,0,none⟩),.slice a σ.row.size c] 264),zap ab mb 139 29 (σ.mem),ownA zax 3 34 (.slice a σ.row.size c) (σ.row)] (fun x Bs=>∃ d2,Bs=[pt tb (.cells #[.pointer (some ⟨ab,0,none⟩),.slice a σ.row.size c] 264),zap ab mb 139 29 (σ.mem),ownA zax 3 34 (.slice a σ.row.size c) (σ.row),rowS x d2]/\d2.toList=chgL σ.row):=by
 have hz9:=zcV.1 hz
 refine Fn.enter (Tryz.func192) Z Z (fun w0 R=>?_)
 refine sA (TL.asg (.slice none 0 0) Z Z Z (dA (TL.asg (.slice none 0 0) Z Z Z (dS (TC.seq (TC.nilA 3 (A:=ownA Tm.encI 1 3 (.slice none 0 0) #[]) (.inl ⟨Z,Z⟩) (TC.region (xmp Z ?_))))))))
 refine xN0 Z (xf 1 zdy Z (xls 0 zco Z Z (xz zal Z (xmi Z (dK (TC.loopK (X:=Nat×Value) [2,9,10] [0,1,2] (fun ⟨k,v⟩=>[(11,.int .i64 ((k:Nat):Int)),(3,v)]) (fun ⟨k,v⟩=>[(3,ownA Tm.encI 1 3 v (zbS σ.row k))]) (fun ⟨k,v⟩=>k<=σ.row.size) (fun ⟨k,v⟩=>σ.row.size - k) ((0,.slice none 0 0)) (Nat.zero_le _) ⟨Z,Z,Zt⟩ ⟨Z,Zt⟩ (fun y hI=>?_)))))))
 obtain ⟨k,v⟩:=y
 replace hI:k<=σ.row.size:=hI
 refine TC.sub (env':=[(11,_),(3,_),(2,_),(9,_),(10,_)]) (L':=[(3,_),(0,_),(1,_),(2,_)]) ⟨Z,Z,Z,Z,Z,Zt⟩ ⟨Z,Z,Z,Z,Zt⟩ (sA (TL.lss Z Z Z Z (fun q1=>?_) (fun q1=>?_)))
 refine dS (TC.condT Z (TC.skip (TQ.then (TC.seq (TC.block (sA (TL.iaO Z ha Z zal (by omega) Z Z (TL.ldR 2 Z Z (zas ha) (by omega) zbR Z Z ?_))))))))
 refine TL.alloc 4 (cs:=#[.bool false,.int .i64 0,.int .u64 0]) zek Z Z Z (fun _=>Zt) (fun bk4=>(TL.stW 4 3 [_,_,_] Z Z Z Z Z Z zbR Z Z Zt (dA (xf 0 zdx Z (xlb 4 zem Z Z (TL.done (TQ.then (TC.cond Z (fun q2=>?_) (fun q2=>?_)))))))))
 refine TC.region (xmv Z (xf 1 zbt Z (xli 4 zaa Z Z (TL.bsN 5 [_] (Tm.encI σ.row[k]!.cell) zah zeV ⟨Z,Zt⟩ Z (lit1 Z) Z Z (fun bk5=>⟨Zt,?_⟩)))))
 refine TL.appS 3 5 (d2:=#[σ.row[k]!.cell]) Z (Z) Z (fun _=>Z) Z Z (row1 Z) zeG (by decide) zc3 (by have:=zeN σ.row k; simp; omega) Z Z (fun v6=>⟨Zt,?_⟩)
 refine xav Z (dI (TL.add (((k+1:Nat):Int)) Z Z (wrN (by omega)) Z Z (xmi Z (TL.done (TQ.roundK ((k+1,_)) ⟨(show k+1<=σ.row.size by omega),(show σ.row.size - (k+1)<σ.row.size - k by omega)⟩ ⟨Z,Z,Zt⟩ ⟨congrArg (fun z=>some (ownA Tm.encI 1 3 _ z)) (znF (by assumption)),Zt⟩ (kE3 Z Z Z Zt) (kL3 Z Z Z Zt))))))
 refine TC.skip (TQ.inBlock (TQ.then (TC.region (TL.add (((k+1:Nat):Int)) Z Z (wrN (by omega)) Z Z (xmi Z (TL.done (TQ.roundK ((k+1,_)) ⟨(show k+1<=σ.row.size by omega),(show σ.row.size - (k+1)<σ.row.size - k by omega)⟩ ⟨Z,Z,Zt⟩ ⟨congrArg (fun z=>some (ownA Tm.encI 1 3 _ z)) (zqo (by assumption)),Zt⟩ (kE3 Z Z Z Zt) (kL3 Z Z Z Zt))))))))
 refine dS (TC.condF Z (TC.exit (TQ.thenExit (TQ.thenExit (TQ.blockHere (TQ.then (sA (xmv Z ?_))))))))
 refine xD [3] (zu4 (by have:=zeN σ.row k; omega)) zy0 Z (TL.ownW 3 Z (fun a7 g7 c7 hv7 hc7 ha7=>?_))
 cases hv7
 refine dA (xmv Z (TL.call [3] [3] (zj3 (by rw [zet]; have:=zeN σ.row k; omega) Z) ⟨Z,Zt⟩ ⟨Z,Zt⟩ ztE Z Z Z Z ?_))
 rintro v Bs ⟨d2,rfl,hd2⟩
 refine ⟨Z,Zt,?_⟩
 refine xav Z (dR ?_)
 refine FQ.ret1 (v:=_) (Bs:=[_,_,_,_]) [0,1,2,3] Z Z Z ⟨Z,Z,Z,Z,Zt⟩ ?_
 obtain rfl:k=σ.row.size:=by omega
 exact ⟨d2,Z,by rw [hd2,zet]; rfl⟩
theorem ziW {l:Lay} (hl:l.Ok) {wb tb:Nat} {hv:Value} {p:Pen} {u v:Int}  : Go.Eng.Fn Tryz.prog 193 [.pointer (some ⟨wb,0,none⟩)] [zgm 198 wb tb 186 (hv) l p (u) (v)] (fun x Bs=>Bs=[zgm 198 wb tb 186 (hv) l p (u) (v),ownA Tm.encI 1 3 x (zav l l.nodes.toNat)]):=by
 have hnb:=zaD hl
 obtain ⟨N,hN⟩:∃ N:Nat,l.nodes=(N:Int):=⟨l.nodes.toNat,by have:=zcq hl; omega⟩
 refine Fn.enter (Tryz.func193) Z Z (fun w0 R=>?_)
 refine sA (TL.asg (.slice none 0 0) Z Z Z (dA (TL.asg (.slice none 0 0) Z Z Z (dS (TC.seq (TC.nilA 1 (A:=ownA Tm.encI 1 3 (.slice none 0 0) #[]) (.inl ⟨Z,Z⟩) (TC.region (xai Z ?_))))))))
 refine dK (TC.loopK (X:=Nat×Value) [0,2] [0] (fun ⟨k,v⟩=>[(4,.int .i64 ((k+1:Nat):Int)),(3,v)]) (fun ⟨k,v⟩=>[(1,ownA Tm.encI 1 3 v (zav l k))]) (fun ⟨k,v⟩=>(k:Int)<=l.nodes) (fun ⟨k,v⟩=>N - k) ((0,.slice none 0 0)) (by show ((0:Nat):Int)<=l.nodes; omega) ⟨Z,Z,Zt⟩ ⟨Z,Zt⟩ (fun y hI=>?_))
 obtain ⟨k,v⟩:=y
 replace hI:(k:Int)<=l.nodes:=hI
 refine TC.sub (env':=[(4,_),(3,_),(0,_),(2,_)]) (L':=[(1,_),(0,_)]) ⟨Z,Z,Z,Z,Zt⟩ ⟨Z,Z,Zt⟩ (sB (xmi Z (xmp Z (xN0 Z (xf 1 zbo Z (xL3 0 zac Z Z (xD [] (zfi hl) zjL Z (TL.leq Z Z Z Z (fun q1=>?_) (fun q1=>?_)))))))))
 refine TL.done (TQ.then (TC.condT Z (TC.skip (TQ.then (TC.seq (TC.block (sA (xmp Z ?_))))))))
 refine xN0 Z (xf 1 zbo Z (xL3 0 zac Z Z (xmi Z (xD [] (zhL hl) zkL Z (xmu Z (TL.ext (.agg _) Z Z Z Z (TL.ext (.bool _) Z Z Z Z (TL.alloc 2 (cs:=#[.bool false,.int .i64 0,.int .i64 0,.int .i64 0,.int .i64 0]) zgu Z Z Z (fun _=>Zt) (fun bk2=>?_)))))))))
 refine TL.stW 2 5 [_,_,_,_,_] Z Z Z Z Z Z zcT Z Z Zt (xab Z (dA (xf 1 zhZ Z (xli 2 zaa Z Z (TL.eql Z Z Z Z (fun q2=>?_) (fun q2=>?_))))))
 refine TL.done (TQ.then (TC.condT Z (TC.region (xmv Z (xmi Z (TL.bsN 3 [_] (Tm.encI ((k+1:Nat):Int)) zah zeV ⟨Z,Zt⟩ Z (lit1 Z) Z Z (fun bk3=>⟨Zt,?_⟩)))))))
 refine TL.appS 1 3 (d2:=#[((k+1:Nat):Int)]) Z (Z) Z (fun _=>Z) Z Z (row1 Z) zeG (by decide) zc3 (by have:=zdI l k; simp; omega) Z Z (fun v4=>⟨Zt,?_⟩)
 refine xav Z (dI (xmi Z (TL.add (((k+2:Nat):Int)) Z Z (wrN (by omega)) Z Z (xai Z (TL.done (TQ.roundK ((k+1,_)) ⟨(show ((k+1:Nat):Int)<=l.nodes by omega),(show N - (k+1)<N - k by omega)⟩ ⟨Z,Z,Zt⟩ ⟨congrArg (fun z=>some (ownA Tm.encI 1 3 _ z)) (zqD (by assumption)),Zt⟩ (kE2 Z Z Zt) (kL1 Z Zt)))))))
 refine TL.done (TQ.then (TC.condF Z (TC.skip (TQ.inBlock (TQ.then (TC.region (xmi Z (TL.add (((k+2:Nat):Int)) Z Z (wrN (by omega)) Z Z ?_))))))))
 refine xai Z (TL.done (TQ.roundK ((k+1,_)) ⟨(show ((k+1:Nat):Int)<=l.nodes by omega),(show N - (k+1)<N - k by omega)⟩ ⟨Z,Z,Zt⟩ ⟨congrArg (fun z=>some (ownA Tm.encI 1 3 _ z)) (zrD (by assumption)),Zt⟩ (kE2 Z Z Zt) (kL1 Z Zt)))
 refine dE Z (sA (xmv Z (xav Z (dR ?_))))
 refine FQ.ret1 (v:=_) (Bs:=[_,_]) [0,1] Z Z Z ⟨Z,Z,Zt⟩ ?_
 obtain rfl:k=l.nodes.toNat:=by omega
 rfl
theorem zrs {tb ab mb:Nat} {σ:Tr} (hz:Room 0 σ:=by exact zaB):Go.Eng.Fn Tryz.prog 192 [.pointer (some ⟨tb,0,none⟩)] [zbk tb ab mb 264 139 29 34 (σ)] (fun x Bs=>∃ d2,Bs=[zbk tb ab mb 264 139 29 34 (σ),rowS x d2]/\d2.toList=chgL σ.row) :=
 Fn.traceX fun a g c ha hac=>Go.Eng.Fn.mono (zzX ha hac hz) fun v Bs ⟨d2,h,h2⟩=>⟨_,σ,[rowS v d2],h,d2,Z,h2⟩
theorem zoR {l:Lay} (hl:l.Ok) {wb tb ab mb:Nat} {hv:Value} {p:Pen} {u v:Int} {y:Int} (hy:0<=y/\y<18446744073709551616) {a1:Option Addr} {b1 o1 n1 c1:Nat} {A1:Assn} {d1:Array Int} (ha1:0<n1->a1=some ⟨b1,o1,none⟩) (hn1:n1<=137438953472) (hs1:d1.size=n1) (hA1:za8 A1 Tm.encI 1 b1 o1 n1 (fun i=>d1[i]!)) {a2:Option Addr} {b2 o2 n2 c2:Nat} {A2:Assn} {d2:Array Int} (ha2:0<n2->a2=some ⟨b2,o2,none⟩) (hn2:n2<=137438953472) (hs2:d2.size=n2) (hA2:za8 A2 Tm.encI 1 b2 o2 n2 (fun i=>d2[i]!)) {σ:Tr} (hz:Room n1 σ):FnD Tryz.prog 155 [.pointer (some ⟨wb,0,none⟩),.slice a1 n1 c1,.slice a2 n2 c2,.int .u64 y] [zgm 198 wb tb 186 (hv) l p (u) (v),zbk tb ab mb 264 139 29 34 (σ),A1,A2] (.tuple #[]) [zgm 198 wb tb 186 (hv) l p (u) (v),zbk tb ab mb 264 139 29 34 (zbl l d1 d2.toList y (n1) σ),A1,A2]:=by
 refine Fn.enter (Tryz.func155) Z Z (fun w0 R=>?_)
 refine sA (xms Z (xz zah Z (xmi Z (dK (TC.loopK (X:=Nat) [0,2,3,10,11] [0,2,3] (fun k=>[(12,.int .i64 ((k:Nat):Int))]) (fun k=>[(1,zbk tb ab mb 264 139 29 34 (zbl l d1 d2.toList y (k) σ))]) (fun k=>k<=n1) (fun k=>n1 - k) (0) (Nat.zero_le _) ⟨Z,Zt⟩ ⟨Z,Zt⟩ (fun k hI=>(TC.sub (env':=[(12,_),(0,_),(2,_),(3,_),(10,_),(11,_)]) (L':=[(1,_),(0,_),(2,_),(3,_)]) ⟨Z,Z,Z,Z,Z,Z,Zt⟩ ⟨Z,Z,Z,Z,Zt⟩ (sA (TL.lss Z Z Z Z (fun q1=>?_) (fun q1=>?_))))))))))
 refine dS (TC.condT Z (TC.skip (TQ.then (TC.seq (TC.block (sA (TL.iaO Z ha1 Z zah (by omega) Z Z (TL.ldRS 2 (.int _ _) Z Z hA1 (by omega) (Z) zaa Z Z ?_))))))))
 refine xai rfl (dA (xms rfl (xmi rfl (xD [3] (znn ha2 hn2 hs2 hA2) zy7 rfl (TL.cases rfl (fun q2=>?_) (fun q2=>?_))))))
 refine xnt Z (TL.done (TQ.then (TC.condF Z (TC.skip (TQ.inBlock (TQ.then (TC.region (TL.add (((k+1:Nat):Int)) Z Z (wrN (by omega)) Z Z ?_))))))))
 refine xmi Z (TL.done (TQ.roundK (k+1) ⟨by omega,by omega⟩ ⟨Z,Zt⟩ ⟨congrArg (fun z=>some (zbk tb ab mb 264 139 29 34 (z))) (zsG (by simpa using q2)),Zt⟩ (kE5 Z Z Z Z Z Zt) (kL3 Z Z Z Zt)))
 refine xnf Z (TL.done (TQ.then (TC.condT Z (TC.draw (od [1,3,5,7,9,11,13,15,17,21,18,22]) [0] fc_m (by kernel_rfl) (xmp Z (xN0 Z (xf 0 zbd Z (xlp 0 zde Z Z ?_))))))))
 refine xmp Z (xN0 Z (xf 1 zbo Z (xL3 0 zac Z Z (xmi Z (xmi Z (xd [] (zba hl) zcp Z (kL1 Z Zt) (xd [1] (zmo hy (zds (n:=1) (hz.le (by omega)))) zy6 Z (kL1 Z Zt) (dI ?_))))))))
 refine TL.add (((k+1:Nat):Int)) Z Z (wrN (by omega)) Z Z (xmi Z (TL.done (TQ.roundK (k+1) ⟨by omega,by omega⟩ ⟨Z,Zt⟩ ⟨congrArg (fun z=>some (zbk tb ab mb 264 139 29 34 (z))) (zvx (by simpa using q2)),Zt⟩ (kE5 Z Z Z Z Z Zt) (kL3 Z Z Z Zt))))
 refine dS (TC.condF Z (TC.exit (TQ.thenExit (TQ.thenExit (TQ.blockHere ?_)))))
 refine FQ.end0 (Bs:=[_,_,A1,A2]) [0,1,2,3] Z Z ⟨Z,Z,Z,Z,Zt⟩ ?_
 obtain rfl:k=n1:=by omega
 exact ⟨Z,Z⟩
theorem zrk {l:Lay} (hl:l.Ok) {wb tb ab mb:Nat} {hv:Value} {p:Pen} {u v:Int} {σ:Tr} (hz:Room (4 * (zav l l.nodes.toNat).size) σ):FnD Tryz.prog 157 [.pointer (some ⟨wb,0,none⟩)] [zgm 198 wb tb 186 (hv) l p (u) (v),zbk tb ab mb 264 139 29 34 (σ)] (.tuple #[]) [zgm 198 wb tb 186 (hv) l p (u) (v),zbk tb ab mb 264 139 29 34 (cleanW l (chgL σ.row) (zav l l.nodes.toNat) (zav l l.nodes.toNat).size σ)]:=by
 have hnb:=zaD hl
 have hrz:=zcV.1 hz
 have hsl:=zdI l l.nodes.toNat
 obtain ⟨SA,hSA⟩:∃ SA,SA=zav l l.nodes.toNat:=⟨_,rfl⟩
 rw [<-hSA] at hz hsl hrz ⊢
 refine Fn.enter (Tryz.func157) Z Z (fun w0 R=>?_)
 refine sA (xmp Z (xN0 Z (xf 0 zbd Z (xlp 0 zde Z Z (TL.call [1] [1,2] zrs ⟨Z,Zt⟩ ⟨Z,Zt⟩ ztD Z Z Z Z ?_)))))
 rintro x Bs ⟨ch,rfl,hch⟩
 refine ⟨Z,Zt,?_⟩
 refine TL.rowS 2 Z (fun a8 b8 o8 c8 hv8 hc8 ha8=>⟨Zt,?_⟩)
 cases hv8
 have hcs:=zkR hch
 have hcz:ch.size<=137438953472:=by have:=zp8 hch; omega
 refine xas Z (dA (xmp Z (TL.call [0] [0,3] (ziW hl) ⟨Z,Zt⟩ ⟨Z,Zt⟩ zox Z Z Z Z ?_)))
 rintro x Bs rfl
 refine ⟨Z,Zt,?_⟩
 rw [<-hSA]
 refine TL.ownW 3 Z (fun a7 g7 c7 hv7 hc7 ha7=>?_)
 cases hv7
 refine xz zah Z (xmi Z (dK (TC.loopK (X:=Nat) [0,2,16,17] [0,2,3] (fun k=>[(18,.int .i64 ((k:Nat):Int))]) (fun k=>[(1,zbk tb ab mb 264 139 29 34 (cleanW l (chgL σ.row) SA (k) σ))]) (fun k=>k<=SA.size) (fun k=>SA.size - k) (0) (Nat.zero_le _) ⟨Z,Zt⟩ ⟨Z,Zt⟩ (fun k hI=>(TC.sub (env':=[(18,_),(0,_),(2,_),(16,_),(17,_)]) (L':=[(1,_),(0,_),(2,_),(3,_)]) ⟨Z,Z,Z,Z,Z,Zt⟩ ⟨Z,Z,Z,Z,Zt⟩ (sA (TL.lss Z Z Z Z (fun q1=>?_) (fun q1=>?_))))))))
 refine dS (TC.condT Z (TC.skip (TQ.then (TC.seq (TC.block (sA (TL.iaO Z ha7 Z zah (by omega) Z Z (TL.ldRS 3 (.int _ _) Z Z (zas ha7) (by omega) (Z) zaa Z Z ?_))))))))
 refine xai Z (dA (TL.bldA [.int .i64 0,.int .i64 0] [(.int _ _),(.int _ _)] [_,_] zlS zcb ⟨Z,Z,Zt⟩ ⟨Z,Z⟩ Z Z (xmi Z (dK (TC.loopK (X:=Nat) [0,2,4,16,17,18,22] [0,2,3] (fun j=>[(23,.int .i64 ((j:Nat):Int))]) (fun j=>[(1,zbk tb ab mb 264 139 29 34 (zkP l (chgL σ.row) SA k σ j))]) (fun j=>j<=2) (fun j=>2 - j) (0) (Nat.zero_le _) ⟨Z,Zt⟩ ⟨Z,Zt⟩ (fun j hI=>(TC.sub (env':=[(23,_),(0,_),(2,_),(4,_),(16,_),(17,_),(18,_),(22,_)]) (L':=[(1,_),(0,_),(2,_),(3,_)]) ⟨Z,Z,Z,Z,Z,Z,Z,Z,Zt⟩ ⟨Z,Z,Z,Z,Zt⟩ (sA (TL.lss Z Z Z Z (fun q2=>?_) (fun q2=>?_))))))))))
 refine dS (TC.condT rfl (TC.skip (TQ.then (TC.seq (TC.block (sA (TL.ixA (.int .i64 (2 - (j:Int))) rfl rfl zcb zaa (by omega) (by omega) (by have h9:j=0\/j=1:=(by omega); rcases h9 with rfl | rfl<;>rfl) rfl rfl (xai rfl ?_))))))))
 refine dA (xmp Z (xN0 Z (xf 1 zbo Z (xL3 0 zac Z Z (xmi Z (xmi Z (xD [] (zba hl) zcp Z (xai Z ?_))))))))
 refine dA (xms Z (xmi Z (TL.call [2] [2] (zkS ha8 hcz Z zdp hcs) ⟨Z,Z,Zt⟩ ⟨Z,Zt⟩ ztC Z Z Z Z ?_)))
 rintro x Bs ⟨k9,rfl,rfl⟩
 refine ⟨Z,Zt,?_⟩
 refine xmu rfl (xei rfl rfl (TL.ext (.bool _) rfl rfl rfl rfl (xai rfl (xab rfl (dA (xmb rfl (TL.cases rfl (fun q3=>?_) (fun q3=>?_))))))))
 refine TL.done (TQ.then (TC.condT Z (TC.draw (od [1,3,5,7,9,11,13,15,17,19,20]) [0] fc_m (by kernel_rfl) (xmp Z (xN0 Z (xf 4 zdz Z (xL2 0 za7 Z Z (xmp Z ?_))))))))
 refine xN0 Z (xf 0 zbd Z (xlp 0 zde Z Z (TL.miN (v:=(.pointer (some ⟨_,_,none⟩))) Z zfV Z Z (xmi Z (xd [1] (zp6 zd8 (zoI (n:=0) (by omega) (hz.le (by omega)))) ztQ Z (kL1 Z Zt) (dI (TL.add (((j+1:Nat):Int)) Z Z (wrN (by omega)) Z Z (xmi Z ?_))))))))
 refine TL.done (TQ.roundK (j+1) ⟨by omega,by omega⟩ ⟨Z,Zt⟩ ⟨congrArg (fun z=>some (zbk tb ab mb 264 139 29 34 (z))) (zuf (by omega) (by rw [<-hch]; first | exact of_decide_eq_true q3 | exact of_decide_eq_false q3)),Zt⟩ (kE7 Z Z Z Z Z Z Z Zt) (kL3 Z Z Z Zt))
 refine TL.done (TQ.then (TC.condF Z (TC.skip (TQ.inBlock (TQ.then (TC.region (TL.add (((j+1:Nat):Int)) Z Z (wrN (by omega)) Z Z (xmi Z ?_))))))))
 refine TL.done (TQ.roundK (j+1) ⟨by omega,by omega⟩ ⟨Z,Zt⟩ ⟨congrArg (fun z=>some (zbk tb ab mb 264 139 29 34 (z))) (zq6 (by omega) (by rw [<-hch]; first | exact of_decide_eq_true q3 | exact of_decide_eq_false q3)),Zt⟩ (kE7 Z Z Z Z Z Z Z Zt) (kL3 Z Z Z Zt))
 refine dS (TC.condF Z (TC.exit (TQ.thenExit (TQ.thenExit (TQ.blockHere (TQ.inBlock (TQ.then (TC.region ?_))))))))
 refine TL.add (((k+1:Nat):Int)) rfl rfl (wrN (by omega)) rfl rfl (xmi rfl (TL.done (TQ.roundK (k+1) ⟨by omega,by omega⟩ ⟨rfl,trivial⟩ ⟨by obtain rfl:j=2:=(by omega); rfl,trivial⟩ (kE4 rfl rfl rfl rfl trivial) (kL3 rfl rfl rfl trivial))))
 refine dS (TC.condF Z (TC.exit (TQ.thenExit (TQ.thenExit (TQ.blockHere ?_)))))
 refine FQ.end0 (Bs:=[_,_]) [0,1] Z Z ⟨Z,Z,Zt⟩ ?_
 obtain rfl:k=SA.size:=by omega
 exact ⟨Z,Z⟩
theorem zuO {l:Lay} (hl:l.Ok) {wb tb ab mb:Nat} {hv:Value} {p:Pen} {u v:Int} {σ:Tr} (hz:Room (4 * (zav l l.nodes.toNat).size) σ):FnD Tryz.prog 154 [.pointer (some ⟨wb,0,none⟩)] [zgm 198 wb tb 186 (hv) l p (u) (v),zbk tb ab mb 264 139 29 34 (σ)] (.tuple #[]) [zgm 198 wb tb 186 (hv) l p (u) (v),zbk tb ab mb 264 139 29 34 (zb6 l p (chgL σ.row) (zav l l.nodes.toNat) (zav l l.nodes.toNat).size σ)]:=by
 have hnb:=zaD hl
 have hrz:=zcV.1 hz
 have hsl:=zdI l l.nodes.toNat
 obtain ⟨SA,hSA⟩:∃ SA,SA=zav l l.nodes.toNat:=⟨_,rfl⟩
 rw [<-hSA] at hz hsl hrz ⊢
 refine Fn.enter (Tryz.func154) Z Z (fun w0 R=>?_)
 refine sA (xmp Z (xN0 Z (xf 0 zbd Z (xlp 0 zde Z Z (TL.call [1] [1,2] zrs ⟨Z,Zt⟩ ⟨Z,Zt⟩ ztD Z Z Z Z ?_)))))
 rintro x Bs ⟨ch,rfl,hch⟩
 refine ⟨Z,Zt,?_⟩
 refine TL.rowS 2 Z (fun a8 b8 o8 c8 hv8 hc8 ha8=>⟨Zt,?_⟩)
 cases hv8
 have hcs:=zkR hch
 have hcz:ch.size<=137438953472:=by have:=zp8 hch; omega
 refine xas Z (dA (xmp Z (TL.call [0] [0,3] (ziW hl) ⟨Z,Zt⟩ ⟨Z,Zt⟩ zox Z Z Z Z ?_)))
 rintro x Bs rfl
 refine ⟨Z,Zt,?_⟩
 rw [<-hSA]
 refine TL.ownW 3 Z (fun a7 g7 c7 hv7 hc7 ha7=>?_)
 cases hv7
 refine xz zah Z (xmi Z (dK (TC.loopK (X:=Nat) [0,2,17,18] [0,2,3] (fun k=>[(19,.int .i64 ((k:Nat):Int))]) (fun k=>[(1,zbk tb ab mb 264 139 29 34 (zb6 l p (chgL σ.row) SA (k) σ))]) (fun k=>k<=SA.size) (fun k=>SA.size - k) (0) (Nat.zero_le _) ⟨Z,Zt⟩ ⟨Z,Zt⟩ (fun k hI=>(TC.sub (env':=[(19,_),(0,_),(2,_),(17,_),(18,_)]) (L':=[(1,_),(0,_),(2,_),(3,_)]) ⟨Z,Z,Z,Z,Z,Zt⟩ ⟨Z,Z,Z,Z,Zt⟩ (sA (TL.lss Z Z Z Z (fun q1=>?_) (fun q1=>?_))))))))
 refine dS (TC.condT Z (TC.skip (TQ.then (TC.seq (TC.block (sA (TL.iaO Z ha7 Z zah (by omega) Z Z (TL.ldRS 3 (.int _ _) Z Z (zas ha7) (by omega) (Z) zaa Z Z ?_))))))))
 refine xai Z (dA (xmp Z (xN0 Z (xf 1 zbo Z (xL3 0 zac Z Z (xmi Z (xD [] (zba hl) zcp Z (xai Z ?_))))))))
 refine dB (xms Z (xmi Z (TL.call [2] [2] (zkS ha8 hcz Z zdp hcs) ⟨Z,Z,Zt⟩ ⟨Z,Zt⟩ ztC Z Z Z Z ?_)))
 rintro x Bs ⟨k9,rfl,rfl⟩
 refine ⟨Z,Zt,?_⟩
 refine xmu rfl (xei rfl rfl (TL.ext (.bool _) rfl rfl rfl rfl (xai rfl (xab rfl (dA (xmb rfl (TL.cases rfl (fun q2=>?_) (fun q2=>?_))))))))
 refine xnt Z (dF Z (xmp Z (xN0 Z (xf 0 zbd Z (xlp 0 zde Z Z (xmi Z (xD [1] (zo1 (zc0 (n:=1) (hz.le (by omega)))) zy8 Z (xD [] zdG zfW Z ?_))))))))
 refine xmu Z (TL.ext (.agg _) Z Z Z Z (xei Z Z (TL.alloc 4 (cs:=#[.int .i64 0,.int .i64 0,.int .i64 0,.int .i64 0]) zca Z Z Z (fun _=>Zt) (fun bk4=>(TL.stW 4 4 [_,_,_,_] Z Z Z Z Z Z zaF Z Z Zt (xai Z (dA (xf 0 zcd Z (xli 4 zaa Z Z ?_)))))))))
 refine TL.eql Z Z Z Z (fun q3=>?_) (fun q3=>?_)
 refine xmt Z (xo Z (xo Z (xo Z (xpT Z (dT Z (xmp Z (xN0 Z (xf 1 zbo Z ?_))))))))
 refine xL3 0 zac Z Z (xmi Z (xD [] (zba hl) zcp Z (xai Z (TL.done (TQ.then (TC.draw (od [1,3,5,7,9,11,13,15,17,19,21,23,25,27,29,31,32,35,36]) [0] fc_m (by kernel_rfl) (xmp Z (xN0 Z ?_))))))))
 refine xf 4 zdz Z (xL2 0 za7 Z Z (xmp Z (xN0 Z (xf 0 zbd Z (xlp 0 zde Z Z (TL.miN (v:=(.pointer (some ⟨_,_,none⟩))) Z zfV Z Z (xmi Z (xmp Z ?_))))))))
 refine xN0 Z (xf 0 zbd Z (xlp 0 zde Z Z (TL.miN (v:=(.pointer (some ⟨_,_,none⟩))) Z zfV Z Z (xmi Z (xd [1] (zst zd8 (ld_f (zc0 (n:=2) (hz.le (by omega))))) zov Z (kL1 Z Zt) (TL.add _ Z Z (Z) Z Z (xd [1] (zkZ zd8 (ld_f (ld_f (zc0 (n:=4) (hz.le (by omega)))))) zow Z (kL1 Z Zt) (dI ?_))))))))
 refine TL.add (((k+1:Nat):Int)) Z Z (wrN (by omega)) Z Z (xmi Z (TL.done (TQ.roundK (k+1) ⟨by omega,by omega⟩ ⟨Z,Zt⟩ ⟨congrArg (fun z=>some (zbk tb ab mb 264 139 29 34 (z))) (by rw [zk0 (by rw [<-hch]; first | exact of_decide_eq_true q2 | exact of_decide_eq_false q2 | simpa using q2),Zp (.inl (by assumption))]),Zt⟩ (kE4 Z Z Z Z Zt) (kL3 Z Z Z Zt))))
 refine xmf Z (xf 1 zcz Z (xli 4 zaa Z Z (TL.eql Z Z Z Z (fun q4=>?_) (fun q4=>?_))))
 refine xpH Z (dT Z (xmp Z (xN0 Z (xf 1 zbo Z (xL3 0 zac Z Z (xmi Z (xD [] (zba hl) zcp Z (xai Z ?_))))))))
 refine TL.done (TQ.then (TC.draw (od [1,3,5,7,9,11,13,15,17,19,21,23,25,27,29,31,32,35,36]) [0] fc_m (by kernel_rfl) (xmp Z (xN0 Z (xf 4 zdz Z (xL2 0 za7 Z Z (xmp Z (xN0 Z ?_))))))))
 refine xf 0 zbd Z (xlp 0 zde Z Z (TL.miN (v:=(.pointer (some ⟨_,_,none⟩))) Z zfV Z Z (xmi Z (xmp Z (xN0 Z (xf 0 zbd Z (xlp 0 zde Z Z (TL.miN (v:=(.pointer (some ⟨_,_,none⟩))) Z zfV Z Z ?_))))))))
 refine xmi Z (xd [1] (zst zd8 (ld_f (zc0 (n:=2) (hz.le (by omega))))) zov Z (kL1 Z Zt) (TL.add _ Z Z (Z) Z Z (xd [1] (zkZ zd8 (ld_f (ld_f (zc0 (n:=4) (hz.le (by omega)))))) zow Z (kL1 Z Zt) (dI (TL.add (((k+1:Nat):Int)) Z Z (wrN (by omega)) Z Z (xmi Z (TL.done (TQ.roundK (k+1) ⟨by omega,by omega⟩ ⟨Z,Zt⟩ ⟨congrArg (fun z=>some (zbk tb ab mb 264 139 29 34 (z))) (by rw [zk0 (by rw [<-hch]; first | exact of_decide_eq_true q2 | exact of_decide_eq_false q2 | simpa using q2),Zp (.inr (by assumption))]),Zt⟩ (kE4 Z Z Z Z Zt) (kL3 Z Z Z Zt)))))))))
 refine xpF Z (TL.done (TQ.then (TC.condF Z (TC.skip (TQ.inBlock (TQ.then (TC.region (TL.add (((k+1:Nat):Int)) Z Z (wrN (by omega)) Z Z ?_))))))))
 refine xmi Z (TL.done (TQ.roundK (k+1) ⟨by omega,by omega⟩ ⟨Z,Zt⟩ ⟨congrArg (fun z=>some (zbk tb ab mb 264 139 29 34 (z))) (by rw [zk0 (by rw [<-hch]; first | exact of_decide_eq_true q2 | exact of_decide_eq_false q2 | simpa using q2),Zn (fun h9=>h9.elim (by assumption) (by assumption))]),Zt⟩ (kE4 Z Z Z Z Zt) (kL3 Z Z Z Zt)))
 refine xnf Z (TL.done (TQ.then (TC.condT Z (TC.exit (TQ.thenExit (TQ.blockHere (TQ.then (TC.region ?_))))))))
 refine TL.add (((k+1:Nat):Int)) Z Z (wrN (by omega)) Z Z (xmi Z (TL.done (TQ.roundK (k+1) ⟨by omega,by omega⟩ ⟨Z,Zt⟩ ⟨congrArg (fun z=>some (zbk tb ab mb 264 139 29 34 (z))) (zrm (by rw [<-hch]; first | exact of_decide_eq_true q2 | exact of_decide_eq_false q2 | simpa using q2)),Zt⟩ (kE4 Z Z Z Z Zt) (kL3 Z Z Z Zt))))
 refine dS (TC.condF Z (TC.exit (TQ.thenExit (TQ.thenExit (TQ.blockHere ?_)))))
 refine FQ.end0 (Bs:=[_,_]) [0,1] Z Z ⟨Z,Z,Zt⟩ ?_
 obtain rfl:k=SA.size:=by omega
 exact ⟨Z,Z⟩
theorem zuR {a:Option Addr} {b off n c:Nat} {A:Assn} {d:Array Acc} {v:Int} (ha:0<n->a=some ⟨b,off,none⟩) (hn:n<=137438953472) (hsz:d.size=n) (hA:za8 A zax 3 b off n (fun i=>d[i]!)):FnD Tryz.prog 153 [.slice a n c,.int .i64 v] [A] (.int .i64 (zeJ d v n)) [A]:=by
 refine Fn.enter (Tryz.func153) Z Z (fun w0 R=>?_)
 refine sA (xai Z (dB (xms Z (xz zal Z (TL.sub _ Z Z (wr64 (by omega)) Z Z (xai Z (dK (TC.loopK (X:=Nat) [0,1] [0] (fun k=>[(5,.int .i64 ((k:Int) - 1))]) (fun k=>[]) (fun k=>k<=n/\zeJ d v n=zeJ d v k) (fun k=>k) (n) ⟨Nat.le_refl _,Z⟩ ⟨Z,Zt⟩ Zt (fun k hI=>?_)))))))))
 obtain ⟨hk,hI⟩:=hI
 refine TC.sub (env':=[(5,_),(0,_),(1,_)]) (L':=[(0,_)]) ⟨Z,Z,Z,Zt⟩ ⟨Z,Zt⟩ (sB (xmi Z (TL.geq Z Z Z Z (fun q1=>?_) (fun q1=>?_))))
 refine TL.done (TQ.then (TC.condT Z (TC.skip (TQ.then (TC.seq (TC.block (TC.seq ?_)))))))
 have e9:((k:Nat):Int) - 1=((k - 1:Nat):Int):=by omega
 rw [e9]
 refine TC.region (xms rfl (xmi rfl (TL.iaO rfl ha rfl zal (by omega) rfl rfl (xf 0 zdx rfl (TL.ldRF 0 (.bool _) rfl rfl hA (by omega) rfl rfl zem rfl rfl (xmb rfl (TL.cases rfl (fun q2=>?_) (fun q2=>?_))))))))
 refine xms Z (xmi Z (TL.iaO Z ha Z zal (by omega) Z Z (xf 1 zbt Z (TL.ldRF 0 (.int _ _) Z Z hA (by omega) Z Z zaa Z Z (xmi Z (TL.eql Z Z Z Z (fun q3=>?_) (fun q3=>?_)))))))
 refine xpT Z (dT Z (xmi Z (xai Z (dR (TQ.blockRet (TQ.thenRet (TQ.thenRet (TQ.blockRet ?_))))))))
 refine TQ.thenRet ?_
 refine FQ.ret1 (v:=(.int _ _)) (Bs:=[A]) [0] Z Z Z ⟨Z,Zt⟩ ?_
 exact ⟨iE (by rw [hI]; exact zsN (by omega) (by assumption) (by assumption)),Z⟩
 refine xpG Z (TL.done (TQ.then (TC.condF Z (TC.skip (TQ.inBlock (TQ.then (TC.region (xmi Z ?_))))))))
 refine TL.sub _ Z Z (wr64 (by omega)) Z Z (xai Z (TL.done (TQ.roundK (k - 1) ⟨⟨by omega,zpN hI (by omega) (by first | exact .inl (by simpa using q2) | exact .inr q3 | trace_state)⟩,by omega⟩ ⟨Z,Zt⟩ Zt (kE2 Z Z Zt) (kL1 Z Zt))))
 refine xo Z (xo Z (xo Z (xo Z (xo Z (xo Z (xo Z (xpF Z (TL.done ?_))))))))
 refine TQ.then (TC.condF Z (TC.skip (TQ.inBlock (TQ.then (TC.region (xmi Z (TL.sub _ Z Z (wr64 (by omega)) Z Z (xai Z ?_))))))))
 refine TL.done (TQ.roundK (k - 1) ⟨⟨by omega,zpN hI (by omega) (by first | exact .inl (by simpa using q2) | exact .inr q3 | trace_state)⟩,by omega⟩ ⟨Z,Zt⟩ Zt (kE2 Z Z Zt) (kL1 Z Zt))
 refine dE Z (sA (xai Z (dR ?_)))
 refine FQ.ret1 (v:=(.int _ _)) (Bs:=[A]) [0] Z Z Z ⟨Z,Zt⟩ ?_
 obtain rfl:k=0:=by omega
 exact ⟨iE (by rw [hI]; rfl),Z⟩
theorem zmg {l:Lay} (hl:l.Ok) {wb tb ab mb:Nat} {hv:Value} {p:Pen} {u v:Int} {σ σ1 σ2:Tr} {k:Nat} {x y:Int} (h1:root l k σ (l.vertex 0 u)=some (x,σ1)) (h2:root l k σ1 (l.vertex 0 v)=some (y,σ2)) (hz:Room (2 * k) σ):Go.Eng.Fn Tryz.prog 151 [.pointer (some ⟨wb,0,none⟩)] [zgm 198 wb tb 186 (hv) l p (u) (v),zbk tb ab mb 264 139 29 34 (σ)] (fun r Bs=>Bs=[zgm 198 wb tb 186 (hv) l p (u) (v),zbk tb ab mb 264 139 29 34 (σ2),rowS r (zau x y)]):=by
 refine Fn.enter (Tryz.func151) Z Z (fun w0 R=>?_)
 refine sA (TL.asg (.slice none 0 0) Z Z Z (dS (TC.draw (od [1,3,5,7,9,11,13,15,17,19,21,23,25,27,29,31,37,39,41,43,45,47,49,51,53,55,57,59,61,63,65,67,32,34,68,70,73,75]) [0] fc_m (by kernel_rfl) (xmp Z (xN0 Z (xf 6 zcA Z (xf 0 zaX Z (xf 0 zao Z ?_))))))))
 refine xf 0 zbe Z (xf 0 zak Z (xL6 0 zab Z Z (xmp Z (xN0 Z (xf 1 zbo Z (xL3 0 zac Z Z (xmp Z (xN0 Z ?_))))))))
 refine xf 17 zb5 Z (xli 0 zaa Z Z (xmp Z (xN0 Z (xf 6 zcA Z (xf 0 zaX Z (xf 0 zao Z (xf 0 zbe Z (xf 0 zak Z ?_))))))))
 refine xL6 0 zab Z Z (xmp Z (xN0 Z (xf 1 zbo Z (xL3 0 zac Z Z (xmp Z (xN0 Z (xf 18 zb4 Z (xli 0 zaa Z Z ?_))))))))
 refine xd [] (zc6 hl) zfx Z (kL1 Z Zt) (xd [1] (zfc zd8 hl h1) zfw Z (kL1 Z Zt) (xd [] (zc6 hl) zfx Z (kL1 Z Zt) (xd [1] (zfc zd8 hl h2) zfw Z (kL1 Z Zt) (xai Z (xai Z (dA (xmi Z (xmi Z ?_))))))))
 refine TL.min2 Z Z Z Z (xmi Z (xmi Z (TL.max2 Z Z Z Z (TL.bsN 2 [_,_] ([.int .i64 (min x y),.int .i64 (max x y)]) zah zeV ⟨Z,Z,Zt⟩ Z (lit2) Z Z (fun bk2=>⟨Zt,?_⟩)))))
 refine TL.conseq 2 (B:=ownA Tm.encI 1 3 (.slice (some ⟨bk2,0,none⟩) 2 2) (#[min x y,max x y])) Z (fun h hh=>zvr hh) Zt (TL.call [2] [2] (zj3 (n:=2) (d:=#[min x y,max x y]) (by decide) Z) ⟨Z,Zt⟩ ⟨Z,Zt⟩ ztE Z Z Z Z ?_)
 rintro v Bs ⟨d2,rfl,hd2⟩
 refine ⟨Z,Zt,?_⟩
 obtain rfl:d2=zau x y:=by rw [<-zzF,<-hd2]
 refine xav Z (dR ?_)
 refine FQ.ret1 (v:=_) (Bs:=[_,_,_]) [0,1,2] Z Z Z ⟨Z,Z,Z,Zt⟩ ?_
 rfl
theorem zf7 {rb n c:Nat} {a:Option Addr} {at_:Int} {bad:Bool}:FnD Tryz.prog 19 [.pointer (some ⟨rb,0,none⟩)] [pt rb (.cells #[.slice a n c,.int .i64 (at_),.bool (bad)] 145)] (.bool (decide (at_=(n:Int)))) [pt rb (.cells #[.slice a n c,.int .i64 (at_),.bool (bad)] 145)]:=by
 refine Fn.enter (Tryz.func19) Z Z (fun w0 R=>?_)
 refine sA (xaf Z (dS (TC.draw (od [1,3,5,7,9,11,13,15,17,19,21]) [0] fc_m (by kernel_rfl) (xmp Z (xN0 Z (xf 1 zcB Z (xli 0 zaa Z Z (xmp Z ?_))))))))
 refine xN0 Z (xf 0 zjH Z (xls 0 zco Z Z (xz zal Z (TL.eqlV Z Z Z Z (xab Z (dR ?_))))))
 refine FQ.ret1 (v:=(.bool _)) (Bs:=[_]) [0] Z Z Z ⟨Z,Zt⟩ ?_
 exact ⟨Z,Z⟩
theorem zmG {rb n c:Nat} {a:Option Addr} {at_:Int} {bad:Bool}:FnD Tryz.prog 21 [.pointer (some ⟨rb,0,none⟩)] [pt rb (.cells #[.slice a n c,.int .i64 (at_),.bool (bad)] 145)] (.int .i64 at_) [pt rb (.cells #[.slice a n c,.int .i64 (at_),.bool (bad)] 145)]:=by
 refine Fn.enter (Tryz.func21) Z Z (fun w0 R=>?_)
 refine sA (xai Z (dA (xmp Z (xN0 Z (xf 1 zcB Z (xli 0 zaa Z Z (xai Z (dR ?_))))))))
 refine FQ.ret1 (v:=(.int _ _)) (Bs:=[_]) [0] Z Z Z ⟨Z,Zt⟩ ?_
 exact ⟨Z,Z⟩
theorem zld {rb n c:Nat} {a:Option Addr} {at_:Int} {bad:Bool}:FnD Tryz.prog 22 [.pointer (some ⟨rb,0,none⟩)] [pt rb (.cells #[.slice a n c,.int .i64 (at_),.bool (bad)] 145)] (.bool (!bad)) [pt rb (.cells #[.slice a n c,.int .i64 (at_),.bool (bad)] 145)]:=by
 refine Fn.enter (Tryz.func22) Z Z (fun w0 R=>?_)
 refine sA (xaf Z (dA (xmp Z (xN0 Z (xf 2 zft Z (xlb 0 zem Z Z (TL.not _ _ Z Z Z Z (xab Z ?_))))))))
 refine dR ?_
 refine FQ.ret1 (v:=(.bool _)) (Bs:=[_]) [0] Z Z Z ⟨Z,Zt⟩ ?_
 exact ⟨Z,Z⟩
theorem zjn {a:Option Addr} {b off n c:Nat} {A:Assn} {f:Nat->Acc} (ha:0<n->a=some ⟨b,off,none⟩) (hn:n<=137438953471) (hA:za8 A zax 3 b off n f):Go.Eng.Fn Tryz.prog 18 [.slice a n c] [A] (fun x Bs=>∃ rb v,x=.pointer (some ⟨rb,0,none⟩)/\Bs=[A,pt rb (.cells #[v,.int .i64 (0),.bool (false)] 145),ownA zax 3 34 (v) (((List.range n).map f).toArray)]):=by
 refine Fn.enter (Tryz.func18) Z Z (fun w0 R=>?_)
 refine sA (TL.asg (.pointer none) Z Z Z (dA (xms Z (TL.call [0] [0,1] (zno ha hn hA) ⟨Z,Zt⟩ ⟨Z,Zt⟩ zwY Z Z Z Z ?_))))
 rintro v Bs rfl
 refine ⟨Z,Zt,?_⟩
 refine TL.ownW 1 Z (fun a7 g7 c7 hv7 hc7 ha7=>?_)
 cases hv7
 refine TL.bld [.slice none 0 0,.int .i64 0,.bool false] [_] [_,_,_] zyA zyL ⟨Z,Zt⟩ ⟨Z,Z⟩ Z Z (xB 2 Z (fun bk2=>(xap Z (dR ?_))))
 refine FQ.ret1 (v:=(.pointer (some ⟨_,_,none⟩))) (Bs:=[A,_,_]) [0,2,1] Z Z Z ⟨Z,Z,Z,Zt⟩ ?_
 exact ⟨_,_,Z,Z⟩
theorem zqH {ab mb:Nat} {a:Option Addr} {b off c:Nat} {A:Assn} {σ:Array UInt64} {x:Acc} (ha:0<1->a=some ⟨b,off,none⟩) (hA:za8 A zax 3 b off 1 (fun _=>x)) (hv:0<=x.val/\x.val<18446744073709551616):FnD Tryz.prog 84 [.iface 149 (.agg #[.pointer (some ⟨ab,0,none⟩)]),.slice a 1 c] [zap ab mb 139 29 (σ),A] (.tuple #[.int .i64 (if accG x σ=true then 1 else 0),.bool (accG x σ)]) [zap ab mb 139 29 (acc1 x σ),A]:=by
 refine Fn.enter (Tryz.func84) Z Z (fun w0 R=>?_)
 refine sA (xai rfl (xaf rfl (dB (xms rfl (xz zal rfl (xmi rfl (dK (TC.loopK (X:=Nat) [0,1,8,9] [1] (fun k=>[(10,.int .i64 ((k:Nat):Int))]) (fun k=>[(0,zap ab mb 139 29 (accJ x σ k))]) (fun k=>k<=1/\(k=1->accG x σ=true)) (fun k=>1 - k) (0) ⟨Nat.zero_le _,fun h=>by cases h⟩ ⟨rfl,trivial⟩ ⟨rfl,trivial⟩ (fun k hI=>?_)))))))))
 obtain ⟨hk,hg⟩:=hI
 refine TC.sub (env':=[(10,_),(0,_),(1,_),(8,_),(9,_)]) (L':=[(0,_),(1,_)]) ⟨Z,Z,Z,Z,Z,Zt⟩ ⟨Z,Z,Zt⟩ (sA (TL.lss Z Z Z Z (fun q1=>?_) (fun q1=>?_)))
 refine dS (TC.condT Z (TC.skip (TQ.then (TC.seq (TC.block (TC.seq ?_))))))
 obtain rfl:k=0:=by omega
 refine TC.region (xmi Z (TL.iaO Z ha Z zal (by omega) Z Z (TL.ldR 1 Z Z hA (by omega) zbR Z Z (TL.alloc 2 (cs:=#[.bool false,.int .i64 0,.int .u64 0]) zek Z Z Z (fun _=>Zt) (fun bk2=>(xai Z (TL.stW 2 3 [_,_,_] Z Z Z Z Z Z zbR Z Z Zt (dK (sA ?_)))))))))
 refine xf 0 zdx Z (xlb 2 zem Z Z (xab Z (TL.done (TQ.then (TC.cond Z (fun q2=>?_) (fun q2=>?_))))))
 refine TC.region (xmc Z (xf 1 zbt Z (xli 2 zaa Z Z (xf 2 zkK Z (xli 2 zik Z Z (TL.mstore 0 zfD Z Z Z hv Z Z Z Zt (TL.done (TQ.inBlock ?_))))))))
 refine TQ.inBlock (TQ.then (TC.region (TL.add (((0+1:Nat):Int)) Z Z (wrN (by omega)) Z Z (xmi Z (TL.done (TQ.roundK (0+1) ⟨⟨by omega,fun _=>zuK (by assumption)⟩,by omega⟩ ⟨Z,Zt⟩ ⟨congrArg (fun z=>some (zap ab mb 139 29 (z))) (zA8 (by assumption)),Zt⟩ (kE4 Z Z Z Z Zt) (kL1 Z Zt)))))))
 refine TC.seq (TC.draw (od [1,3,5,9,11,6,13,15]) [2] fc_m (by kernel_rfl) (xmc Z (xf 1 zbt Z (xli 2 zaa Z Z (xf 2 zkK Z (xli 2 zik Z Z (TL.mload 0 zfD Z Z Z Z Z (kL1 Z Zt) (TL.neq Z Z Z Z (fun q3=>?_) (fun q3=>?_)))))))))
 refine xat Z (dT Z (xmi Z (xai Z (xaf Z (dR (TQ.blockRet (TQ.blockRet (TQ.thenRet ?_))))))))
 refine TQ.thenRet (TQ.blockRet (TQ.thenRet ?_))
 refine FQ.ret2 (v:=(.int _ _)) (x:=(.bool false)) (Bs:=[_,A]) [0,1] Z Z Z Z ⟨Z,Z,Zt⟩ ?_
 have h9:=zA9 (σ:=σ) (x:=x) (by assumption) (by assumption)
 exact ⟨by rw [h9]; rfl,by rw [<-zuL (by assumption)]; rfl⟩
 refine xaf Z (TL.done (TQ.then (TC.condF Z (TC.skip (TQ.inBlock (TQ.inBlock (TQ.then (TC.region ?_))))))))
 refine TL.add (((0+1:Nat):Int)) Z Z (wrN (by omega)) Z Z (xmi Z (TL.done (TQ.roundK (0+1) ⟨⟨by omega,fun _=>zuJ (Decidable.not_not.1 (by assumption))⟩,by omega⟩ ⟨Z,Zt⟩ ⟨congrArg (fun z=>some (zap ab mb 139 29 (z))) (zxg (by assumption)),Zt⟩ (kE4 Z Z Z Z Zt) (kL1 Z Zt))))
 refine dS (TC.condF Z (TC.exit (TQ.thenExit (TQ.thenExit (TQ.blockHere (TQ.then (sA (xms Z ?_))))))))
 refine xz zal Z (xai Z (xat Z (dR ?_)))
 refine FQ.ret2 (v:=(.int _ _)) (x:=(.bool true)) (Bs:=[_,A]) [0,1] Z Z Z Z ⟨Z,Z,Zt⟩ ?_
 obtain rfl:k=1:=by omega
 exact ⟨by rw [hg Z]; rfl,Z⟩
theorem znO {rb ab mb c k g:Nat} {a:Option Addr} {bad:Bool} {d:Array Acc} {σ:Array UInt64} (hn:d.size<=137438953471) (hac:d.size<=c) (ha:0<d.size->a=some ⟨g,0,none⟩) (hk:k<d.size) (hv:∀ i,i<d.size->0<=d[i]!.val/\d[i]!.val<18446744073709551616):FnD Tryz.prog 20 [.pointer (some ⟨rb,0,none⟩),.pointer (some ⟨ab,0,none⟩)] [pt rb (.cells #[.slice a d.size c,.int .i64 (((k:Nat):Int)),.bool (bad)] 145),ownA zax 3 34 (.slice a d.size c) (d),zap ab mb 139 29 (σ)] (.bool (decide (k+1=d.size))) [pt rb (.cells #[.slice a d.size c,.int .i64 (((k+1:Nat):Int)),.bool (bad || !accG d[k]! σ)] 145),ownA zax 3 34 (.slice a d.size c) (d),zap ab mb 139 29 (acc1 d[k]! σ)]:=by
 refine Fn.enter (Tryz.func20) Z Z (fun w0 R=>?_)
 refine sA (xaf Z (dB (xmp Z (xD [0] zf7 zkM Z ?_))))
 rw [decide_eq_false (show ¬((k:Nat):Int)=(d.size:Int) by omega)]
 refine TL.done (TQ.then (TC.condF Z (TC.skip (TQ.then (TC.seq (TC.draw (od [1,7,9,11,13,15,17,19,21,23,25,27,29,31,33,2,5,34,37,39,41,43,45]) [0] fc_m (by kernel_rfl) (xmp Z (xmp Z ?_))))))))
 refine xN0 Z (xf 0 zjH Z (xls 0 zco Z Z (xmp Z (xN0 Z (xf 1 zcB Z (xli 0 zaa Z Z (xmp Z (xN0 Z ?_))))))))
 refine xf 1 zcB Z (xli 0 zaa Z Z (TL.add (((k+1:Nat):Int)) Z Z (wrN (by omega)) Z Z (TL.slLH Z Z Z zal (by omega) (by omega) Z Z (xd [] zfj zjK Z (kL1 Z Zt) (TL.miN (v:=(.agg _)) Z zgI Z Z ?_)))))
 have e9:k+1 - k=1:=by omega
 rw [e9]
 refine xd [2,1] (zqH (x:=d[k]!) (fun _=>zfL ha (by omega) (by omega)) (((zas ha).drop k 1 (by omega)).congr fun i hi=>by obtain rfl:i=0:=(by omega); rfl) (hv k hk)) zAK rfl (kL1 rfl trivial) (xmu rfl (xei rfl rfl (TL.ext (.bool _) rfl rfl rfl rfl (xai rfl (xab rfl (dA (xmp rfl (xmp rfl ?_))))))))
 refine xN0 rfl (xf 2 zft rfl (xlb 0 zem rfl rfl (xmb rfl (TL.cases rfl (fun q1=>?_) (fun q1=>?_)))))
 refine xo Z (xo Z (xpT Z (xN0 Z (xf 2 zft Z (TL.st 0 #[_,_,_] (.bool true) Z Z Z Z Z Z zem Z Z Zt (dA (xmp Z (xN0 Z ?_))))))))
 refine xf 1 zcB Z (xli 0 zaa Z Z (TL.add (((k+1:Nat):Int)) Z Z (wrN (by omega)) Z Z (xN0 Z (xf 1 zcB Z (TL.st 0 #[_,_,_] (.int _ _) Z Z Z Z Z Z zaa Z Z Zt (dA (xmp Z (xD [0] zf7 zkM Z ?_))))))))
 refine xab Z (dR ?_)
 refine FQ.ret1 (v:=(.bool _)) (Bs:=[_,_,_]) [0,1,2] Z Z Z ⟨Z,Z,Z,Zt⟩ ?_
 exact ⟨congrArg Value.bool (decide_eq_decide.2 (by omega)),by first | rfl | (simp only [*]; rfl) | simp [*]⟩
 refine xmb Z (TL.not _ _ Z Z Z Z (TL.pickF (.bool _) Z Z Z Z (xN0 Z (xf 2 zft Z (TL.st 0 #[_,_,_] (.bool _) Z Z Z Z Z Z zem Z Z Zt (dA (xmp Z (xN0 Z ?_))))))))
 refine xf 1 zcB Z (xli 0 zaa Z Z (TL.add (((k+1:Nat):Int)) Z Z (wrN (by omega)) Z Z (xN0 Z (xf 1 zcB Z (TL.st 0 #[_,_,_] (.int _ _) Z Z Z Z Z Z zaa Z Z Zt (dA (xmp Z (xD [0] zf7 zkM Z ?_))))))))
 refine xab Z (dR ?_)
 refine FQ.ret1 (v:=(.bool _)) (Bs:=[_,_,_]) [0,1,2] Z Z Z ⟨Z,Z,Z,Zt⟩ ?_
 exact ⟨congrArg Value.bool (decide_eq_decide.2 (by omega)),by first | rfl | (simp only [*]; rfl) | simp [*]⟩
set_option maxHeartbeats 2000000 in
theorem zuQ {l:Lay} (hl:l.Ok) {wb tb:Nat} {hv:Value} {p:Pen} {u v:Int} {a:Option Addr} {b off n c pn:Nat} {A:Assn} {d:Array Acc} (ha:0<n->a=some ⟨b,off,none⟩) (hn:n<=137438953471) (hsz:d.size=n) (hA:za8 A zax 3 b off n (fun i=>d[i]!)) (hpn:pn<=n) (hnc:n<=c):Go.Eng.Fn Tryz.prog 159 [.pointer (some ⟨wb,0,none⟩),.slice a n c,.int .i64 (pn:Int)] [zgm 198 wb tb 186 (hv) l p (u) (v),A] (fun x Bs=>∃ v9,x=.tuple #[v9,.int .i64 (zgH l d pn).2]/\Bs=[zgm 198 wb tb 186 (hv) l p (u) (v),A,ownA zax 3 34 (v9) ((zgH l d pn).1)]):=by
 have hnb:=zaD hl
 have hsl:=zdI l l.nodes.toNat
 obtain ⟨SA,hSA⟩:∃ SA,SA=zav l l.nodes.toNat:=⟨_,rfl⟩
 rw [<-hSA] at hsl
 refine Fn.enter (Tryz.func159) Z Z (fun w0 R=>?_)
 refine sA (TL.asg (.slice none 0 0) Z Z Z (xai Z (dA (TL.mkMA 2 (fun z:Int=>.int .i64 z) (intV) Z Z (fun bk2=>⟨Zt,?_⟩)))))
 refine TL.mkMA 3 (fun z:Int=>.int .i64 z) (intV) Z Z (fun bk3=>⟨Zt,?_⟩)
 refine TL.asg (.map _) Z Z Z (TL.asg (.map _) Z Z Z (dB (xmp Z (TL.call [0] [0,4] (ziW hl) ⟨Z,Zt⟩ ⟨Z,Zt⟩ zox Z Z Z Z ?_))))
 rintro x Bs rfl
 refine ⟨Z,Zt,?_⟩
 rw [<-hSA]
 refine TL.ownW 4 Z (fun a6 g6 c6 hv6 hc6 ha6=>?_)
 cases hv6
 refine xz zah Z (xmi Z (dK (TC.loopK (X:=Nat) [0,1,2,6,7,8,9,26,27] [0,1,4] (fun k=>[(28,.int .i64 ((k:Nat):Int))]) (fun k=>[(2,mapA bk2 (fun z:Int=>.int .i64 z) intV ((zgF l d pn SA (k)).1)),(3,mapA bk3 (fun z:Int=>.int .i64 z) intV ((zgF l d pn SA (k)).2))]) (fun k=>k<=SA.size) (fun k=>SA.size - k) (0) (Nat.zero_le _) ⟨Z,Zt⟩ ⟨Z,Z,Zt⟩ (fun k hI=>(TC.sub (env':=[(28,_),(0,_),(1,_),(2,_),(6,_),(7,_),(8,_),(9,_),(26,_),(27,_)]) (L':=[(2,_),(3,_),(0,_),(1,_),(4,_)]) ⟨Z,Z,Z,Z,Z,Z,Z,Z,Z,Z,Zt⟩ ⟨Z,Z,Z,Z,Z,Zt⟩ (sA ?_))))))
 refine TL.lss Z Z Z Z (fun q1=>?_) (fun q1=>?_)
 refine dS (TC.condT Z (TC.skip (TQ.then (TC.seq (TC.block (sA (TL.iaO Z ha6 Z zah (by omega) Z Z (TL.ldRS 4 (.int _ _) Z Z (zas ha6) (by omega) (Z) zaa Z Z ?_))))))))
 refine xai Z (dA (xmp Z (xN0 Z (xf 1 zbo Z (xL3 0 zac Z Z (xmi Z (xD [] (zba hl) zcp Z (xai Z ?_))))))))
 refine dA (xms Z (xmi Z (TL.slHi Z Z zal (by omega) Z Z (xz zal Z (xmi Z (dK (TC.loopK (X:=Nat) [0,1,2,6,7,8,9,12,26,27,28,40,41] [0,1,4] (fun i=>[(42,.int .i64 ((i:Nat):Int))]) (fun i=>[(2,mapA bk2 (fun z:Int=>.int .i64 z) intV ((zdS d (l.field SA[k]! 2) (i) (zgF l d pn SA (k))).1)),(3,mapA bk3 (fun z:Int=>.int .i64 z) intV ((zdS d (l.field SA[k]! 2) (i) (zgF l d pn SA (k))).2))]) (fun i=>i<=pn) (fun i=>pn - i) (0) (Nat.zero_le _) ⟨Z,Zt⟩ ⟨Z,Z,Zt⟩ (fun i hI=>?_))))))))
 refine TC.sub (env':=[(42,_),(0,_),(1,_),(2,_),(6,_),(7,_),(8,_),(9,_),(12,_),(26,_),(27,_),(28,_),(40,_),(41,_)]) (L':=[(2,_),(3,_),(0,_),(1,_),(4,_)]) ⟨Z,Z,Z,Z,Z,Z,Z,Z,Z,Z,Z,Z,Z,Z,Zt⟩ ⟨Z,Z,Z,Z,Z,Zt⟩ (sA (TL.lss Z Z Z Z (fun q2=>?_) (fun q2=>?_)))
 refine dS (TC.condT Z (TC.skip (TQ.then (TC.seq (TC.block (sA (xmi Z (TL.iaO Z (fun _=>zfL ha hnc (by omega)) Z zal (by omega) Z Z ?_))))))))
 refine TL.ldR 1 Z Z (hA.take hpn) (by omega) zbR Z Z (TL.alloc 5 (cs:=#[.bool false,.int .i64 0,.int .u64 0]) zek Z Z Z (fun _=>Zt) (fun bk5=>(xai Z (TL.stW 5 3 [_,_,_] Z Z Z Z Z Z zbR Z Z Zt (dB (xf 0 zdx Z (xlb 5 zem Z Z (TL.not _ _ Z Z Z Z (xmb Z ?_)))))))))
 refine TL.cases rfl (fun q3=>?_) (fun q3=>?_)
 refine xo Z (xo Z (xo Z (xo Z (xpT Z (TL.done (TQ.then (TC.condT Z (TC.exit ?_))))))))
 refine TQ.thenExit (TQ.blockHere (TQ.then (TC.region (TL.add (((i+1:Nat):Int)) Z Z (wrN (by omega)) Z Z (xmi Z (TL.done (TQ.roundK (i+1) ⟨by omega,by omega⟩ ⟨Z,Zt⟩ ⟨congrArg (fun z:List (Int×Int)×List (Int×Int)=>some (mapA bk2 (fun z:Int=>.int .i64 z) intV (z.1))) (ziE (row:=d) (i:=i) (fun h9=>by simp_all)),congrArg (fun z:List (Int×Int)×List (Int×Int)=>some (mapA bk3 (fun z:Int=>.int .i64 z) intV (z.2))) (ziE (row:=d) (i:=i) (fun h9=>by simp_all)),Zt⟩ (kE8 Z Z Z Z Z Z Z Z (kE5 Z Z Z Z Z Zt)) (kL3 Z Z Z Zt))))))))
 refine xf 1 zbt Z (xli 5 zaa Z Z (xmi Z (TL.neq Z Z Z Z (fun q4=>?_) (fun q4=>?_))))
 refine xpH Z (TL.done (TQ.then (TC.condT Z (TC.exit (TQ.thenExit (TQ.blockHere (TQ.then (TC.region ?_))))))))
 refine TL.add (((i+1:Nat):Int)) Z Z (wrN (by omega)) Z Z (xmi Z (TL.done (TQ.roundK (i+1) ⟨by omega,by omega⟩ ⟨Z,Zt⟩ ⟨congrArg (fun z:List (Int×Int)×List (Int×Int)=>some (mapA bk2 (fun z:Int=>.int .i64 z) intV (z.1))) (ziE (row:=d) (i:=i) (fun h9=>by simp_all)),congrArg (fun z:List (Int×Int)×List (Int×Int)=>some (mapA bk3 (fun z:Int=>.int .i64 z) intV (z.2))) (ziE (row:=d) (i:=i) (fun h9=>by simp_all)),Zt⟩ (kE8 Z Z Z Z Z Z Z Z (kE5 Z Z Z Z Z Zt)) (kL3 Z Z Z Zt))))
 refine xpF Z (TL.done (TQ.then (TC.condF Z (TC.skip (TQ.then (sB (TL.mv (.map _) Z Z Z (xmi Z ?_))))))))
 refine TL.lkD2 2 (q:=l.field SA[k]! 2) ((0:Int)) rfl rfl rfl zcD (zig zaQ) zeV rfl rfl trivial (xmu rfl (xei rfl rfl (TL.ext (.bool _) rfl rfl rfl rfl (xai rfl (xab rfl (dA (xmb rfl (TL.cases rfl (fun q5=>?_) (fun q5=>?_)))))))))
 refine xnt Z (TL.done (TQ.then (TC.condF Z (TC.skip (TQ.then (TC.region (TL.mv (.map _) Z Z Z (xmi Z ?_))))))))
 refine xmi Z (TL.muA 3 (q:=l.field SA[k]! 2) (b:=(i:Int)) Z Z Z Z zcD (zig zaQ) Z Z Zt (dI (TL.add (((i+1:Nat):Int)) Z Z (wrN (by omega)) Z Z (xmi Z (TL.done ?_)))))
 refine TQ.roundK (i+1) ⟨by omega,by omega⟩ ⟨Z,Zt⟩ ⟨congrArg (fun z=>some (mapA bk2 (fun z:Int=>.int .i64 z) intV (z))) (zmP (show d[i]!.store=true by simpa using q3) (show d[i]!.cell=l.field SA[k]! 2 from Decidable.not_not.1 q4) q5).1,congrArg (fun z=>some (mapA bk3 (fun z:Int=>.int .i64 z) intV (z))) (zmP (show d[i]!.store=true by simpa using q3) (show d[i]!.cell=l.field SA[k]! 2 from Decidable.not_not.1 q4) q5).2,Zt⟩ (kE8 Z Z Z Z Z Z Z Z (kE5 Z Z Z Z Z Zt)) (kL3 Z Z Z Zt)
 refine xnf Z (TL.done (TQ.then (TC.condT Z (TC.region (TL.mv (.map _) Z Z Z (xmi Z (xmi Z (TL.muA 2 (q:=l.field SA[k]! 2) (b:=(i:Int)) Z Z Z Z zcD (zig zaQ) Z Z Zt ?_))))))))
 refine dG (TL.mv (.map _) Z Z Z (xmi Z (xmi Z (TL.muA 3 (q:=l.field SA[k]! 2) (b:=(i:Int)) Z Z Z Z zcD (zig zaQ) Z Z Zt (dI (TL.add (((i+1:Nat):Int)) Z Z (wrN (by omega)) Z Z (xmi Z (TL.done ?_))))))))
 refine TQ.roundK (i+1) ⟨by omega,by omega⟩ ⟨Z,Zt⟩ ⟨congrArg (fun z=>some (mapA bk2 (fun z:Int=>.int .i64 z) intV (z))) (zmQ (show d[i]!.store=true by simpa using q3) (show d[i]!.cell=l.field SA[k]! 2 from Decidable.not_not.1 q4) q5).1,congrArg (fun z=>some (mapA bk3 (fun z:Int=>.int .i64 z) intV (z))) (zmQ (show d[i]!.store=true by simpa using q3) (show d[i]!.cell=l.field SA[k]! 2 from Decidable.not_not.1 q4) q5).2,Zt⟩ (kE8 Z Z Z Z Z Z Z Z (kE5 Z Z Z Z Z Zt)) (kL3 Z Z Z Zt)
 refine dS (TC.condF Z (TC.exit (TQ.thenExit (TQ.thenExit (TQ.blockHere (TQ.inBlock (TQ.then (TC.region ?_))))))))
 refine TL.add (((k+1:Nat):Int)) rfl rfl (wrN (by omega)) rfl rfl (xmi rfl (TL.done (TQ.roundK (k+1) ⟨by omega,by omega⟩ ⟨rfl,trivial⟩ ⟨by obtain rfl:i=pn:=(by omega); rfl,by obtain rfl:i=pn:=(by omega); rfl,trivial⟩ (kE8 rfl rfl rfl rfl rfl rfl rfl rfl (kE1 rfl trivial)) (kL3 rfl rfl rfl trivial))))
 refine dS (TC.condF Z (TC.exit (TQ.thenExit (TQ.thenExit (TQ.blockHere (TQ.then (TC.seq ?_)))))))
 obtain rfl:k=SA.size:=by omega
 obtain ⟨Q,hQ⟩:∃ Q,Q=zgF l d pn SA (SA.size):=⟨_,rfl⟩
 rw [<-hQ]
 refine TC.region (TL.asg (.slice none 0 0) Z Z Z (dS (TC.nilA 6 (A:=ownA zax 3 34 (.slice none 0 0) #[]) (.inl ⟨Z,Z⟩) (TC.region (xai Z (dB (xms Z (xz zal Z ?_))))))))
 refine xmi Z (dK (TC.loopK (X:=Nat×Value) [2,6,7,8,9,72,73] [0,1,2,3,4] (fun ⟨k,v7⟩=>[(74,.int .i64 ((k:Nat):Int)),(17,v7),(18,.int .i64 (onceO d pn Q (k)).2)]) (fun ⟨k,v7⟩=>[(6,ownA zax 3 34 (v7) ((onceO d pn Q (k)).1))]) (fun ⟨k,v7⟩=>k<=n) (fun ⟨k,v7⟩=>n - k) ((0,.slice none 0 0)) (Nat.zero_le _) ⟨Z,Z,Z,Zt⟩ ⟨Z,Zt⟩ (fun y hI=>?_)))
 obtain ⟨k,v7⟩:=y
 replace hI:k<=n:=hI
 refine TC.sub (env':=[(74,_),(17,_),(18,_),(2,_),(6,_),(7,_),(8,_),(9,_),(72,_),(73,_)]) (L':=[(6,_),(0,_),(1,_),(2,_),(3,_),(4,_)]) ⟨Z,Z,Z,Z,Z,Z,Z,Z,Z,Z,Zt⟩ ⟨Z,Z,Z,Z,Z,Z,Zt⟩ (sA (TL.lss Z Z Z Z (fun q2=>?_) (fun q2=>?_)))
 refine dS (TC.condT Z (TC.skip (TQ.then (TC.seq (TC.block (sA (xmi Z (TL.iaO Z ha Z zal (by omega) Z Z ?_))))))))
 refine TL.ldR 1 Z Z hA (by omega) zbR Z Z (TL.alloc 7 (cs:=#[.bool false,.int .i64 0,.int .u64 0]) zek Z Z Z (fun _=>Zt) (fun bk7=>(xai Z (TL.stW 7 3 [_,_,_] Z Z Z Z Z Z zbR Z Z Zt (dB (xmi Z (xmi Z (TL.eql Z Z Z Z (fun q3=>?_) (fun q3=>?_)))))))))
 refine TL.done (TQ.then (TC.condT Z (TC.ownW 6 Z (fun a7 g7 c7 hv7 hc7 ha7=>?_))))
 cases hv7
 refine TC.region (xmv Z (xz zal Z (xai Z (dB (TL.mv (.map _) Z Z Z (xf 1 zbt Z (xli 7 zaa Z Z (TL.lkD2 2 (q:=d[k]!.cell) ((0:Int)) Z Z Z zcD (zig zaQ) zeV Z Z Zt ?_))))))))
 refine xmu rfl (xei rfl rfl (TL.ext (.bool _) rfl rfl rfl rfl (xai rfl (xab rfl (dA (xmb rfl (TL.cases rfl (fun q4=>?_) (fun q4=>?_))))))))
 refine xmt Z (xmi Z (xmi Z (TL.geq Z Z Z Z (fun q5=>?_) (fun q5=>?_))))
 refine xpT Z (xmt Z (xmi Z (TL.mv (.map _) Z Z Z (xf 1 zbt Z (xli 7 zaa Z Z (TL.lkD1 3 (q:=d[k]!.cell) ((0:Int)) Z Z Z zcD (zig zaQ) zeV Z Z Zt (TL.lss Z Z Z Z (fun q6=>?_) (fun q6=>?_))))))))
 refine xpT Z (TL.done (TQ.then (TC.condT Z (TC.exit (TQ.thenExit (TQ.blockHere (TQ.then (TC.region ?_))))))))
 refine TL.add (((k+1:Nat):Int)) Z Z (wrN (by omega)) Z Z (xmi Z (TL.done (TQ.roundK ((k+1,_)) ⟨(show k+1<=n by omega),(show n - (k+1)<n - k by omega)⟩ ⟨Z,Z,congrArg (fun z=>some (Value.int .i64 z)) (zlq (by assumption)),Zt⟩ ⟨congrArg (fun z=>some (ownA zax 3 34 (_) (z))) (zsn (zmu (by assumption) (by assumption) (by assumption))),Zt⟩ (kE7 Z Z Z Z Z Z Z Zt) (kL5 Z Z Z Z Z Zt))))
 refine xpG Z (TL.done (TQ.then (TC.condF Z (TC.skip (TQ.then (TC.region (xmv Z (xL3 7 zbR Z Z ?_))))))))
 refine TL.bsN 8 [_] (zax d[k]!) zal zek ⟨Z,Zt⟩ Z (lit1 Z) Z Z (fun bk8=>⟨Zt,?_⟩)
 refine TL.appS 6 8 (d2:=#[d[k]!]) Z (Z) Z (fun _=>Z) Z Z (row1 Z) zcK (by decide) zcc (by have:=zfg (row:=d) (pt:=pn) (q:=Q) k; simp; omega) Z Z (fun v9=>⟨Zt,?_⟩)
 refine xav Z (dI (TL.add (((k+1:Nat):Int)) Z Z (wrN (by omega)) Z Z (xmi Z (TL.done (TQ.roundK ((k+1,_)) ⟨(show k+1<=n by omega),(show n - (k+1)<n - k by omega)⟩ ⟨Z,Z,congrArg (fun z=>some (Value.int .i64 z)) (zlq (by assumption)),Zt⟩ ⟨congrArg (fun z=>some (ownA zax 3 34 (_) (z))) (zhK (zo4 (by assumption))),Zt⟩ (kE7 Z Z Z Z Z Z Z Zt) (kL5 Z Z Z Z Z Zt))))))
 refine xpG Z (xmf Z (xo Z (xo Z (xo Z (xo Z (xo Z (xo Z (xpF Z ?_))))))))
 refine TL.done (TQ.then (TC.condF Z (TC.skip (TQ.then (TC.region (xmv Z (xL3 7 zbR Z Z (TL.bsN 10 [_] (zax d[k]!) zal zek ⟨Z,Zt⟩ Z (lit1 Z) Z Z (fun bk10=>⟨Zt,?_⟩)))))))))
 refine TL.appS 6 10 (d2:=#[d[k]!]) Z (Z) Z (fun _=>Z) Z Z (row1 Z) zcK (by decide) zcc (by have:=zfg (row:=d) (pt:=pn) (q:=Q) k; simp; omega) Z Z (fun v11=>⟨Zt,?_⟩)
 refine xav Z (dI (TL.add (((k+1:Nat):Int)) Z Z (wrN (by omega)) Z Z (xmi Z (TL.done (TQ.roundK ((k+1,_)) ⟨(show k+1<=n by omega),(show n - (k+1)<n - k by omega)⟩ ⟨Z,Z,congrArg (fun z=>some (Value.int .i64 z)) (zlq (by assumption)),Zt⟩ ⟨congrArg (fun z=>some (ownA zax 3 34 (_) (z))) (zhK (zo5 (by assumption))),Zt⟩ (kE7 Z Z Z Z Z Z Z Zt) (kL5 Z Z Z Z Z Zt))))))
 refine xmf Z (xo Z (xo Z (xo Z (xpF Z (xmf Z (xo Z (xo Z (xo Z ?_))))))))
 refine xo Z (xo Z (xo Z (xpF Z (TL.done (TQ.then (TC.condF Z (TC.skip (TQ.then ?_))))))))
 refine TC.region (xmv Z (xL3 7 zbR Z Z (TL.bsN 12 [_] (zax d[k]!) zal zek ⟨Z,Zt⟩ Z (lit1 Z) Z Z (fun bk12=>⟨Zt,?_⟩))))
 refine TL.appS 6 12 (d2:=#[d[k]!]) Z (Z) Z (fun _=>Z) Z Z (row1 Z) zcK (by decide) zcc (by have:=zfg (row:=d) (pt:=pn) (q:=Q) k; simp; omega) Z Z (fun v13=>⟨Zt,?_⟩)
 refine xav Z (dI (TL.add (((k+1:Nat):Int)) Z Z (wrN (by omega)) Z Z (xmi Z (TL.done (TQ.roundK ((k+1,_)) ⟨(show k+1<=n by omega),(show n - (k+1)<n - k by omega)⟩ ⟨Z,Z,congrArg (fun z=>some (Value.int .i64 z)) (zlq (by assumption)),Zt⟩ ⟨congrArg (fun z=>some (ownA zax 3 34 (_) (z))) (zhK (zo6 (by assumption))),Zt⟩ (kE7 Z Z Z Z Z Z Z Zt) (kL5 Z Z Z Z Z Zt))))))
 refine TL.done (TQ.then (TC.condF Z (TC.skip (TQ.then (sB (TL.mv (.map _) Z Z Z (xf 1 zbt Z (xli 7 zaa Z Z ?_))))))))
 refine TL.lkD2 2 (q:=d[k]!.cell) ((0:Int)) rfl rfl rfl zcD (zig zaQ) zeV rfl rfl trivial (xmu rfl (xei rfl rfl (TL.ext (.bool _) rfl rfl rfl rfl (xai rfl (xab rfl (dA (xmb rfl (TL.cases rfl (fun q4=>?_) (fun q4=>?_)))))))))
 refine xmt Z (xmi Z (xmi Z (TL.geq Z Z Z Z (fun q5=>?_) (fun q5=>?_))))
 refine xpT Z (xmt Z (xmi Z (TL.mv (.map _) Z Z Z (xf 1 zbt Z (xli 7 zaa Z Z (TL.lkD1 3 (q:=d[k]!.cell) ((0:Int)) Z Z Z zcD (zig zaQ) zeV Z Z Zt (TL.lss Z Z Z Z (fun q6=>?_) (fun q6=>?_))))))))
 refine xpT Z (TL.done (TQ.then (TC.condT Z (TC.exit (TQ.thenExit (TQ.blockHere (TQ.then (TC.region ?_))))))))
 refine TL.add (((k+1:Nat):Int)) Z Z (wrN (by omega)) Z Z (xmi Z (TL.done (TQ.roundK ((k+1,_)) ⟨(show k+1<=n by omega),(show n - (k+1)<n - k by omega)⟩ ⟨Z,Z,congrArg (fun z=>some (Value.int .i64 z)) (zlr (by assumption)),Zt⟩ ⟨congrArg (fun z=>some (ownA zax 3 34 (_) (z))) (zsn (zmu (by assumption) (by assumption) (by assumption))),Zt⟩ (kE7 Z Z Z Z Z Z Z Zt) (kL5 Z Z Z Z Z Zt))))
 refine xpG Z (TL.done (TQ.then (TC.condF Z (TC.skip (TQ.then (TC.region (xmv Z (xL3 7 zbR Z Z ?_))))))))
 refine TL.bsN 14 [_] (zax d[k]!) zal zek ⟨Z,Zt⟩ Z (lit1 Z) Z Z (fun bk14=>⟨Zt,?_⟩)
 refine TL.appS 6 14 (d2:=#[d[k]!]) Z (Z) Z (fun _=>Z) Z Z (row1 Z) zcK (by decide) zcc (by have:=zfg (row:=d) (pt:=pn) (q:=Q) k; simp; omega) Z Z (fun v15=>⟨Zt,?_⟩)
 refine xav Z (dI (TL.add (((k+1:Nat):Int)) Z Z (wrN (by omega)) Z Z (xmi Z (TL.done (TQ.roundK ((k+1,_)) ⟨(show k+1<=n by omega),(show n - (k+1)<n - k by omega)⟩ ⟨Z,Z,congrArg (fun z=>some (Value.int .i64 z)) (zlr (by assumption)),Zt⟩ ⟨congrArg (fun z=>some (ownA zax 3 34 (_) (z))) (zhK (zo4 (by assumption))),Zt⟩ (kE7 Z Z Z Z Z Z Z Zt) (kL5 Z Z Z Z Z Zt))))))
 refine xpG Z (xmf Z (xo Z (xo Z (xo Z (xo Z (xo Z (xo Z (xpF Z ?_))))))))
 refine TL.done (TQ.then (TC.condF Z (TC.skip (TQ.then (TC.region (xmv Z (xL3 7 zbR Z Z (TL.bsN 16 [_] (zax d[k]!) zal zek ⟨Z,Zt⟩ Z (lit1 Z) Z Z (fun bk16=>⟨Zt,?_⟩)))))))))
 refine TL.appS 6 16 (d2:=#[d[k]!]) Z (Z) Z (fun _=>Z) Z Z (row1 Z) zcK (by decide) zcc (by have:=zfg (row:=d) (pt:=pn) (q:=Q) k; simp; omega) Z Z (fun v17=>⟨Zt,?_⟩)
 refine xav Z (dI (TL.add (((k+1:Nat):Int)) Z Z (wrN (by omega)) Z Z (xmi Z (TL.done (TQ.roundK ((k+1,_)) ⟨(show k+1<=n by omega),(show n - (k+1)<n - k by omega)⟩ ⟨Z,Z,congrArg (fun z=>some (Value.int .i64 z)) (zlr (by assumption)),Zt⟩ ⟨congrArg (fun z=>some (ownA zax 3 34 (_) (z))) (zhK (zo5 (by assumption))),Zt⟩ (kE7 Z Z Z Z Z Z Z Zt) (kL5 Z Z Z Z Z Zt))))))
 refine xmf Z (xo Z (xo Z (xo Z (xpF Z (xmf Z (xo Z (xo Z (xo Z ?_))))))))
 refine xo Z (xo Z (xo Z (xpF Z (TL.done (TQ.then (TC.condF Z (TC.skip (TQ.then ?_))))))))
 refine TC.region (xmv Z (xL3 7 zbR Z Z (TL.bsN 18 [_] (zax d[k]!) zal zek ⟨Z,Zt⟩ Z (lit1 Z) Z Z (fun bk18=>⟨Zt,?_⟩))))
 refine TL.appS 6 18 (d2:=#[d[k]!]) Z (Z) Z (fun _=>Z) Z Z (row1 Z) zcK (by decide) zcc (by have:=zfg (row:=d) (pt:=pn) (q:=Q) k; simp; omega) Z Z (fun v19=>⟨Zt,?_⟩)
 refine xav Z (dI (TL.add (((k+1:Nat):Int)) Z Z (wrN (by omega)) Z Z (xmi Z (TL.done (TQ.roundK ((k+1,_)) ⟨(show k+1<=n by omega),(show n - (k+1)<n - k by omega)⟩ ⟨Z,Z,congrArg (fun z=>some (Value.int .i64 z)) (zlr (by assumption)),Zt⟩ ⟨congrArg (fun z=>some (ownA zax 3 34 (_) (z))) (zhK (zo6 (by assumption))),Zt⟩ (kE7 Z Z Z Z Z Z Z Zt) (kL5 Z Z Z Z Z Zt))))))
 refine dS (TC.condF Z (TC.exit (TQ.thenExit (TQ.thenExit (TQ.blockHere (TQ.then (sA (xmv Z ?_))))))))
 refine xmi Z (xav Z (xai Z (dR ?_)))
 refine FQ.ret2 (v:=_) (x:=(.int _ _)) (Bs:=[_,_,_]) [0,1,6] Z Z Z Z ⟨Z,Z,Z,Zt⟩ ?_
 obtain rfl:k=n:=by omega
 exact ⟨_,by subst hQ hSA hsz; rfl,by subst hQ hSA hsz; rfl⟩
theorem zxm {l:Lay} (hl:l.Ok) {wb tb ab mb:Nat} {hv:Value} {p:Pen} {u v:Int} {held:Array Int} {k:Nat} {σ σ1 σ2:Tr} {x y:Int} (hr1:root l k σ (l.vertex 0 u)=some (x,σ1)) (hr2:root l k σ1 (l.vertex 0 v)=some (y,σ2)) (hk:k<=561) (hh2:held.size<=2) (hz:Room 20000 σ):Go.Eng.Fn Tryz.prog 119 [.pointer (some ⟨wb,0,none⟩),.bool false] [zgm 198 wb tb 186 (hv) l p (u) (v),zbk tb ab mb 264 139 29 34 (σ),rowS (hv) (held)] (fun r Bs=>∃ xa xc ya yc B1 B2 B3,r=.agg #[.slice xa ((⟨σ2.row,zeJ σ2.row (l.edge u v) σ2.row.size,false,zau x y⟩:PlanS)).work.size xc,.int .i64 ((⟨σ2.row,zeJ σ2.row (l.edge u v) σ2.row.size,false,zau x y⟩:PlanS)).point,.bool ((⟨σ2.row,zeJ σ2.row (l.edge u v) σ2.row.size,false,zau x y⟩:PlanS)).tree,.slice ya ((⟨σ2.row,zeJ σ2.row (l.edge u v) σ2.row.size,false,zau x y⟩:PlanS)).roots.size yc]/\Bs=[B1,B2,B3,ownA zax 3 34 (.slice xa ((⟨σ2.row,zeJ σ2.row (l.edge u v) σ2.row.size,false,zau x y⟩:PlanS)).work.size xc) (((⟨σ2.row,zeJ σ2.row (l.edge u v) σ2.row.size,false,zau x y⟩:PlanS)).work),rowS (.slice ya ((⟨σ2.row,zeJ σ2.row (l.edge u v) σ2.row.size,false,zau x y⟩:PlanS)).roots.size yc) ((⟨σ2.row,zeJ σ2.row (l.edge u v) σ2.row.size,false,zau x y⟩:PlanS)).roots]):=by
 have hnb:=zaD hl
 have hsl:=zdI l l.nodes.toNat
 have hz2:Room 15000 σ2:=zdU hr2 (zdU hr1 (hz.le (by omega)))
 have hsn:(zav l l.nodes.toNat).size<=560:=by omega
 have hwl:=zdY (x:=x) (y:=y)
 refine Fn.enter (Tryz.func119) Z Z (fun w0 R=>?_)
 refine sA (TL.alloc 3 (cs:=#[.slice none 0 0,.int .i64 0,.bool false,.slice none 0 0]) zb3 Z Z Z (fun _=>Zt) (fun bk3=>(dA (xmf Z (xmp Z (TL.call [0,1] [0,1,4] (zmg hl hr1 hr2 (hz.le (by omega))) ⟨Z,Zt⟩ ⟨Z,Z,Zt⟩ ztP Z Z Z Z ?_))))))
 rintro r Bs rfl
 refine ⟨Z,Zt,?_⟩
 refine TL.rowS 4 Z (fun a8 b8 o8 c8 hv8 hc8 ha8=>⟨Zt,?_⟩)
 cases hv8
 refine TL.bld [.slice none 0 0,.int .i64 0,.bool false,.slice none 0 0] [(.bool false),(.slice _ _ _)] [_,_,_,_] zb3 zeW ⟨Z,Z,Zt⟩ ⟨Z,Z⟩ Z Z (TL.alloc 5 (cs:=#[.slice none 0 0,.int .i64 0,.bool false,.slice none 0 0]) zb3 Z Z Z (fun _=>Zt) (fun bk5=>(TL.stW 5 4 [_,_,_,_] Z Z Z Z Z Z zat Z Z Zt (dB (xmf Z (xnf Z (dT Z (xmp Z (xN0 Z ?_)))))))))
 refine xf 0 zbd Z (xlp 0 zde Z Z (TL.call [1] [1,6] (znC (hz2.le (by omega))) ⟨Z,Zt⟩ ⟨Z,Zt⟩ zoA Z Z Z Z ?_))
 rintro v Bs rfl
 refine ⟨Z,Zt,?_⟩
 refine TL.ownW 6 Z (fun a7 g7 c7 hv7 hc7 ha7=>?_)
 cases hv7
 refine xf 0 zbg Z (TL.st 5 #[_,_,_,_] (.slice _ _ _) Z Z Z Z Z Z zco Z Z Zt (dS (TC.draw2 [(0,true),(1,true),(2,true),(3,true),(4,true),(5,true),(6,true),(7,true),(8,true),(9,true),(10,true),(11,true),(12,true),(13,true),(14,false),(15,false),(16,true)] 17 [] [0,5] fc_m (by kernel_rfl) (xf 0 zbg Z (xls 5 zco Z Z (xmp Z (xN0 Z (xf 1 zbo Z ?_))))))))
 refine xL3 0 zac Z Z (xmp Z (xN0 Z (xf 17 zb5 Z (xli 0 zaa Z Z (xmp Z (xN0 Z (xf 18 zb4 Z (xli 0 zaa Z Z ?_))))))))
 refine xd [] (zjZ hl) zjT Z (kL2 Z Z Zt) (xd [6] (zuR ha7 (by have:=zcV.1 hz2; omega) Z (zas ha7)) zzl Z (kL2 Z Z Zt) (xf 1 zcj Z (TL.late (TL.st 5 #[_,_,_,_] (.int _ _) Z Z Z Z Z Z zaa Z Z Zt (dA (xL4 5 zat Z Z (TL.stW 3 4 [_,_,_,_] Z Z Z Z Z Z zat Z Z Zt (dRR ?_))))))))
 refine TQ.conseq 4 (B:=rowS _ (zau x y)) Z (fun _ h=>⟨_,_,_,_,Z,hc8,ha8,h⟩) ?_
 refine FQ.retG (rs:=[.cell 4 50]) [(.agg _)] (Bs:=[_,_,_,_,_]) [0,1,2,6,4] Z ⟨⟨_,_,_,_,_,3,Z,Z,.inr ⟨4,[_,_,_,_],zat,Z,Z⟩⟩,Zt⟩ Z Z ⟨Z,Z,Z,Z,Z,Zt⟩ ?_
 exact ⟨_,_,_,_,_,_,_,Z,Z⟩
set_option maxHeartbeats 2000000 in
theorem zxl {l:Lay} (hl:l.Ok) {wb tb ab mb:Nat} {hv:Value} {p:Pen} {u v:Int} {held:Array Int} {k:Nat} {σ σ1 σ2:Tr} {x y:Int} (hr1:root l k σ (l.vertex 0 u)=some (x,σ1)) (hr2:root l k σ1 (l.vertex 0 v)=some (y,σ2)) (hk:k<=561) (hh2:held.size<=2) (hz:Room 20000 σ) (hne:0<σ2.row.size):Go.Eng.Fn Tryz.prog 119 [.pointer (some ⟨wb,0,none⟩),.bool true] [zgm 198 wb tb 186 (hv) l p (u) (v),zbk tb ab mb 264 139 29 34 (σ),rowS (hv) (held)] (fun r Bs=>∃ xa xc ya yc B1 B2 B3,r=.agg #[.slice xa (planT l p held (zau x y) σ2).work.size xc,.int .i64 (planT l p held (zau x y) σ2).point,.bool (planT l p held (zau x y) σ2).tree,.slice ya (planT l p held (zau x y) σ2).roots.size yc]/\Bs=[B1,B2,B3,ownA zax 3 34 (.slice xa (planT l p held (zau x y) σ2).work.size xc) ((planT l p held (zau x y) σ2).work),rowS (.slice ya (planT l p held (zau x y) σ2).roots.size yc) (planT l p held (zau x y) σ2).roots]):=by
 have hnb:=zaD hl
 have hsl:=zdI l l.nodes.toNat
 have hz2:Room 15000 σ2:=zdU hr2 (zdU hr1 (hz.le (by omega)))
 have hsn:(zav l l.nodes.toNat).size<=560:=by omega
 have hwl:=zdY (x:=x) (y:=y)
 refine Fn.enter (Tryz.func119) Z Z (fun w0 R=>?_)
 refine TC.seq (TC.rowS 2 Z (fun a9 b9 o9 c9 hv9 hc9 ha9=>?_))
 subst hv9
 refine TC.region (TL.alloc 3 (cs:=#[.slice none 0 0,.int .i64 0,.bool false,.slice none 0 0]) zb3 Z Z Z (fun _=>Zt) (fun bk3=>(dA (xmt Z (xmp Z (TL.call [0,1] [0,1,4] (zmg hl hr1 hr2 (hz.le (by omega))) ⟨Z,Zt⟩ ⟨Z,Z,Zt⟩ ztP Z Z Z Z ?_))))))
 rintro r Bs rfl
 refine ⟨Z,Zt,?_⟩
 refine TL.rowS 4 Z (fun a8 b8 o8 c8 hv8 hc8 ha8=>⟨Zt,?_⟩)
 cases hv8
 refine TL.bld [.slice none 0 0,.int .i64 0,.bool false,.slice none 0 0] [(.bool true),(.slice _ _ _)] [_,_,_,_] zb3 zeW ⟨Z,Z,Zt⟩ ⟨Z,Z⟩ Z Z (TL.alloc 5 (cs:=#[.slice none 0 0,.int .i64 0,.bool false,.slice none 0 0]) zb3 Z Z Z (fun _=>Zt) (fun bk5=>(TL.stW 5 4 [_,_,_,_] Z Z Z Z Z Z zat Z Z Zt (dB (xmt Z (xnt Z (dF Z (xmp Z (xD [0,1] (zuO hl (hz2.le (by omega))) zzk Z ?_)))))))))
 obtain ⟨τ1,hτ1⟩:∃ τ,τ=zb6 l p (chgL σ2.row) (zav l l.nodes.toNat) (zav l l.nodes.toNat).size σ2:=⟨_,rfl⟩
 have hy1:Room 10000 τ1:=by rw [hτ1]; exact zc0 (hz2.le (by omega))
 rw [<-hτ1]
 refine dS (TC.draw (od [1,3,5,7,9,11,13,15,17,19,21,23,25,26]) [0,5] fc_m (by kernel_rfl) (xmp Z (xf 3 zdw Z (xls 5 zhq Z Z (xmp Z (xN0 Z (xf 16 zil Z (xls 0 zhq Z Z ?_))))))))
 refine xmp Z (xN0 Z (xf 4 zdz Z (xf 0 zdB Z (xli 0 zaa Z Z (TL.conv _ Z zgp zbs (Z) Z Z (xd [0,1,4,2] (zoR hl (zcY _) ha8 (by omega) Z zdp ha9 (by omega) Z zdp (hy1.le (by omega))) ztO Z (kL2 Z Z Zt) ?_))))))
 obtain ⟨τ2,hτ2⟩:∃ τ,τ=zbl l (zau x y) held.toList (IntKind.u64.wrap p.thread) (zau x y).size τ1:=⟨_,rfl⟩
 have hy2:Room 9000 τ2:=by rw [hτ2]; exact zds (hy1.le (by omega))
 rw [<-hτ2]
 refine dS (TC.draw (od [1,3,5,7,9,11,13,15,17,19,21,23,25,26]) [0] fc_m (by kernel_rfl) (xmp Z (xN0 Z (xf 4 zdz Z (xL2 0 za7 Z Z (xmp Z (xN0 Z (xf 0 zbd Z ?_))))))))
 refine xlp 0 zde Z Z (TL.miN (v:=(.pointer (some ⟨_,_,none⟩))) Z zfV Z Z (xmp Z (xN0 Z (xf 1 zbo Z (xL3 0 zac Z Z (xd [1] (zqM zd8 (show zg9 Tryz.prog 186 "Store" 200=true by kernel_rfl) hl (hy2.le (by omega))) zzj Z (kL1 Z Zt) ?_))))))
 obtain ⟨τ3,hτ3⟩:∃ τ,τ=za0 l p τ2 p.tag true:=⟨_,rfl⟩
 have hy3:Room 8000 τ3:=by rw [hτ3]; exact zfe (hy2.le (by omega))
 have hsz3:=zcV.1 hy3
 rw [<-hτ3]
 refine dS ?_
 have hn3:0<τ3.row.size:=by rw [hτ3,hτ2,hτ1]; exact Nat.lt_of_lt_of_le hne (((Pre.vers _).trans (.lock _)).trans (.state _ _ _)).size
 refine TC.region (xmp Z (xN0 Z (xf 0 zbd Z (xlp 0 zde Z Z (TL.call [1] [1,6] (znC (hy3.le (by omega))) ⟨Z,Zt⟩ ⟨Z,Zt⟩ zoA Z Z Z Z ?_)))))
 rintro v Bs rfl
 refine ⟨Z,Zt,?_⟩
 refine TL.ownW 6 Z (fun a7 g7 c7 hv7 hc7 ha7=>?_)
 cases hv7
 refine xz zal Z (TL.sub (((τ3.row.size - 1:Nat):Int)) Z Z (wrN (by omega)) Z Z (xai Z (dA (xmp Z (xD [0,1] (zrk hl (hy3.le (by omega))) zzi Z ?_)))))
 obtain ⟨τ4,hτ4⟩:∃ τ,τ=cleanW l (chgL τ3.row) (zav l l.nodes.toNat) (zav l l.nodes.toNat).size τ3:=⟨_,rfl⟩
 have hy4:Room 5000 τ4:=by rw [hτ4]; exact zer (hy3.le (by omega))
 rw [<-hτ4]
 refine dS (TC.draw (od [1,3,5,7,9,11,13,15,17,19,21,23,25,26]) [0] fc_m (by kernel_rfl) (xmp Z (xN0 Z (xf 4 zdz Z (xL2 0 za7 Z Z (xmp Z (xN0 Z (xf 0 zbd Z ?_))))))))
 refine xlp 0 zde Z Z (TL.miN (v:=(.pointer (some ⟨_,_,none⟩))) Z zfV Z Z (xmp Z (xN0 Z (xf 1 zbo Z (xL3 0 zac Z Z (xd [1] (zxV zd8 (show zg9 Tryz.prog 186 "Store" 200=true by kernel_rfl) hl (hy4.le (by omega))) zzh Z (kL1 Z Zt) ?_))))))
 obtain ⟨τ5,hτ5⟩:∃ τ,τ=za0 l p τ4 (IntKind.i64.wrap (p.tag+1)) false:=⟨_,rfl⟩
 have hy5:Room 4000 τ5:=by rw [hτ5]; exact zfe (hy4.le (by omega))
 rw [<-hτ5]
 refine dS (TC.draw (od [1,3,5,7,9,11,13,14]) [0,5] fc_m (by kernel_rfl) (xmp Z (xmp Z (xN0 Z (xf 16 zil Z (xls 0 zhq Z Z (xf 3 zdw Z (xls 5 zhq Z Z ?_))))))))
 refine xd [0,1,2,4] (zoR hl (by decide) ha9 (by omega) Z zdp ha8 (by omega) Z zdp (hy5.le (by omega))) ztO Z (kL2 Z Z Zt) ?_
 obtain ⟨τ6,hτ6⟩:∃ τ,τ=zbl l held (zau x y).toList 65535 held.size τ5:=⟨_,rfl⟩
 have hy6:Room 1000 τ6:=by rw [hτ6]; exact zds (hy5.le (by omega))
 have hsz6:=zcV.1 hy6
 rw [<-hτ6]
 refine dS ?_
 have hle:τ3.row.size - 1<=τ6.row.size:=by have h9:Pre τ3 τ6:=(by rw [hτ6,hτ5,hτ4]; exact ((Pre.cleanW _).trans (.state _ _ _)).trans (.lock _)); have:=h9.size; omega
 refine TC.region (xmp Z (xmp Z (xN0 Z (xf 0 zbd Z (xlp 0 zde Z Z (TL.call [1] [1,7] (znC (hy6.le (by omega))) ⟨Z,Zt⟩ ⟨Z,Zt⟩ zoA Z Z Z Z ?_))))))
 rintro v Bs rfl
 refine ⟨Z,Zt,?_⟩
 refine TL.ownW 7 Z (fun a6 g6 c6 hv6 hc6 ha6=>?_)
 cases hv6
 refine xmi Z (TL.call [0,7] [0,7,8] (zuQ hl ha6 (by omega) Z (zas ha6) hle hc6) ⟨Z,Z,Z,Zt⟩ ⟨Z,Z,Zt⟩ zzg Z Z Z Z ?_)
 rintro x Bs ⟨v9,rfl,rfl⟩
 refine ⟨Z,Zt,?_⟩
 refine TL.ownW 8 Z (fun a5 g5 c5 hv5 hc5 ha5=>?_)
 cases hv5
 refine xmu Z (xes Z Z (xei Z Z (xf 0 zbg Z (TL.st 5 #[_,_,_,_] (.slice _ _ _) Z Z Z Z Z Z zco Z Z Zt (xf 1 zcj Z (TL.st 5 #[_,_,_,_] (.int _ _) Z Z Z Z Z Z zaa Z Z Zt (dA (xL4 5 zat Z Z ?_))))))))
 refine TL.stW 3 4 [_,_,_,_] Z Z Z Z Z Z zat Z Z Zt (dR (TQ.conseq 4 (B:=rowS _ (zau x y)) Z (fun _ h=>⟨_,_,_,_,Z,hc8,ha8,h⟩) ?_))
 refine FQ.retG (rs:=[.cell 4 50]) [(.agg _)] (Bs:=[_,_,_,_,_]) [0,1,2,8,4] Z ⟨⟨_,_,_,_,_,3,Z,Z,.inr ⟨4,[_,_,_,_],zat,Z,Z⟩⟩,Zt⟩ Z Z ⟨Z,Z,Z,Z,Z,Zt⟩ ?_
 subst hτ6 hτ5 hτ4 hτ3 hτ2 hτ1; exact ⟨_,_,_,_,_,_,_,Z,Z⟩
theorem zf4 {l:Lay} (hl:l.Ok) {wb tb ab mb:Nat} {hv:Value} {p:Pen} {u v:Int} {held:Array Int} {k:Nat} {σ:Tr} {tree:Bool} (P:PlanS) (hP:planF l p k held tree u v σ=some P) (hk:k<=561) (hh2:held.size<=2) (hz:Room 20000 σ) (hne:0<σ.row.size):Go.Eng.Fn Tryz.prog 119 [.pointer (some ⟨wb,0,none⟩),.bool tree] [zgm 198 wb tb 186 (hv) l p (u) (v),zbk tb ab mb 264 139 29 34 (σ),rowS (hv) (held)] (fun r Bs=>∃ xa xc ya yc B1 B2 B3,r=.agg #[.slice xa (P).work.size xc,.int .i64 (P).point,.bool (P).tree,.slice ya (P).roots.size yc]/\Bs=[B1,B2,B3,ownA zax 3 34 (.slice xa (P).work.size xc) ((P).work),rowS (.slice ya (P).roots.size yc) (P).roots]):=by
 unfold planF at hP
 obtain ⟨⟨x,σ1⟩,hr1,hP⟩:=Zb hP
 obtain ⟨⟨y,σ2⟩,hr2,hP⟩:=Zb hP
 cases hP
 cases tree
 ·exact zxm hl hr1 hr2 hk hh2 hz
 ·exact zxl hl hr1 hr2 hk hh2 hz (Nat.lt_of_lt_of_le hne ((Pre.root hr1).trans (Pre.root hr2)).size)
set_option maxHeartbeats 2000000 in
theorem zml {l:Lay} (hl:l.Ok) {ab mb:Nat} {p:Pen} {σ:Array UInt64} {c:Cnt} {a1:Option Addr} {b1 o1 n1 c1:Nat} {A1:Assn} {d1:Array Int} (ha1:0<n1->a1=some ⟨b1,o1,none⟩) (hn1:n1<=2) (hs1:d1.size=n1) (hA1:za8 A1 Tm.encI 1 b1 o1 n1 (fun i=>d1[i]!)) (h0:0<σ.size) (h1:σ.size<=20000):Go.Eng.Fn Tryz.prog 118 [.pointer (some ⟨ab,0,none⟩),layV l,.agg #[.int .i64 p.thread,.int .i64 p.tag],.slice a1 n1 c1] [arenaC ab mb 139 29 (σ) (c),A1] (fun x Bs=>∃ wb tb ab2 mb2 hv,x=.pointer (some ⟨wb,0,none⟩)/\Bs=[arenaC ab mb 139 29 (σ) (c),A1,zgm 198 wb tb 186 (hv) l p (0) (0),zbk tb ab2 mb2 264 139 29 34 (⟨σ,#[]⟩),rowS hv d1]):=by
 refine Fn.enter (Tryz.func118) Z Z (fun w0 R=>?_)
 refine sA (xB 2 Z (fun bk2=>(xB 3 Z (fun bk3=>(TL.asg (.pointer none) Z Z Z (dA (xmp Z (TL.call [0] [0,4] (zxZ h0 h1) ⟨Z,Zt⟩ ⟨Z,Zt⟩ zzn Z Z Z Z ?_))))))))
 rintro x Bs ⟨tb,ab2,mb2,rfl,rfl⟩
 refine ⟨Z,Zt,?_⟩
 refine xap Z (dS (TC.draw (od [1,3,5,7,9,11,13,17,14,18,21,22,25]) [2,3] fc_m (by kernel_rfl) (xmp Z (xL3 2 zac Z Z (xL2 3 za7 Z Z (xL3 2 zac Z Z (xmp Z (TL.miN (v:=(.pointer (some ⟨_,_,none⟩))) Z zfV Z Z ?_))))))))
 refine xL2 3 za7 Z Z (xms Z (xd [] (zhl (p:=p)) zjV Z (kL2 Z Z Zt) (TL.call [1] [1,5] (zud ha1 (by omega) hA1) ⟨Z,Zt⟩ ⟨Z,Zt⟩ zzm Z Z Z Z ?_)))
 rintro v Bs rfl
 refine ⟨Z,(kL2 Z Z Zt),?_⟩
 rw [zxJ hs1]
 refine TL.conseq 5 (B:=rowS _ d1) Z (fun _ h=>zgb h) (kL2 Z Z Zt) (TL.rowS 5 Z (fun a7 b7 o7 c7 hv7 hc7 ha7=>⟨(kL2 Z Z Zt),?_⟩))
 cases hv7
 refine TL.bld [.pointer none,.int .i64 0,.int .i64 0,.int .i64 0,.int .i64 0,.int .i64 0,.int .i64 0,.int .i64 0,.int .i64 0,.nilIface,.int .i64 0,.int .i64 0,.int .i64 0,.int .i64 0,.int .i64 0,.nilIface,.slice none 0 0,.int .i64 0,.int .i64 0] [(.pointer (some ⟨_,_,none⟩)),(.agg _),(.agg _),(.agg _),(.slice _ _ _)] [_,_,_,_,_,_,_,_,_,_,_,_,_,_,_,_,_,_,_] zyw zyE ⟨Z,Z,Z,Z,Z,Zt⟩ ⟨Z,Z⟩ Z Z (TL.boxA 6 Z Z Z (fun _=>(kL2 Z Z Zt)) (fun bk6=>(xap Z (dR (TQ.conseq 5 (B:=rowS _ d1) Z (fun _ h=>⟨_,_,_,_,Z,hc7,ha7,h⟩) ?_)))))
 refine FQ.ret1 (v:=(.pointer (some ⟨_,_,none⟩))) (Bs:=[_,A1,_,_,_]) [0,1,6,4,5] Z Z Z ⟨Z,Z,Z,Z,Z,Zt⟩ ?_
 exact ⟨_,_,_,_,_,Z,Z⟩
theorem zhC {l:Lay} (hl:l.Ok) {ab mb:Nat} {p:Pen} {σ:Array UInt64} {c:Cnt} {a1:Option Addr} {b1 o1 n1 c1:Nat} {A1:Assn} {d1:Array Int} (ha1:0<n1->a1=some ⟨b1,o1,none⟩) (hn1:n1<=2) (hs1:d1.size=n1) (hA1:za8 A1 Tm.encI 1 b1 o1 n1 (fun i=>d1[i]!)) (h0:0<σ.size) (h1:σ.size<=20000) {s u v:Int} {b:Bool} {τ:Tr} {P:PlanS} (hg:zbu l p 561 (⟨σ,#[]⟩:Tr) s u v=some (b,τ)) (hP:planF l p 561 d1 b u v τ=some P) (hne:0<τ.row.size):Go.Eng.Fn Tryz.prog 81 [.pointer (some ⟨ab,0,none⟩),layV l,.agg #[.int .i64 p.thread,.int .i64 p.tag],.slice a1 n1 c1,.int .i64 s,.int .i64 u,.int .i64 v] [arenaC ab mb 139 29 (σ) (c),A1] (fun r Bs=>∃ xa xc ya yc,r=.agg #[.slice xa (P).work.size xc,.int .i64 (P).point,.bool (P).tree,.slice ya (P).roots.size yc]/\Bs=[arenaC ab mb 139 29 (σ) (c),A1,ownA zax 3 34 (.slice xa (P).work.size xc) (P.work),rowS (.slice ya (P).roots.size yc) P.roots]):=by
 have hz0:Room 100000000 (⟨σ,#[]⟩:Tr):=zcV.2 (by show 0+100000000<=_; decide)
 have hz:Room 20000 τ:=zjw hg (hz0.le (by decide))
 refine Fn.enter (Tryz.func81) Z Z (fun w0 R=>?_)
 refine sA (xB 2 Z (fun bk2=>(xB 3 Z (fun bk3=>(TL.alloc 4 (cs:=#[.slice none 0 0,.int .i64 0,.bool false,.slice none 0 0]) zb3 Z Z Z (fun _=>Zt) (fun bk4=>(dA (xmp Z (xL3 2 zac Z Z (xL2 3 za7 Z Z (xms Z ?_)))))))))))
 refine TL.call [0,1] [0,1,5,6,7] (zml hl ha1 hn1 hs1 hA1 h0 h1) ⟨Z,Z,Z,Z,Zt⟩ ⟨Z,Z,Zt⟩ ztT Z Z Z Z ?_
 rintro x Bs ⟨wb,tb,ab2,mb2,hv,rfl,rfl⟩
 refine ⟨Z,Zt,?_⟩
 refine xap Z (dA (xmp Z (xmp Z (xmi Z (xmi Z (xN0 Z (xf 17 zb5 Z (TL.st 5 #[_,_,_,_,_,_,_,_,_,_,_,_,_,_,_,_,_,_,_] (.int _ _) Z Z Z Z Z Z zaa Z Z Zt ?_))))))))
 refine xN0 Z (xf 18 zb4 Z (TL.st 5 #[_,_,_,_,_,_,_,_,_,_,_,_,_,_,_,_,_,_,_] (.int _ _) Z Z Z Z Z Z zaa Z Z Zt (dA (xmp Z (xmp Z (xN0 Z (xf 6 zcA Z (xL10 5 zck Z Z ?_))))))))
 refine xmi Z (xmi Z (xmi Z (xD [6] (zqX zd8 hl hg (hz0.le (by decide))) zzp Z (TL.call [5,6,7] [5,6,7,8,9] (zf4 hl P hP (by omega) (by omega) hz hne) ⟨Z,Z,Zt⟩ ⟨Z,Z,Z,Zt⟩ zh6 Z Z Z Z ?_))))
 rintro r9 Bs ⟨xa,xc,ya,yc,B1,B2,B3,rfl,rfl⟩
 refine ⟨Z,Zt,?_⟩
 refine TL.stW 4 4 [_,_,_,_] Z Z Z Z Z Z zat Z Z Zt (dR ?_)
 refine FQ.retG (rs:=[.cell 14 50]) [(.agg _)] (Bs:=[_,A1,_,_]) [0,1,8,9] Z ⟨⟨_,_,_,_,_,4,Z,Z,.inr ⟨4,[_,_,_,_],zat,Z,Z⟩⟩,Zt⟩ Z Z ⟨Z,Z,Z,Z,Zt⟩ ?_
 exact ⟨_,_,_,_,Z,Z⟩
theorem zqj {l:Lay} (hl:l.Ok) {ab mb:Nat} {p:Pen} {σ:Array UInt64} {c:Cnt} {a1:Option Addr} {b1 o1 n1 c1:Nat} {A1:Assn} {d1:Array Int} (ha1:0<n1->a1=some ⟨b1,o1,none⟩) (hn1:n1<=2) (hs1:d1.size=n1) (hA1:za8 A1 Tm.encI 1 b1 o1 n1 (fun i=>d1[i]!)) (h0:0<σ.size) (h1:σ.size<=20000) {s o:Int} {b ok:Bool} {τ:Tr} {P:PlanS} (hg:zbv l p 561 (⟨σ,#[]⟩:Tr) s=some ((b,o,ok),τ)) (hP:planF l p 561 d1 b (eget l σ s).u (eget l σ s).v τ=some P) (hne:0<τ.row.size):Go.Eng.Fn Tryz.prog 105 [.pointer (some ⟨ab,0,none⟩),layV l,.agg #[.int .i64 p.thread,.int .i64 p.tag],.slice a1 n1 c1,.int .i64 s] [arenaC ab mb 139 29 (σ) (c),A1] (fun r Bs=>∃ xa xc ya yc,r=.agg #[.slice xa (P).work.size xc,.int .i64 (P).point,.bool (P).tree,.slice ya (P).roots.size yc]/\Bs=[arenaC ab mb 139 29 (σ) (c),A1,ownA zax 3 34 (.slice xa (P).work.size xc) (P.work),rowS (.slice ya (P).roots.size yc) P.roots]):=by
 have hz0:Room 130000000000 (⟨σ,#[]⟩:Tr):=zcV.2 (by show 0+130000000000<=_; decide)
 have hz:Room 20000 τ:=zjz hg (hz0.le (by decide))
 refine Fn.enter (Tryz.func105) Z Z (fun w0 R=>?_)
 refine sA (xB 2 Z (fun bk2=>(xB 3 Z (fun bk3=>(TL.alloc 4 (cs:=#[.slice none 0 0,.int .i64 0,.bool false,.slice none 0 0]) zb3 Z Z Z (fun _=>Zt) (fun bk4=>(dA (xmp Z (xL3 2 zac Z Z (xL2 3 za7 Z Z (xms Z ?_)))))))))))
 refine TL.call [0,1] [0,1,5,6,7] (zml hl ha1 hn1 hs1 hA1 h0 h1) ⟨Z,Z,Z,Z,Zt⟩ ⟨Z,Z,Zt⟩ ztT Z Z Z Z ?_
 rintro x Bs ⟨wb,tb,ab2,mb2,hv,rfl,rfl⟩
 refine ⟨Z,Zt,?_⟩
 refine xap Z (dS (TC.drawT (.br [(0,true),(1,true),(5,true),(10,true)] 2 12 (.br [] 3 12 (.br [(4,true)] 6 12 (.br [(7,true),(8,true),(9,true)] 11 12 (.fin [(12,false),(13,false)]) (.fin [(11,false),(13,false)])) (.fin [(6,false),(7,true),(8,true),(9,true),(11,false),(13,false)])) (.fin [(3,false),(4,true),(6,false),(7,true),(8,true),(9,true),(11,false),(13,false)])) (.fin [(2,false),(3,false),(4,true),(6,false),(7,true),(8,true),(9,true),(11,false),(13,false)])) [2,3] fc_m (by kernel_rfl) (TT.br (xL3 2 zac Z Z (xmp Z (xL2 3 za7 Z Z (xmi Z (TL.both ?_ ?_))))))))
 refine TL.call [0] [0,8] (zhA h0 h1) ⟨Z,Zt⟩ ⟨Z,Zt⟩ zpV Z Z Z Z ?_
 rintro v Bs ⟨ab2,mb2,rfl,rfl⟩
 refine ⟨Z,(kL2 Z Z Zt),?_⟩
 refine TL.conseq 8 (B:=zap _ _ 139 29 (σ)) Z (fun h hh=>zdF hh) (kL2 Z Z Zt) (TL.tree (TT.br (TL.both ?_ ?_)))
 refine xd [] zfj zjK Z (kL2 Z Z Zt) (TL.tree (TT.br (TL.miN (v:=(.agg _)) Z zgI Z Z (TL.both ?_ ?_))))
 refine xd [] (zhl (p:=p)) zjV Z (kL2 Z Z Zt) (TL.tree (TT.br (TL.fvA 0 194 10 [_,_,_,_,_,_,_,_,_,_] Z zdf zaZ Z Z Z (TL.fvA 0 192 10 [_,_,_,_,_,_,_,_,_,_] Z zdg zan Z Z Z (TL.fvA 6 190 4 [_,_,_,_] Z zdh za3 Z Z Z (TL.both ?_ ?_))))))
 refine xd [8] (zdD zfD hl) zdC Z (kL2 Z Z Zt) (TL.tree (TT.fin (TL.alloc 9 (cs:=#[.int .i64 0,.int .i64 0,.int .i64 0,.bool false]) zdt Z Z Z (fun _=>(kL2 Z Z Zt)) (fun bk9=>(TL.stW 9 4 [_,_,_,_] Z Z Z Z Z Z zbV Z Z (kL2 Z Z Zt) (dS (TC.draw (od [1,3,5,7,9,11,13,15,16,19,21,22]) [9] fc_m (by kernel_rfl) (xmp Z (xmp Z (xf 0 zbn Z ?_))))))))))
 refine xli 9 zaa Z Z (xf 1 zbm Z (xli 9 zaa Z Z (xN0 Z (xf 17 zb5 Z (TL.st 5 #[_,_,_,_,_,_,_,_,_,_,_,_,_,_,_,_,_,_,_] (.int _ _) Z Z Z Z Z Z zaa Z Z (kL1 Z Zt) (xN0 Z (xf 18 zb4 Z (TL.st 5 #[_,_,_,_,_,_,_,_,_,_,_,_,_,_,_,_,_,_,_] (.int _ _) Z Z Z Z Z Z zaa Z Z (kL1 Z Zt) ?_))))))))
 refine dA (xmp Z (xN0 Z (xf 6 zcA Z (xL10 5 zck Z Z (xmi Z (xD [6] (zeU zd8 hl hg (hz0.le (by decide))) zjU Z (xmu Z (TL.ext (.bool _) Z Z Z Z ?_))))))))
 refine xei Z Z (TL.ext (.bool _) Z Z Z Z (xab Z (xai Z (xab Z (dA (xmp Z (xmb Z (TL.call [5,6,7] [5,6,7,10,11] (zf4 hl P hP (by omega) (by omega) hz hne) ⟨Z,Z,Zt⟩ ⟨Z,Z,Z,Zt⟩ zh6 Z Z Z Z ?_))))))))
 rintro r9 Bs ⟨xa,xc,ya,yc,B1,B2,B3,rfl,rfl⟩
 refine ⟨Z,Zt,?_⟩
 refine TL.stW 4 4 [_,_,_,_] Z Z Z Z Z Z zat Z Z Zt (dR ?_)
 refine FQ.retG (rs:=[.cell 10 50]) [(.agg _)] (Bs:=[_,A1,_,_]) [0,1,10,11] Z ⟨⟨_,_,_,_,_,4,Z,Z,.inr ⟨4,[_,_,_,_],zat,Z,Z⟩⟩,Zt⟩ Z Z ⟨Z,Z,Z,Z,Zt⟩ ?_
 exact ⟨_,_,_,_,Z,Z⟩
 refine TL.alloc 12 (cs:=#[.int .i64 0,.int .i64 0,.int .i64 0,.bool false]) zdt Z Z Z (fun _=>(kL2 Z Z Zt)) (fun bk12=>(TL.tree (TT.fin (xd [8] (zdD zfD hl) zdC Z (kL2 Z Z Zt) (TL.stW 12 4 [_,_,_,_] Z Z Z Z Z Z zbV Z Z (kL2 Z Z Zt) (dS (TC.draw (od [1,3,5,7,9,11,13,15,16,19,21,22]) [12] fc_m (by kernel_rfl) (xmp Z (xmp Z (xf 0 zbn Z ?_))))))))))
 refine xli 12 zaa Z Z (xf 1 zbm Z (xli 12 zaa Z Z (xN0 Z (xf 17 zb5 Z (TL.st 5 #[_,_,_,_,_,_,_,_,_,_,_,_,_,_,_,_,_,_,_] (.int _ _) Z Z Z Z Z Z zaa Z Z (kL1 Z Zt) (xN0 Z (xf 18 zb4 Z (TL.st 5 #[_,_,_,_,_,_,_,_,_,_,_,_,_,_,_,_,_,_,_] (.int _ _) Z Z Z Z Z Z zaa Z Z (kL1 Z Zt) ?_))))))))
 refine dA (xmp Z (xN0 Z (xf 6 zcA Z (xL10 5 zck Z Z (xmi Z (xD [6] (zeU zd8 hl hg (hz0.le (by decide))) zjU Z (xmu Z (TL.ext (.bool _) Z Z Z Z ?_))))))))
 refine xei Z Z (TL.ext (.bool _) Z Z Z Z (xab Z (xai Z (xab Z (dA (xmp Z (xmb Z (TL.call [5,6,7] [5,6,7,13,14] (zf4 hl P hP (by omega) (by omega) hz hne) ⟨Z,Z,Zt⟩ ⟨Z,Z,Z,Zt⟩ zh6 Z Z Z Z ?_))))))))
 rintro r9 Bs ⟨xa,xc,ya,yc,B1,B2,B3,rfl,rfl⟩
 refine ⟨Z,Zt,?_⟩
 refine TL.stW 4 4 [_,_,_,_] Z Z Z Z Z Z zat Z Z Zt (dR ?_)
 refine FQ.retG (rs:=[.cell 10 50]) [(.agg _)] (Bs:=[_,A1,_,_]) [0,1,13,14] Z ⟨⟨_,_,_,_,_,4,Z,Z,.inr ⟨4,[_,_,_,_],zat,Z,Z⟩⟩,Zt⟩ Z Z ⟨Z,Z,Z,Z,Zt⟩ ?_
 exact ⟨_,_,_,_,Z,Z⟩
 refine TL.alloc 15 (cs:=#[.int .i64 0,.int .i64 0,.int .i64 0,.bool false]) zdt Z Z Z (fun _=>(kL2 Z Z Zt)) (fun bk15=>(TL.tree (TT.fin (xd [] (zhl (p:=p)) zjV Z (kL2 Z Z Zt) (TL.fvA 0 194 10 [_,_,_,_,_,_,_,_,_,_] Z zdf zaZ Z Z Z (TL.fvA 0 192 10 [_,_,_,_,_,_,_,_,_,_] Z zdg zan Z Z Z (TL.fvA 6 190 4 [_,_,_,_] Z zdh za3 Z Z Z (xd [8] (zdD zfD hl) zdC Z (kL2 Z Z Zt) (TL.stW 15 4 [_,_,_,_] Z Z Z Z Z Z zbV Z Z (kL2 Z Z Zt) (dS ?_))))))))))
 refine TC.draw (od [1,3,5,7,9,11,13,15,16,19,21,22]) [15] fc_m (by kernel_rfl) (xmp Z (xmp Z (xf 0 zbn Z (xli 15 zaa Z Z (xf 1 zbm Z (xli 15 zaa Z Z (xN0 Z (xf 17 zb5 Z ?_))))))))
 refine TL.st 5 #[_,_,_,_,_,_,_,_,_,_,_,_,_,_,_,_,_,_,_] (.int _ _) Z Z Z Z Z Z zaa Z Z (kL1 Z Zt) (xN0 Z (xf 18 zb4 Z (TL.st 5 #[_,_,_,_,_,_,_,_,_,_,_,_,_,_,_,_,_,_,_] (.int _ _) Z Z Z Z Z Z zaa Z Z (kL1 Z Zt) (dA (xmp Z (xN0 Z (xf 6 zcA Z (xL10 5 zck Z Z ?_))))))))
 refine xmi Z (xD [6] (zeU zd8 hl hg (hz0.le (by decide))) zjU Z (xmu Z (TL.ext (.bool _) Z Z Z Z (xei Z Z (TL.ext (.bool _) Z Z Z Z (xab Z (xai Z (xab Z ?_))))))))
 refine dA (xmp Z (xmb Z (TL.call [5,6,7] [5,6,7,16,17] (zf4 hl P hP (by omega) (by omega) hz hne) ⟨Z,Z,Zt⟩ ⟨Z,Z,Z,Zt⟩ zh6 Z Z Z Z ?_)))
 rintro r9 Bs ⟨xa,xc,ya,yc,B1,B2,B3,rfl,rfl⟩
 refine ⟨Z,Zt,?_⟩
 refine TL.stW 4 4 [_,_,_,_] Z Z Z Z Z Z zat Z Z Zt (dR ?_)
 refine FQ.retG (rs:=[.cell 10 50]) [(.agg _)] (Bs:=[_,A1,_,_]) [0,1,16,17] Z ⟨⟨_,_,_,_,_,4,Z,Z,.inr ⟨4,[_,_,_,_],zat,Z,Z⟩⟩,Zt⟩ Z Z ⟨Z,Z,Z,Z,Zt⟩ ?_
 exact ⟨_,_,_,_,Z,Z⟩
 refine TL.alloc 18 (cs:=#[.int .i64 0,.int .i64 0,.int .i64 0,.bool false]) zdt Z Z Z (fun _=>(kL2 Z Z Zt)) (fun bk18=>(TL.tree (TT.fin (xd [] zfj zjK Z (kL2 Z Z Zt) (TL.miN (v:=(.agg _)) Z zgI Z Z (xd [] (zhl (p:=p)) zjV Z (kL2 Z Z Zt) (TL.fvA 0 194 10 [_,_,_,_,_,_,_,_,_,_] Z zdf zaZ Z Z Z (TL.fvA 0 192 10 [_,_,_,_,_,_,_,_,_,_] Z zdg zan Z Z Z (TL.fvA 6 190 4 [_,_,_,_] Z zdh za3 Z Z Z (xd [8] (zdD zfD hl) zdC Z (kL2 Z Z Zt) ?_))))))))))
 refine TL.stW 18 4 [_,_,_,_] Z Z Z Z Z Z zbV Z Z (kL2 Z Z Zt) (dS (TC.draw (od [1,3,5,7,9,11,13,15,16,19,21,22]) [18] fc_m (by kernel_rfl) (xmp Z (xmp Z (xf 0 zbn Z (xli 18 zaa Z Z (xf 1 zbm Z (xli 18 zaa Z Z ?_))))))))
 refine xN0 Z (xf 17 zb5 Z (TL.st 5 #[_,_,_,_,_,_,_,_,_,_,_,_,_,_,_,_,_,_,_] (.int _ _) Z Z Z Z Z Z zaa Z Z (kL1 Z Zt) (xN0 Z (xf 18 zb4 Z (TL.st 5 #[_,_,_,_,_,_,_,_,_,_,_,_,_,_,_,_,_,_,_] (.int _ _) Z Z Z Z Z Z zaa Z Z (kL1 Z Zt) (dA (xmp Z (xN0 Z ?_))))))))
 refine xf 6 zcA Z (xL10 5 zck Z Z (xmi Z (xD [6] (zeU zd8 hl hg (hz0.le (by decide))) zjU Z (xmu Z (TL.ext (.bool _) Z Z Z Z (xei Z Z (TL.ext (.bool _) Z Z Z Z (xab Z ?_))))))))
 refine xai Z (xab Z (dA (xmp Z (xmb Z (TL.call [5,6,7] [5,6,7,19,20] (zf4 hl P hP (by omega) (by omega) hz hne) ⟨Z,Z,Zt⟩ ⟨Z,Z,Z,Zt⟩ zh6 Z Z Z Z ?_)))))
 rintro r9 Bs ⟨xa,xc,ya,yc,B1,B2,B3,rfl,rfl⟩
 refine ⟨Z,Zt,?_⟩
 refine TL.stW 4 4 [_,_,_,_] Z Z Z Z Z Z zat Z Z Zt (dR ?_)
 refine FQ.retG (rs:=[.cell 10 50]) [(.agg _)] (Bs:=[_,A1,_,_]) [0,1,19,20] Z ⟨⟨_,_,_,_,_,4,Z,Z,.inr ⟨4,[_,_,_,_],zat,Z,Z⟩⟩,Zt⟩ Z Z ⟨Z,Z,Z,Z,Zt⟩ ?_
 exact ⟨_,_,_,_,Z,Z⟩
 refine TL.alloc 21 (cs:=#[.int .i64 0,.int .i64 0,.int .i64 0,.bool false]) zdt Z Z Z (fun _=>(kL2 Z Z Zt)) (fun bk21=>(TL.tree (TT.fin (TL.call [0] [0,22] (zhA h0 h1) ⟨Z,Zt⟩ ⟨Z,Zt⟩ zpV Z Z Z Z ?_))))
 rintro v Bs ⟨ab2,mb2,rfl,rfl⟩
 refine ⟨Z,(kL2 Z Z Zt),?_⟩
 refine TL.conseq 22 (B:=zap _ _ 139 29 (σ)) Z (fun h hh=>zdF hh) (kL2 Z Z Zt) (xd [] zfj zjK Z (kL2 Z Z Zt) (TL.miN (v:=(.agg _)) Z zgI Z Z (xd [] (zhl (p:=p)) zjV Z (kL2 Z Z Zt) (TL.fvA 0 194 10 [_,_,_,_,_,_,_,_,_,_] Z zdf zaZ Z Z Z (TL.fvA 0 192 10 [_,_,_,_,_,_,_,_,_,_] Z zdg zan Z Z Z (TL.fvA 6 190 4 [_,_,_,_] Z zdh za3 Z Z Z (xd [22] (zdD zfD hl) zdC Z (kL2 Z Z Zt) (TL.stW 21 4 [_,_,_,_] Z Z Z Z Z Z zbV Z Z (kL2 Z Z Zt) ?_))))))))
 refine dS (TC.draw (od [1,3,5,7,9,11,13,15,16,19,21,22]) [21] fc_m (by kernel_rfl) (xmp Z (xmp Z (xf 0 zbn Z (xli 21 zaa Z Z (xf 1 zbm Z (xli 21 zaa Z Z (xN0 Z ?_))))))))
 refine xf 17 zb5 Z (TL.st 5 #[_,_,_,_,_,_,_,_,_,_,_,_,_,_,_,_,_,_,_] (.int _ _) Z Z Z Z Z Z zaa Z Z (kL1 Z Zt) (xN0 Z (xf 18 zb4 Z (TL.st 5 #[_,_,_,_,_,_,_,_,_,_,_,_,_,_,_,_,_,_,_] (.int _ _) Z Z Z Z Z Z zaa Z Z (kL1 Z Zt) (dA (xmp Z (xN0 Z (xf 6 zcA Z ?_))))))))
 refine xL10 5 zck Z Z (xmi Z (xD [6] (zeU zd8 hl hg (hz0.le (by decide))) zjU Z (xmu Z (TL.ext (.bool _) Z Z Z Z (xei Z Z (TL.ext (.bool _) Z Z Z Z (xab Z (xai Z ?_))))))))
 refine xab Z (dA (xmp Z (xmb Z (TL.call [5,6,7] [5,6,7,23,24] (zf4 hl P hP (by omega) (by omega) hz hne) ⟨Z,Z,Zt⟩ ⟨Z,Z,Z,Zt⟩ zh6 Z Z Z Z ?_))))
 rintro r9 Bs ⟨xa,xc,ya,yc,B1,B2,B3,rfl,rfl⟩
 refine ⟨Z,Zt,?_⟩
 refine TL.stW 4 4 [_,_,_,_] Z Z Z Z Z Z zat Z Z Zt (dR ?_)
 refine FQ.retG (rs:=[.cell 10 50]) [(.agg _)] (Bs:=[_,A1,_,_]) [0,1,23,24] Z ⟨⟨_,_,_,_,_,4,Z,Z,.inr ⟨4,[_,_,_,_],zat,Z,Z⟩⟩,Zt⟩ Z Z ⟨Z,Z,Z,Z,Zt⟩ ?_
 exact ⟨_,_,_,_,Z,Z⟩
theorem zpq {v:Int} (hv:0<=v/\v<18446744073709551616):FnD Tryz.prog 33 [.int .u64 v] [] (.agg #[.int .i64 (v / 65536 % 65536),.int .i64 (v % 65536),.int .i64 (v / 65536 / 65536 % 256),.int .i64 (v / 65536 / 65536 / 256)]) []:=by
 refine Fn.enter (Tryz.func33) Z Z (fun w0 R=>?_)
 refine sA (TL.alloc 0 (cs:=#[.int .i64 0,.int .i64 0,.int .i64 0,.int .i64 0]) zne Z Z Z (fun _=>Zt) (fun bk0=>(dA (xmi Z (TL.rem _ Z Z (by omega) (znS (by omega)) Z Z (TL.conv _ Z zdV zaQ (wr64 (by omega)) Z Z (TL.bld [.int .i64 0,.int .i64 0,.int .i64 0,.int .i64 0] [(.int _ _)] [_,_,_,_] zne zAE ⟨Z,Zt⟩ ⟨Z,Z⟩ Z Z (TL.alloc 1 (cs:=#[.int .i64 0,.int .i64 0,.int .i64 0,.int .i64 0]) zne Z Z Z (fun _=>Zt) (fun bk1=>(TL.stW 1 4 [_,_,_,_] Z Z Z Z Z Z zgh Z Z Zt ?_))))))))))
 refine dA (xmi Z (TL.quo _ Z Z (by omega) (quoU (by omega) (by omega) (by omega)) Z Z (xai Z (dA (xmi Z (TL.rem _ Z Z (by omega) (znS (by omega)) Z Z (TL.conv _ Z zdV zaQ (wr64 (by omega)) Z Z (xf 0 zhY Z ?_))))))))
 refine TL.st 1 #[_,_,_,_] (.int _ _) Z Z Z Z Z Z zaa Z Z Zt (dA (xmi Z (TL.quo _ Z Z (by omega) (quoU (by omega) (by omega) (by omega)) Z Z (xai Z (dA (xmi Z (TL.rem _ Z Z (by omega) (znS (by omega)) Z Z (TL.conv _ Z zdV zaQ (wr64 (by omega)) Z Z ?_))))))))
 refine xf 2 zeZ Z (TL.st 1 #[_,_,_,_] (.int _ _) Z Z Z Z Z Z zaa Z Z Zt (dA (xmi Z (TL.quo _ Z Z (by omega) (quoU (by omega) (by omega) (by omega)) Z Z (TL.conv _ Z zdV zaQ (wr64 (by omega)) Z Z (xf 3 zhX Z (TL.st 1 #[_,_,_,_] (.int _ _) Z Z Z Z Z Z zaa Z Z Zt (dA ?_))))))))
 refine xL4 1 zgh Z Z (TL.stW 0 4 [_,_,_,_] Z Z Z Z Z Z zgh Z Z Zt (dR ?_))
 refine FQ.retG (rs:=[.cell 2 63]) [(.agg _)] (Bs:=[]) [] Z ⟨⟨_,_,_,_,_,0,Z,Z,.inr ⟨4,[_,_,_,_],zgh,Z,Z⟩⟩,Zt⟩ Z Z Zt ?_
 exact ⟨Z,Z⟩
theorem znT {v s:Int} (hv:0<=v/\v<18446744073709551616) (hs:0<=s/\s<18446744073709551616):FnD Tryz.prog 102 [.int .u64 v,.int .u64 s] [] (.int .i64 (refM v s)) []:=by
 refine Fn.enter (Tryz.func102) Z Z (fun w0 R=>?_)
 refine sA (xai Z (dA (xmi Z (xD [] (zpq hv) zw3 Z (TL.alloc 0 (cs:=#[.int .i64 0,.int .i64 0,.int .i64 0,.int .i64 0]) zne Z Z Z (fun _=>Zt) (fun bk0=>(TL.stW 0 4 [_,_,_,_] Z Z Z Z Z Z zgh Z Z Zt (dB (xf 2 zeZ Z ?_)))))))))
 refine xli 0 zaa Z Z (TL.eql Z Z Z Z (fun q1=>?_) (fun q1=>?_))
 refine xmt Z (xo Z (xo Z (xo Z (xo Z (xo Z (xo Z (xpT Z (xmt Z ?_))))))))
 refine xo Z (xo Z (xo Z (xo Z (xo Z (xo Z (xo Z (xo Z (xo Z ?_))))))))
 refine xo Z (xo Z (xpT Z (dT Z (xf 1 ze0 Z (xli 0 zaa Z Z (xai Z (dRR ?_)))))))
 refine FQ.ret1 (v:=(.int _ _)) (Bs:=[]) [] Z Z Z Zt ?_
 first | exact ⟨iE (by unfold refM; rw [Zp (by omega)]),Z⟩ | exact ⟨iE (by unfold refM; rw [Zn (by omega)]),Z⟩
 refine xmf Z (xmi Z (TL.quo _ Z Z (by omega) (quoU (by omega) (by omega) (by omega)) Z Z (TL.conv _ Z zdV zaQ (wr64 (by omega)) Z Z (xf 3 zhX Z (xli 0 zaa Z Z (TL.gtr Z Z Z Z (fun q2=>?_) (fun q2=>?_)))))))
 refine xpH Z (xmt Z (xo Z (xo Z (xo Z (xo Z (xo Z (xo Z (xo Z ?_))))))))
 refine xo Z (xo Z (xo Z (xo Z (xpT Z (dT Z (xf 1 ze0 Z (xli 0 zaa Z Z (xai Z ?_))))))))
 refine dRR ?_
 refine FQ.ret1 (v:=(.int _ _)) (Bs:=[]) [] Z Z Z Zt ?_
 first | exact ⟨iE (by unfold refM; rw [Zp (by omega)]),Z⟩ | exact ⟨iE (by unfold refM; rw [Zn (by omega)]),Z⟩
 refine xpF Z (xmf Z (xmi Z (TL.quo _ Z Z (by omega) (quoU (by omega) (by omega) (by omega)) Z Z (TL.conv _ Z zdV zaQ (wr64 (by omega)) Z Z (xf 3 zhX Z (xli 0 zaa Z Z (TL.eql Z Z Z Z (fun q3=>?_) (fun q3=>?_))))))))
 refine xmt Z (xmi Z (TL.rem _ Z Z (by omega) (znS (by omega)) Z Z (TL.eql Z Z Z Z (fun q4=>?_) (fun q4=>?_))))
 refine xpT Z (xpH Z (dT Z (xf 1 ze0 Z (xli 0 zaa Z Z (xai Z (dRR ?_))))))
 refine FQ.ret1 (v:=(.int _ _)) (Bs:=[]) [] Z Z Z Zt ?_
 first | exact ⟨iE (by unfold refM; rw [Zp (by omega)]),Z⟩ | exact ⟨iE (by unfold refM; rw [Zn (by omega)]),Z⟩
 refine xpG Z (xpF Z (dF Z (xf 0 zhY Z (xli 0 zaa Z Z (xai Z (dR ?_))))))
 refine FQ.ret1 (v:=(.int _ _)) (Bs:=[]) [] Z Z Z Zt ?_
 first | exact ⟨iE (by unfold refM; rw [Zp (by omega)]),Z⟩ | exact ⟨iE (by unfold refM; rw [Zn (by omega)]),Z⟩
 refine xmf Z (xo Z (xo Z (xo Z (xpF Z (xpF Z (dF Z (xf 0 zhY Z (xli 0 zaa Z Z ?_))))))))
 refine xai Z (dR ?_)
 refine FQ.ret1 (v:=(.int _ _)) (Bs:=[]) [] Z Z Z Zt ?_
 first | exact ⟨iE (by unfold refM; rw [Zp (by omega)]),Z⟩ | exact ⟨iE (by unfold refM; rw [Zn (by omega)]),Z⟩
theorem zm1 {l:Lay} {pb ab mb:Nat} {tg:Int} {av:Value} {σ:Array UInt64} {i:Int}:FnD Tryz.prog 34 [.pointer (some ⟨pb,0,none⟩),.int .i64 i] [pt pb (.cells #[.int .i64 l.V,.int .i64 l.S,.int .i64 l.T,.pointer (some ⟨ab,0,none⟩),.int .i64 (tg),av] 57),zap ab mb 139 29 (σ)] (.int .u64 (MemLike.get σ i)) [pt pb (.cells #[.int .i64 l.V,.int .i64 l.S,.int .i64 l.T,.pointer (some ⟨ab,0,none⟩),.int .i64 (tg),av] 57),zap ab mb 139 29 (σ)]:=by
 refine Fn.enter (Tryz.func34) Z Z (fun w0 R=>?_)
 refine sA (xai Z (dA (xmp Z (xN0 Z (xf 3 zbK Z (xlp 0 zdl Z Z (xmi Z (xD [1] ziU zpW Z ?_))))))))
 refine xmu Z (xei Z Z (xei Z Z (xai Z (xai Z (dA (xmi Z (xai Z (dR ?_))))))))
 refine FQ.ret1 (v:=(.int _ _)) (Bs:=[_,_]) [0,1] Z Z Z ⟨Z,Z,Zt⟩ ?_
 exact ⟨Z,Z⟩
theorem zqQ {l:Lay} (hl:l.Ok) {pb ab mb:Nat} {tg:Int} {av:Value} {σ:Array UInt64} {x f:Int}:FnD Tryz.prog 42 [.pointer (some ⟨pb,0,none⟩),.int .i64 x,.int .i64 f] [pt pb (.cells #[.int .i64 l.V,.int .i64 l.S,.int .i64 l.T,.pointer (some ⟨ab,0,none⟩),.int .i64 (tg),av] 57),zap ab mb 139 29 (σ)] (.int .i64 (zbH l σ x f)) [pt pb (.cells #[.int .i64 l.V,.int .i64 l.S,.int .i64 l.T,.pointer (some ⟨ab,0,none⟩),.int .i64 (tg),av] 57),zap ab mb 139 29 (σ)]:=by
 have hrg:=zlO σ (l.field x f)
 refine Fn.enter (Tryz.func42) Z Z (fun w0 R=>?_)
 refine sA (xai Z (dA (xmp Z (xmp Z (xN0 Z (xf 0 zaL Z (xL3 0 zac Z Z (xmi Z ?_))))))))
 refine xmi Z (xD [] (zba hl) zcp Z (xD [0,1] zm1 zw2 Z (xai Z (dA (xmi Z (xD [] (zpq (MemLike.rng _ _)) zw3 Z (TL.alloc 2 (cs:=#[.int .i64 0,.int .i64 0,.int .i64 0,.int .i64 0]) zne Z Z Z (fun _=>Zt) (fun bk2=>(TL.stW 2 4 [_,_,_,_] Z Z Z Z Z Z zgh Z Z Zt ?_)))))))))
 refine dS (TC.seq (TC.draw (od [1,3,5,7,9,11,13,15,17,19,21,23,25]) [0,2] fc_m (by kernel_rfl) (xf 2 zeZ Z (xli 2 zaa Z Z (TL.lss Z Z Z Z (fun q1=>?_) (fun q1=>?_))))))
 refine xmt Z (xo Z (xo Z (xo Z (xo Z (xo Z (xo Z (xo Z (xo Z ?_))))))))
 refine xpT Z (dT Z (xf 1 ze0 Z (xli 2 zaa Z Z (xai Z (dRR ?_)))))
 refine FQ.ret1 (v:=(.int _ _)) (Bs:=[_,_]) [0,1] Z Z Z ⟨Z,Z,Zt⟩ ?_
 first | exact ⟨iE (by unfold zbH; rw [Zp (by omega)]),Z⟩ | exact ⟨iE (by unfold zbH; rw [Zn (by omega)]),Z⟩
 refine xmf Z (xf 2 zeZ Z (xli 2 zaa Z Z (xmp Z (xN0 Z (xf 0 zaL Z (xf 2 ze3 Z (xli 0 zaa Z Z (TL.gtr Z Z Z Z (fun q2=>?_) (fun q2=>?_)))))))))
 refine xpH Z (dT Z (xf 1 ze0 Z (xli 2 zaa Z Z (xai Z (dRR ?_)))))
 refine FQ.ret1 (v:=(.int _ _)) (Bs:=[_,_]) [0,1] Z Z Z ⟨Z,Z,Zt⟩ ?_
 first | exact ⟨iE (by unfold zbH; rw [Zp (by omega)]),Z⟩ | exact ⟨iE (by unfold zbH; rw [Zn (by omega)]),Z⟩
 refine xpF Z (TL.done (TQ.then (TC.condF Z (TC.skip (TQ.then (TC.seq (TC.draw (od [1,3,5,7,9,11,13,15,16,18,20,23]) [0,2] fc_m (by kernel_rfl) (xmi Z ?_))))))))
 refine xmp Z (xmp Z (xN0 Z (xf 0 zaL Z (xL3 0 zac Z Z (xf 2 zeZ Z (xli 2 zaa Z Z (xd [] (zmY hl) zwZ Z (kL2 Z Z Zt) (xd [0,1] zm1 zw2 Z (kL2 Z Z Zt) ?_))))))))
 refine xd [] (znT (MemLike.rng _ _) (MemLike.rng _ _)) zzw Z (kL2 Z Z Zt) (xai Z (dR ?_))
 refine FQ.ret1 (v:=(.int _ _)) (Bs:=[_,_]) [0,1] Z Z Z ⟨Z,Z,Zt⟩ ?_
 first | exact ⟨iE (by unfold zbH; rw [Zp (by omega)]),Z⟩ | exact ⟨iE (by unfold zbH; rw [Zn (by omega)]),Z⟩
theorem zdJ {l:Lay} (hl:l.Ok) {pb ab mb:Nat} {tg:Int} {av:Value} {σ:Array UInt64} {v:Int}:FnD Tryz.prog 45 [.pointer (some ⟨pb,0,none⟩),.int .i64 v] [pt pb (.cells #[.int .i64 l.V,.int .i64 l.S,.int .i64 l.T,.pointer (some ⟨ab,0,none⟩),.int .i64 (tg),av] 57),zap ab mb 139 29 (σ)] (.int .i64 (zaP l σ v)) [pt pb (.cells #[.int .i64 l.V,.int .i64 l.S,.int .i64 l.T,.pointer (some ⟨ab,0,none⟩),.int .i64 (tg),av] 57),zap ab mb 139 29 (σ)]:=by
 have hnb:=zaD hl
 refine Fn.enter (Tryz.func45) Z Z (fun w0 R=>?_)
 refine sA (xai Z (dA (xmp Z (xN0 Z (xf 0 zaL Z (xL3 0 zac Z Z (xmi Z (xD [] (zc6 hl) zfx Z ?_))))))))
 refine xai Z (dB (xai Z (dK (TC.loopK (X:=Nat×Int) [0] [0,1] (fun ⟨k,x⟩=>[(6,.int .i64 ((k:Nat):Int)),(5,.int .i64 x)]) (fun ⟨k,x⟩=>[]) (fun ⟨k,x⟩=>k<=l.nodes.toNat+1/\zeT l σ (l.nodes.toNat+1 - k) x=zaP l σ v) (fun ⟨k,x⟩=>l.nodes.toNat+1 - k) ((0,l.vertex 0 v)) ⟨Nat.zero_le _,Z⟩ ⟨Z,Z,Zt⟩ Zt (fun y hI=>?_)))))
 obtain ⟨k,x⟩:=y
 obtain ⟨hk,hr⟩:=hI
 replace hk:k<=l.nodes.toNat+1:=hk
 replace hr:zeT l σ (l.nodes.toNat+1 - k) x=zaP l σ v:=hr
 refine TC.sub (env':=[(6,_),(5,_),(0,_)]) (L':=[(0,_),(1,_)]) ⟨Z,Z,Z,Zt⟩ ⟨Z,Z,Zt⟩ (sB (xmi Z (xmp Z (xN0 Z (xf 0 zaL Z (xL3 0 zac Z Z (xD [] (zfi hl) zjL Z (TL.leq Z Z Z Z (fun q1=>?_) (fun q1=>?_)))))))))
 refine TL.done (TQ.then (TC.condT Z (TC.skip (TQ.then (TC.seq (TC.block (sA (xmp Z ?_))))))))
 refine xmi Z (xD [0,1] (zqQ hl) zAQ Z (xai Z (dB (xmi Z (TL.eql Z Z Z Z (fun q2=>?_) (fun q2=>?_))))))
 refine dT Z (xmi Z (xai Z (dRR (TQ.blockRet (TQ.thenRet (TQ.thenRet (TQ.blockRet (TQ.thenRet ?_))))))))
 refine FQ.ret1 (v:=(.int _ _)) (Bs:=[_,_]) [0,1] Z Z Z ⟨Z,Z,Zt⟩ ?_
 exact ⟨iE (zqT (by omega) (by assumption) hr),Z⟩
 refine TL.done (TQ.then (TC.condF Z (TC.skip (TQ.then (TC.region (xmi Z (xai Z (dI ?_))))))))
 refine xmi Z (TL.add (((k+1:Nat):Int)) Z Z (wrN (by omega)) Z Z (xai Z (TL.done (TQ.roundK ((k+1,_)) ⟨⟨(show k+1<=l.nodes.toNat+1 by omega),zn4 (by omega) (by assumption) hr⟩,(show l.nodes.toNat+1 - (k+1)<l.nodes.toNat+1 - k by omega)⟩ ⟨Z,Z,Zt⟩ Zt (kE1 Z Zt) (kL2 Z Z Zt)))))
 refine dE Z (sA (xai Z (dR ?_)))
 refine FQ.ret1 (v:=(.int _ _)) (Bs:=[_,_]) [0,1] Z Z Z ⟨Z,Z,Zt⟩ ?_
 obtain rfl:k=l.nodes.toNat+1:=by omega
 exact ⟨iE (by rw [<-hr,Nat.sub_self,zeT]),Z⟩
theorem zjt {l:Lay} (hl:l.Ok) {pb ab mb:Nat} {tg:Int} {av:Value} {σ:Array UInt64} {u v:Int}:Go.Eng.Fn Tryz.prog 80 [.pointer (some ⟨pb,0,none⟩),.int .i64 u,.int .i64 v] [pt pb (.cells #[.int .i64 l.V,.int .i64 l.S,.int .i64 l.T,.pointer (some ⟨ab,0,none⟩),.int .i64 (tg),av] 57),zap ab mb 139 29 (σ)] (fun x Bs=>Bs=[pt pb (.cells #[.int .i64 l.V,.int .i64 l.S,.int .i64 l.T,.pointer (some ⟨ab,0,none⟩),.int .i64 (tg),av] 57),zap ab mb 139 29 (zbl l (zau (zaP l σ u) (zaP l σ v)) [] 1 (zau (zaP l σ u) (zaP l σ v)).size σ),rowS x (zau (zaP l σ u) (zaP l σ v))]):=by
 have hwl:=zdY (x:=zaP l σ u) (y:=zaP l σ v)
 refine Fn.enter (Tryz.func80) Z Z (fun w0 R=>?_)
 refine sA (TL.asg (.slice none 0 0) Z Z Z (dA (xmp Z (xmi Z (xD [0,1] (zdJ hl) zim Z (xmp Z (xmi Z (xD [0,1] (zdJ hl) zim Z ?_))))))))
 refine xai Z (xai Z (dA (xmi Z (xmi Z (TL.min2 Z Z Z Z (TL.bsN 2 [_] (Tm.encI (min (zaP l σ u) (zaP l σ v))) zah zeV ⟨Z,Zt⟩ Z (lit1 Z) Z Z (fun bk2=>⟨Zt,?_⟩)))))))
 refine xas Z (dS (TC.seq (TC.conseq 2 (B:=ownA Tm.encI 1 3 (.slice (some ⟨bk2,0,none⟩) 1 1) #[min (zaP l σ u) (zaP l σ v)]) Z (fun h hh=>zsl Z h hh) (TC.region (xmi Z (xmi Z (TL.neq Z Z Z Z (fun q1=>?_) (fun q1=>?_))))))))
 refine TL.done (TQ.then (TC.condT Z (TC.region (xmv Z (xmi Z (xmi Z (TL.max2 Z Z Z Z (TL.bsN 3 [_] (Tm.encI (max (zaP l σ u) (zaP l σ v))) zah zeV ⟨Z,Zt⟩ Z (lit1 Z) Z Z (fun bk3=>⟨Zt,?_⟩)))))))))
 refine TL.appS 2 3 (d2:=#[max (zaP l σ u) (zaP l σ v)]) Z (Z) Z (fun _=>Z) Z Z (row1 Z) zeG (by decide) zc3 (by simp) Z Z (fun v4=>⟨Zt,?_⟩)
 refine xav Z (dS (TC.seq (TC.conseq 2 (B:=ownA Tm.encI 1 3 _ (zau (zaP l σ u) (zaP l σ v))) Z (fun _ h=>by first | (rw [zoT (by assumption)]; exact h) | (rw [zoU (by assumption)]; exact h)) (TC.ownW 2 Z (fun a7 g7 c7 hv7 hc7 ha7=>?_)))))
 first | cases hv7 | rw [hv7]
 refine TC.region (xmv Z (xz zah Z (xmi Z (dK (TC.loopK (X:=Nat) [0,6,9,31,32] [0,2] (fun k=>[(33,.int .i64 ((k:Nat):Int))]) (fun k=>[(1,zap ab mb 139 29 (zbl l (zau (zaP l σ u) (zaP l σ v)) [] 1 k σ))]) (fun k=>k<=(zau (zaP l σ u) (zaP l σ v)).size) (fun k=>(zau (zaP l σ u) (zaP l σ v)).size - k) (0) (Nat.zero_le _) ⟨Z,Zt⟩ ⟨Z,Zt⟩ (fun k hI=>(TC.sub (env':=[(33,_),(0,_),(6,_),(9,_),(31,_),(32,_)]) (L':=[(1,_),(0,_),(2,_)]) ⟨Z,Z,Z,Z,Z,Z,Zt⟩ ⟨Z,Z,Z,Zt⟩ (sA (TL.lss Z Z Z Z (fun q2=>?_) (fun q2=>?_))))))))))
 refine dS (TC.condT Z (TC.skip (TQ.then (TC.seq (TC.block (sA (TL.iaO Z ha7 Z zah (by omega) Z Z (TL.ldRS 2 (.int _ _) Z Z (zas ha7) (by omega) (Z) zaa Z Z ?_))))))))
 refine xai Z (TL.done (TQ.then (TC.draw (od [1,3,5,7,9,11,13,15,17,18,20]) [0] fc_m (by kernel_rfl) (xmp Z (xN0 Z (xf 3 zbK Z (xlp 0 zdl Z Z (xmp Z ?_))))))))
 refine xN0 Z (xf 0 zaL Z (xL3 0 zac Z Z (xmi Z (xd [] (zba hl) zcp Z (kL1 Z Zt) (xd [1] (ze6 (by decide)) zkN Z (kL1 Z Zt) (dI (TL.add (((k+1:Nat):Int)) Z Z (wrN (by omega)) Z Z (xmi Z ?_))))))))
 refine TL.done (TQ.roundK (k+1) ⟨by omega,by omega⟩ ⟨Z,Zt⟩ ⟨congrArg (fun z=>some (zap ab mb 139 29 (z))) zkw,Zt⟩ (kE5 Z Z Z Z Z Zt) (kL2 Z Z Zt))
 refine dS (TC.condF Z (TC.exit (TQ.thenExit (TQ.thenExit (TQ.blockHere (TQ.then (sA (xmv Z ?_))))))))
 refine xav Z (dR (TQ.conseq 2 (B:=rowS _ (zau (zaP l σ u) (zaP l σ v))) Z (fun _ h=>zgb h) ?_))
 refine FQ.ret1 (v:=_) (Bs:=[_,_,_]) [0,1,2] Z Z Z ⟨Z,Z,Z,Zt⟩ ?_
 obtain rfl:k=(zau (zaP l σ u) (zaP l σ v)).size:=by omega
 rfl
 refine TL.done (TQ.then (TC.condF Z (TC.skip (TQ.then (TC.seq (TC.seq (TC.conseq 2 (B:=ownA Tm.encI 1 3 _ (zau (zaP l σ u) (zaP l σ v))) Z (fun _ h=>by first | (rw [zoT (by assumption)]; exact h) | (rw [zoU (by assumption)]; exact h)) (TC.ownW 2 Z (fun a7 g7 c7 hv7 hc7 ha7=>?_)))))))))
 first | cases hv7 | rw [hv7]
 refine TC.region (xmv Z (xz zah Z (xmi Z (dK (TC.loopK (X:=Nat) [0,6,9,31,32] [0,2] (fun k=>[(33,.int .i64 ((k:Nat):Int))]) (fun k=>[(1,zap ab mb 139 29 (zbl l (zau (zaP l σ u) (zaP l σ v)) [] 1 k σ))]) (fun k=>k<=(zau (zaP l σ u) (zaP l σ v)).size) (fun k=>(zau (zaP l σ u) (zaP l σ v)).size - k) (0) (Nat.zero_le _) ⟨Z,Zt⟩ ⟨Z,Zt⟩ (fun k hI=>(TC.sub (env':=[(33,_),(0,_),(6,_),(9,_),(31,_),(32,_)]) (L':=[(1,_),(0,_),(2,_)]) ⟨Z,Z,Z,Z,Z,Z,Zt⟩ ⟨Z,Z,Z,Zt⟩ (sA (TL.lss Z Z Z Z (fun q2=>?_) (fun q2=>?_))))))))))
 refine dS (TC.condT Z (TC.skip (TQ.then (TC.seq (TC.block (sA (TL.iaO Z ha7 Z zah (by omega) Z Z (TL.ldRS 2 (.int _ _) Z Z (zas ha7) (by omega) (Z) zaa Z Z ?_))))))))
 refine xai Z (TL.done (TQ.then (TC.draw (od [1,3,5,7,9,11,13,15,17,18,20]) [0] fc_m (by kernel_rfl) (xmp Z (xN0 Z (xf 3 zbK Z (xlp 0 zdl Z Z (xmp Z ?_))))))))
 refine xN0 Z (xf 0 zaL Z (xL3 0 zac Z Z (xmi Z (xd [] (zba hl) zcp Z (kL1 Z Zt) (xd [1] (ze6 (by decide)) zkN Z (kL1 Z Zt) (dI (TL.add (((k+1:Nat):Int)) Z Z (wrN (by omega)) Z Z (xmi Z ?_))))))))
 refine TL.done (TQ.roundK (k+1) ⟨by omega,by omega⟩ ⟨Z,Zt⟩ ⟨congrArg (fun z=>some (zap ab mb 139 29 (z))) zkw,Zt⟩ (kE5 Z Z Z Z Z Zt) (kL2 Z Z Zt))
 refine dS (TC.condF Z (TC.exit (TQ.thenExit (TQ.thenExit (TQ.blockHere (TQ.then (sA (xmv Z ?_))))))))
 refine xav Z (dR (TQ.conseq 2 (B:=rowS _ (zau (zaP l σ u) (zaP l σ v))) Z (fun _ h=>zgb h) ?_))
 refine FQ.ret1 (v:=_) (Bs:=[_,_,_]) [0,1,2] Z Z Z ⟨Z,Z,Z,Zt⟩ ?_
 obtain rfl:k=(zau (zaP l σ u) (zaP l σ v)).size:=by omega
 rfl
theorem zkU {l:Lay} (hl:l.Ok) {da oa:Option Addr} {dn dc on oc bd offd:Nat} {Ad:Assn} {fd:Nat->Int} (hda:0<dn->da=some ⟨bd,offd,none⟩) (hAd:za8 Ad encU 1 bd offd dn fd) (hfd:∀ i,i<dn->0<=fd i/\fd i<18446744073709551616) (hdn:dn<=60)  : Go.Eng.Fn Tryz.prog 25 [.agg #[.int .i64 l.V,.int .i64 l.S,.int .i64 l.T,.slice da dn dc,.slice oa on oc]] [Ad] (fun x Bs=>∃ pb ab mb,x=.pointer (some ⟨pb,0,none⟩)/\Bs=[Ad,pt pb (.cells #[.int .i64 l.V,.int .i64 l.S,.int .i64 l.T,.pointer (some ⟨ab,0,none⟩),.int .i64 (0),.slice none 0 0] 57),zap ab mb 139 29 (zf0 l dn fd (Array.replicate l.cells.toNat 0))]):=by
 refine Fn.enter (Tryz.func25) Z Z (fun w0 R=>?_)
 refine sA (xB 1 Z (fun bk1=>(TL.asg (.pointer none) Z Z Z (dA (xf 0 ze2 Z (xL3 1 zac Z Z (xf 3 zkJ Z (xls 1 zgv Z Z (TL.call [0] [0,2] (zv8 hl hda hAd hfd (by omega)) ⟨Z,Z,Zt⟩ ⟨Z,Zt⟩ zAL Z Z Z Z ?_)))))))))
 rintro v Bs ⟨ab,mb,rfl,rfl⟩
 refine ⟨Z,Zt,?_⟩
 refine xmu Z (TL.ext (.pointer (some ⟨_,_,none⟩)) Z Z Z Z (xei Z Z (xap Z (xai Z (dB (xmi Z (TL.neqF Z Z (by decide) Z Z (xmf Z ?_))))))))
 refine xmp Z (TL.nilP false Z Z zwW Z Z Z (xpF Z (dF Z (xf 0 ze2 Z (xL3 1 zac Z Z (xmp Z (TL.bld [.int .i64 0,.int .i64 0,.int .i64 0,.pointer none,.int .i64 0,.slice none 0 0] [(.agg _),(.pointer (some ⟨_,_,none⟩))] [_,_,_,_,_,_] zAv zAF ⟨Z,Z,Zt⟩ ⟨Z,Z⟩ Z Z (xB 3 Z (fun bk3=>?_)))))))))
 refine xap Z (dR ?_)
 refine FQ.ret1 (v:=(.pointer (some ⟨_,_,none⟩))) (Bs:=[_,_,_]) [0,3,2] Z Z Z ⟨Z,Z,Z,Zt⟩ ?_
 exact ⟨_,_,_,Z,Z⟩
set_option maxHeartbeats 2000000 in
theorem zkV  : FnD Tryz.prog 15 [] [] (.bool true) []:=by
 obtain ⟨b,τ,P,hg,hP,hne,hTr,hrs,⟨n,hpn,hn1,hn2,hw1,hw2⟩,hv,hw9,hok,hr0,hr1⟩:=zv9
 have hts:0<t19.size/\t19.size<=20000:=by decide +kernel
 have hhs:h19.size<=2:=zdY
 refine Fn.enter (Tryz.func15) Z Z (fun w0 R=>?_)
 refine TC.seq (TC.nilA 0 (A:=fun _=>True) Zt (TC.region (xaf Z (dA (TL.bld [.int .i64 0,.int .i64 0,.int .i64 0] [(.int _ _),(.int _ _),(.int _ _)] [_,_,_] zAz zAH ⟨Z,Z,Z,Zt⟩ ⟨Z,Z⟩ Z Z (TL.bld [.int .i64 0,.int .i64 0,.int .i64 0,.slice none 0 0,.slice none 0 0] [(.agg _)] [_,_,_,_,_] zAy zAG ⟨Z,Zt⟩ ⟨Z,Z⟩ Z Z ?_))))))
 refine TL.call [0] [0,1,2] (zkU (l:=l19) (da:=none) (dn:=0) (dc:=0) (Ad:=fun _=>True) (bd:=0) (offd:=0) (fd:=fun _=>0) zgt (fun h=>absurd h (Nat.lt_irrefl 0)) (fun _ _ i hi=>absurd hi (Nat.not_lt_zero i)) (fun i hi=>absurd hi (Nat.not_lt_zero i)) (by decide)) ⟨Z,Zt⟩ ⟨Z,Zt⟩ zw4 Z Z Z Z ?_
 rintro x Bs ⟨pb,ab,mb,rfl,rfl⟩
 refine ⟨Z,Zt,?_⟩
 refine xap Z (dB (xmp Z (TL.nilP false Z Z zwV Z Z Z (dF Z (xmp Z (TL.call [1,2] [1,2,3] (zjt (l:=l19) zgt) ⟨Z,Z,Z,Zt⟩ ⟨Z,Z,Zt⟩ ztg Z Z Z Z ?_))))))
 rintro r9 Bs rfl
 refine ⟨Z,Zt,?_⟩
 refine TL.rowS 3 Z (fun a9 b9 o9 c9 hv9 hc9 ha9=>⟨Zt,?_⟩)
 cases hv9
 rw [show zbl l19 (zau (zaP l19 (zf0 l19 0 (fun _=>0) (Array.replicate l19.cells.toNat 0)) 0) (zaP l19 (zf0 l19 0 (fun _=>0) (Array.replicate l19.cells.toNat 0)) 1)) [] 1 (zau (zaP l19 (zf0 l19 0 (fun _=>0) (Array.replicate l19.cells.toNat 0)) 0) (zaP l19 (zf0 l19 0 (fun _=>0) (Array.replicate l19.cells.toNat 0)) 1)).size (zf0 l19 0 (fun _=>0) (Array.replicate l19.cells.toNat 0))=t19 from Z]
 refine xas Z (dS (TC.drawT (.br [(0,true),(1,true),(2,true),(3,true),(4,true),(5,true),(6,true),(7,true),(8,true),(9,true)] 10 11 (.fin [(11,false),(12,false)]) (.fin [(10,false),(12,false)])) [1] fc_m (by kernel_rfl) (TT.br (xmp Z (xN0 Z (xf 3 zbK Z (xlp 1 zdl Z Z (xmp Z (xN0 Z ?_)))))))))
 refine xf 0 zaL Z (xL3 1 zac Z Z (TL.bld [.int .i64 0,.int .i64 0] [(.int _ _)] [_,_] zfT zjC ⟨Z,Zt⟩ ⟨Z,Z⟩ Z Z (xms Z (TL.both ?_ ?_))))
 refine TL.openE 2 Z (fun n0=>⟨(kL1 Z Zt),?_⟩)
 refine TL.call [2,3] [2,3,4,5] (zhC (p:=⟨1,0⟩) zgt ha9 hhs Z zdp hts.1 hts.2 hg hP hne) ⟨Z,Z,Z,Z,Z,Z,Z,Zt⟩ ⟨Z,Z,Zt⟩ ztf Z Z Z Z ?_
 rintro r9 Bs ⟨xa,xc,ya,yc,rfl,rfl⟩
 refine ⟨Z,(kL1 Z Zt),?_⟩
 refine TL.conseq 2 (B:=zap ab mb 139 29 (t19)) Z (fun h hh=>zdF hh) (kL1 Z Zt) (TL.ownW 4 Z (fun a8 g8 c8 hv8 hc8 ha8=>?_))
 cases hv8
 refine TL.rowS 5 Z (fun a7 b7 o7 c7 hv7 hc7 ha7=>⟨(kL1 Z Zt),?_⟩)
 cases hv7
 refine TL.tree (TT.fin (TL.alloc 6 (cs:=#[.slice none 0 0,.int .i64 0,.bool false,.slice none 0 0]) zb3 Z Z Z (fun _=>(kL1 Z Zt)) (fun bk6=>(TL.stW 6 4 [_,_,_,_] Z Z Z Z Z Z zat Z Z (kL1 Z Zt) (dB (xf 2 zh0 Z (xlb 6 zem Z Z ?_)))))))
 rw [hTr]
 refine xnt Z (xmf Z (xf 3 zdw Z (xls 6 zhq Z Z (xz zah Z (TL.neqF Z Z (by omega) Z Z (xpF Z (xmf Z (xf 1 zcj Z ?_))))))))
 refine xli 6 zaa Z Z (TL.lssF Z Z (by omega) Z Z (xpF Z (xmf Z (xf 1 zcj Z (xli 6 zaa Z Z (xf 0 zbg Z (xls 6 zco Z Z (xz zal Z ?_))))))))
 refine TL.geqF Z Z (by omega) Z Z (xpF Z (xmf Z (xf 0 zbg Z (xls 6 zco Z Z (xf 1 zcj Z (xli 6 zaa Z Z ?_))))))
 rw [hpn]
 refine TL.iaO Z ha8 Z zal (by omega) Z Z (xf 0 zdx Z (TL.ldRF 4 (.bool true) Z Z (zas ha8) (by omega) Z (congrArg (fun z=>some (Value.bool z)) hw1) zem Z Z (xnt Z (xpF Z (xmf Z (xf 0 zbg Z (xls 6 zco Z Z (xf 1 zcj Z ?_))))))))
 refine xli 6 zaa Z Z ?_
 first | rw [hpn] | skip
 refine TL.iaO Z ha8 Z zal (by omega) Z Z (xf 1 zbt Z (TL.ldRF 4 (.int .i64 0) Z Z (zas ha8) (by omega) Z (congrArg (fun z=>some (Value.int .i64 z)) hw2) zaa Z Z (TL.cmpF Z Z Z (by decide) Z Z (xpF Z (dF Z (xf 0 zbg Z (xls 6 zco Z Z (TL.call [4] [4,7,8] (zjn ha8 (by omega) (zas ha8)) ⟨Z,Zt⟩ ⟨Z,Zt⟩ ztI Z Z Z Z ?_))))))))
 rintro x Bs ⟨rb,v,rfl,rfl⟩
 refine ⟨Z,Zt,?_⟩
 rw [ziA]
 refine TL.ownW 8 Z (fun a6 g6 c6 hv6 hc6 ha6=>?_)
 cases hv6
 refine xap Z (dB (xmp Z (TL.nilP false Z Z ztd Z Z Z (xmf Z (xmp Z (xD [7] zf7 zkM Z ?_))))))
 rw [decide_eq_false (show ¬(0:Int)=(P.work.size:Int) by omega)]
 refine xpF Z (TL.done (TQ.then (TC.condF Z (TC.skip (TQ.then (sB (xai Z (dK ?_))))))))
 refine TC.loopK (X:=Nat) [1,3,4] [0,1,3,4,5,6,8] (fun k=>[(5,.int .i64 ((k:Nat):Int))]) (fun k=>[(7,pt rb (.cells #[.slice a6 P.work.size c6,.int .i64 (((k:Nat):Int)),.bool (badA t19 P.work k)] 145)),(2,zap ab mb 139 29 (runA t19 P.work k))]) (fun k=>k<P.work.size) (fun k=>P.work.size - k) (0) (by omega) ⟨Z,Zt⟩ ⟨Z,Z,Zt⟩ (fun k hI=>(TC.sub (env':=[(5,_),(1,_),(3,_),(4,_)]) (L':=[(7,_),(2,_),(0,_),(1,_),(3,_),(4,_),(5,_),(6,_),(8,_)]) ⟨Z,Z,Z,Z,Zt⟩ ⟨Z,Z,Z,Z,Z,Z,Z,Z,Z,Zt⟩ (sB (xmp Z (xmp Z (xN0 Z (xf 3 zbK Z (xlp 1 zdl Z Z ?_))))))))
 refine xD [7,8,2] (znO (by omega) hc6 ha6 hI hv) ztB Z ?_
 rw [show (badA t19 P.work k || !accG P.work[k]! (runA t19 P.work k))=badA t19 P.work (k+1) from Z,show acc1 P.work[k]! (runA t19 P.work k)=runA t19 P.work (k+1) from Z]
 refine TL.casesP Z (fun q1=>?_) (fun q1=>?_)
 refine xnt Z (dE Z (TC.seq ?_))
 have hk2:k+1=P.work.size:=by assumption
 rw [hk2]
 have hbd:badA t19 P.work P.work.size=false:=zoL hok (Nat.le_refl _)
 refine TC.draw (od [1,2,5,7,11,13,15,8,17,19,21,23,27,24,28,31,33,35,37,41,43,45,47,38,49,51,53]) [5,6] fc_m (by kernel_rfl) (xmp Z (xd [7] zld ztt Z (kL2 Z Z Zt) ?_))
 rw [hbd]
 refine xmt Z (xmp Z (xf 0 zbg Z (xls 6 zco Z Z (xz zal Z (xd [7] zmG zw6 Z (kL2 Z Z Zt) (TL.eqlT Z Z Z Z Z (xpT Z (xmt Z ?_))))))))
 refine xmp Z (xmp Z (xd [1,2] (zdJ (l:=l19) zgt) zim Z (kL2 Z Z Zt) (xd [1,2] (zdJ (l:=l19) zgt) zim Z (kL2 Z Z Zt) (TL.eqlT Z Z (hr0.trans hr1.symm) Z Z (xpT Z (xmt Z (xmp Z (xf 3 zdw Z ?_))))))))
 refine xls 6 zhq Z Z (TL.iaO (i:=0) Z ha7 Z zah (by omega) Z Z (TL.ldRS 5 (.int _ _) Z Z zdp (by omega) (Z) zaa Z Z (xd [1,2] (zdJ (l:=l19) zgt) zim Z (kL2 Z Z Zt) (TL.eqlT Z Z hr0 Z Z (xpT Z (xat Z (dR ?_)))))))
 refine FQ.ret1 (v:=(.bool true)) (Bs:=[]) [] Z Z Z Zt ?_
 exact ⟨Z,Z⟩
 refine xnf Z (TL.done (TQ.then (TC.condT Z (TC.skip (TQ.then (TC.seq (TC.block (sA ?_))))))))
 refine xmi Z (TL.gtrF Z Z (by omega) Z Z (TL.done (TQ.then (TC.condF Z (TC.skip (TQ.inBlock (TQ.then (TC.region ?_))))))))
 refine xmi Z (TL.add (((k+1:Nat):Int)) Z Z (wrN (by omega)) Z Z (xai Z (TL.done (TQ.roundK (k+1) ⟨by omega,by omega⟩ ⟨Z,Zt⟩ ⟨Z,Z,Zt⟩ (kE3 Z Z Z Zt) (kL7 Z Z Z Z Z Z Z Zt)))))
 refine TL.alloc 9 (cs:=#[.slice none 0 0,.int .i64 0,.bool false,.slice none 0 0]) zb3 Z Z Z (fun _=>(kL1 Z Zt)) (fun bk9=>(TL.tree (TT.fin (TL.openE 2 Z (fun n0=>⟨(kL1 Z Zt),?_⟩)))))
 refine TL.call [2,3] [2,3,10,11] (zhC (p:=⟨1,0⟩) zgt ha9 hhs Z zdp hts.1 hts.2 hg hP hne) ⟨Z,Z,Z,Z,Z,Z,Z,Zt⟩ ⟨Z,Z,Zt⟩ ztf Z Z Z Z ?_
 rintro r9 Bs ⟨xa,xc,ya,yc,rfl,rfl⟩
 refine ⟨Z,(kL1 Z Zt),?_⟩
 refine TL.conseq 2 (B:=zap ab mb 139 29 (t19)) Z (fun h hh=>zdF hh) (kL1 Z Zt) (TL.ownW 10 Z (fun a8 g8 c8 hv8 hc8 ha8=>?_))
 cases hv8
 refine TL.rowS 11 Z (fun a7 b7 o7 c7 hv7 hc7 ha7=>⟨(kL1 Z Zt),?_⟩)
 cases hv7
 refine TL.stW 9 4 [_,_,_,_] Z Z Z Z Z Z zat Z Z (kL1 Z Zt) (dB (xf 2 zh0 Z (xlb 9 zem Z Z ?_)))
 rw [hTr]
 refine xnt Z (xmf Z (xf 3 zdw Z (xls 9 zhq Z Z (xz zah Z (TL.neqF Z Z (by omega) Z Z (xpF Z (xmf Z (xf 1 zcj Z ?_))))))))
 refine xli 9 zaa Z Z (TL.lssF Z Z (by omega) Z Z (xpF Z (xmf Z (xf 1 zcj Z (xli 9 zaa Z Z (xf 0 zbg Z (xls 9 zco Z Z (xz zal Z ?_))))))))
 refine TL.geqF Z Z (by omega) Z Z (xpF Z (xmf Z (xf 0 zbg Z (xls 9 zco Z Z (xf 1 zcj Z (xli 9 zaa Z Z ?_))))))
 rw [hpn]
 refine TL.iaO Z ha8 Z zal (by omega) Z Z (xf 0 zdx Z (TL.ldRF 10 (.bool true) Z Z (zas ha8) (by omega) Z (congrArg (fun z=>some (Value.bool z)) hw1) zem Z Z (xnt Z (xpF Z (xmf Z (xf 0 zbg Z (xls 9 zco Z Z (xf 1 zcj Z ?_))))))))
 refine xli 9 zaa Z Z ?_
 first | rw [hpn] | skip
 refine TL.iaO Z ha8 Z zal (by omega) Z Z (xf 1 zbt Z (TL.ldRF 10 (.int .i64 0) Z Z (zas ha8) (by omega) Z (congrArg (fun z=>some (Value.int .i64 z)) hw2) zaa Z Z (TL.cmpF Z Z Z (by decide) Z Z (xpF Z (dF Z (xf 0 zbg Z (xls 9 zco Z Z (TL.call [10] [10,12,13] (zjn ha8 (by omega) (zas ha8)) ⟨Z,Zt⟩ ⟨Z,Zt⟩ ztI Z Z Z Z ?_))))))))
 rintro x Bs ⟨rb,v,rfl,rfl⟩
 refine ⟨Z,Zt,?_⟩
 rw [ziA]
 refine TL.ownW 13 Z (fun a6 g6 c6 hv6 hc6 ha6=>?_)
 cases hv6
 refine xap Z (dB (xmp Z (TL.nilP false Z Z ztd Z Z Z (xmf Z (xmp Z (xD [12] zf7 zkM Z ?_))))))
 rw [decide_eq_false (show ¬(0:Int)=(P.work.size:Int) by omega)]
 refine xpF Z (TL.done (TQ.then (TC.condF Z (TC.skip (TQ.then (sB (xai Z (dK ?_))))))))
 refine TC.loopK (X:=Nat) [1,3,4] [0,1,3,9,10,11,13] (fun k=>[(5,.int .i64 ((k:Nat):Int))]) (fun k=>[(12,pt rb (.cells #[.slice a6 P.work.size c6,.int .i64 (((k:Nat):Int)),.bool (badA t19 P.work k)] 145)),(2,zap ab mb 139 29 (runA t19 P.work k))]) (fun k=>k<P.work.size) (fun k=>P.work.size - k) (0) (by omega) ⟨Z,Zt⟩ ⟨Z,Z,Zt⟩ (fun k hI=>(TC.sub (env':=[(5,_),(1,_),(3,_),(4,_)]) (L':=[(12,_),(2,_),(0,_),(1,_),(3,_),(9,_),(10,_),(11,_),(13,_)]) ⟨Z,Z,Z,Z,Zt⟩ ⟨Z,Z,Z,Z,Z,Z,Z,Z,Z,Zt⟩ (sB (xmp Z (xmp Z (xN0 Z (xf 3 zbK Z (xlp 1 zdl Z Z ?_))))))))
 refine xD [12,13,2] (znO (by omega) hc6 ha6 hI hv) ztB Z ?_
 rw [show (badA t19 P.work k || !accG P.work[k]! (runA t19 P.work k))=badA t19 P.work (k+1) from Z,show acc1 P.work[k]! (runA t19 P.work k)=runA t19 P.work (k+1) from Z]
 refine TL.casesP Z (fun q1=>?_) (fun q1=>?_)
 refine xnt Z (dE Z (TC.seq ?_))
 have hk2:k+1=P.work.size:=by assumption
 rw [hk2]
 have hbd:badA t19 P.work P.work.size=false:=zoL hok (Nat.le_refl _)
 refine TC.draw (od [1,2,5,7,11,13,15,8,17,19,21,23,27,24,28,31,33,35,37,41,43,45,47,38,49,51,53]) [9,11] fc_m (by kernel_rfl) (xmp Z (xd [12] zld ztt Z (kL2 Z Z Zt) ?_))
 rw [hbd]
 refine xmt Z (xmp Z (xf 0 zbg Z (xls 9 zco Z Z (xz zal Z (xd [12] zmG zw6 Z (kL2 Z Z Zt) (TL.eqlT Z Z Z Z Z (xpT Z (xmt Z ?_))))))))
 refine xmp Z (xmp Z (xd [1,2] (zdJ (l:=l19) zgt) zim Z (kL2 Z Z Zt) (xd [1,2] (zdJ (l:=l19) zgt) zim Z (kL2 Z Z Zt) (TL.eqlT Z Z (hr0.trans hr1.symm) Z Z (xpT Z (xmt Z (xmp Z (xf 3 zdw Z ?_))))))))
 refine xls 9 zhq Z Z (TL.iaO (i:=0) Z ha7 Z zah (by omega) Z Z (TL.ldRS 11 (.int _ _) Z Z zdp (by omega) (Z) zaa Z Z (xd [1,2] (zdJ (l:=l19) zgt) zim Z (kL2 Z Z Zt) (TL.eqlT Z Z hr0 Z Z (xpT Z (xat Z (dR ?_)))))))
 refine FQ.ret1 (v:=(.bool true)) (Bs:=[]) [] Z Z Z Zt ?_
 exact ⟨Z,Z⟩
 refine xnf Z (TL.done (TQ.then (TC.condT Z (TC.skip (TQ.then (TC.seq (TC.block (sA ?_))))))))
 refine xmi Z (TL.gtrF Z Z (by omega) Z Z (TL.done (TQ.then (TC.condF Z (TC.skip (TQ.inBlock (TQ.then (TC.region ?_))))))))
 refine xmi Z (TL.add (((k+1:Nat):Int)) Z Z (wrN (by omega)) Z Z (xai Z (TL.done (TQ.roundK (k+1) ⟨by omega,by omega⟩ ⟨Z,Zt⟩ ⟨Z,Z,Zt⟩ (kE3 Z Z Z Zt) (kL7 Z Z Z Z Z Z Z Zt)))))
end Go.Proofs.YtabjfnfglcghfaaGreat
