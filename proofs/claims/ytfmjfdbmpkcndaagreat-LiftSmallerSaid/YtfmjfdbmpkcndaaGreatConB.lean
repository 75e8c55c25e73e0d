import Derived.Test.YtfmjfdbmpkcndaaGreatConA
set_option linter.unusedVariables false
set_option linter.unusedSimpArgs false
set_option maxRecDepth 20000
namespace Go.Proofs.YtfmjfdbmpkcndaaGreat
open Go.Eng Go.Tm
theorem smaller_ok {S : Type} [MemLike S] {mt : TypeId} {mv : Value} {A : S → Assn} (hM : MemI Tryz.prog mt mv A) {l : Lay} (hl : l.Ok) {p : Pen} {σ : S} {i u v r : Int} {k : Nat} {σ2 : S} (h : smaller l k σ i u v = some (r, σ2)) : FnD Tryz.prog 26 [adjV l mt mv p, .int .i64 i, .int .i64 u, .int .i64 v] [A σ] (.int .i64 r) [A σ2] := by
  unfold smaller at h
  obtain ⟨⟨a, σ1⟩, h1, h⟩ := Option.bind_eq_some_iff.1 h
  obtain ⟨⟨b, σ3⟩, h2, h⟩ := Option.bind_eq_some_iff.1 h
  dsimp only at h2 h
  cases h
  refine Fn.enter (Tryz.func26) rfl rfl (fun w0 R => ?_)
  refine TC.seq (TC.region ?_)
  refine TL.boxA 1 rfl rfl rfl (fun _ => trivial) (fun bk1 => ?_)
  refine TL.asg (.int _ _) rfl rfl rfl ?_
  refine TL.done (TQ.then (TC.seq (TC.seq ?_)))
  refine TC.draw [(0, true), (1, true), (2, true), (3, true), (4, true), (6, true), (7, true), (8, true), (9, true), (10, true), (5, false), (11, false), (12, true)] [1] fc_m (by kernel_rfl) ?_
  refine TL.fa 0 rfl fc_f51_0_0 rfl rfl ?_
  refine TL.fa 0 rfl fc_f49_0_0 rfl rfl ?_
  refine TL.ldA 1 6 [_, _, _, _, _, _] rfl rfl rfl fc_a45_6 rfl rfl ?_
  refine TL.mv (.int _ _) rfl rfl rfl ?_
  refine TL.mv (.int _ _) rfl rfl rfl ?_
  refine TL.fa 0 rfl fc_f51_0_0 rfl rfl ?_
  refine TL.fa 0 rfl fc_f49_0_0 rfl rfl ?_
  refine TL.ldA 1 6 [_, _, _, _, _, _] rfl rfl rfl fc_a45_6 rfl rfl ?_
  refine TL.mv (.int _ _) rfl rfl rfl ?_
  refine TL.mv (.int _ _) rfl rfl rfl ?_
  refine TL.callD [0] [0] (count_ok hM hl h1) ⟨rfl, rfl, rfl, trivial⟩ ⟨rfl, trivial⟩ fc_c76 rfl rfl rfl rfl rfl (.cons rfl rfl trivial) ?_
  refine TL.callD [0] [0] (count_ok hM hl h2) ⟨rfl, rfl, rfl, trivial⟩ ⟨rfl, trivial⟩ fc_c76 rfl rfl rfl rfl rfl (.cons rfl rfl trivial) ?_
  refine TL.lss rfl rfl rfl rfl (fun q1 => ?_) (fun q1 => ?_)
  refine TL.done (TQ.then (TC.condT rfl (TC.seq (TC.region ?_))))
  refine TL.mv (.int _ _) rfl rfl rfl ?_
  refine TL.asg (.int _ _) rfl rfl rfl ?_
  refine TL.done (TQ.then (TC.ret (TQ.thenRet ?_)))
  refine FQ.ret1 (v := (.int _ _)) (Bs := [A _]) [0] rfl rfl rfl ⟨rfl, trivial⟩ ?_
  first | exact ⟨iE (by rw [if_pos q1]), rfl⟩ | exact ⟨iE (by rw [if_neg q1]), rfl⟩
  refine TL.done (TQ.then (TC.condF rfl (TC.skip (TQ.then (TC.seq (TC.region ?_))))))
  refine TL.mv (.int _ _) rfl rfl rfl ?_
  refine TL.asg (.int _ _) rfl rfl rfl ?_
  refine TL.done (TQ.then (TC.ret ?_))
  refine FQ.ret1 (v := (.int _ _)) (Bs := [A _]) [0] rfl rfl rfl ⟨rfl, trivial⟩ ?_
  first | exact ⟨iE (by rw [if_pos q1]), rfl⟩ | exact ⟨iE (by rw [if_neg q1]), rfl⟩

theorem at_Li {ab mb N : Nat} {c : Cnt} {i : Int} (h0 : 0 ≤ i) (h1 : i < N) : Go.Eng.Fn Tryz.prog 94 [.pointer (some ⟨ab, 0, none⟩), .int .i64 i, .pointer (some ⟨ab, 1, none⟩)] [arO ab mb (N) 149 c] (fun v Bs => v = .pointer (some ⟨mb, 0 + i.toNat * 1, none⟩) ∧ ∃ c2, Bs = [arO ab mb (N) 149 c2]) := by
  refine Fn.enter (Tryz.func94) rfl rfl (fun w0 R => ?_)
  refine TC.seq (TC.region ?_)
  refine TL.asg (.pointer none) rfl rfl rfl ?_
  refine TL.done (TQ.then (TC.seq (TC.seq (TC.region ?_))))
  refine TL.mv (.int _ _) rfl rfl rfl ?_
  refine TL.lssF rfl rfl (by omega) rfl rfl ?_
  refine TL.mv (.bool false) rfl rfl rfl ?_
  refine TL.mv (.int _ _) rfl rfl rfl ?_
  refine TL.mv (.pointer (some ⟨_, _, none⟩)) rfl rfl rfl ?_
  refine TL.nc rfl rfl rfl ?_
  refine TL.fa 0 rfl fc_f149_0_0 rfl rfl ?_
  refine TL.ld 0 (.slice _ _ _) rfl rfl rfl fc_s24 rfl rfl ?_
  refine TL.lenS rfl fc_l24_110_1 rfl rfl ?_
  refine TL.geqF rfl rfl (by omega) rfl rfl ?_
  refine TL.pickF (.bool false) rfl rfl rfl rfl ?_
  refine TL.done (TQ.then (TC.condF rfl (TC.skip (TQ.then (TC.seq (TC.region ?_))))))
  refine TL.mv (.pointer (some ⟨_, _, none⟩)) rfl rfl rfl ?_
  refine TL.nc rfl rfl rfl ?_
  refine TL.ld 0 (.int _ _) rfl rfl rfl fc_s3 rfl rfl ?_
  refine TL.add _ rfl rfl (rfl) rfl rfl ?_
  refine TL.nc rfl rfl rfl ?_
  refine TL.st 0 #[_, _, _, _, _, _] (.int _ _) rfl rfl rfl rfl rfl rfl fc_s3 rfl rfl trivial ?_
  refine TL.done (TQ.then (TC.seq (TC.region ?_)))
  refine TL.mv (.pointer (some ⟨_, _, none⟩)) rfl rfl rfl ?_
  refine TL.nc rfl rfl rfl ?_
  refine TL.fa 0 rfl fc_f149_0_0 rfl rfl ?_
  refine TL.ld 0 (.slice _ _ _) rfl rfl rfl fc_s24 rfl rfl ?_
  refine TL.mv (.int _ _) rfl rfl rfl ?_
  refine TL.ia _ rfl rfl fc_l24_110_1 (by omega) (by omega) rfl rfl rfl ?_
  refine TL.asg (.pointer (some ⟨_, _, none⟩)) rfl rfl rfl ?_
  refine TL.done (TQ.then (TC.ret ?_))
  refine FQ.ret1 (v := (.pointer (some ⟨_, _, none⟩))) (Bs := [_]) [0] rfl rfl rfl ⟨rfl, trivial⟩ ?_
  exact ⟨rfl, ⟨IntKind.i64.wrap (c.c1 + 1), c.c2, c.c3, c.c4, c.c5⟩, rfl⟩

theorem at_Lo {ab mb N : Nat} {c : Cnt} {i : Int} (h : ¬ (0 ≤ i ∧ i < N)) : FnD Tryz.prog 94 [.pointer (some ⟨ab, 0, none⟩), .int .i64 i, .pointer (some ⟨ab, 1, none⟩)] [arO ab mb (N) 149 c] (.pointer none) [arO ab mb (N) 149 c] := by
  refine Fn.enter (Tryz.func94) rfl rfl (fun w0 R => ?_)
  refine TC.seq (TC.region ?_)
  refine TL.asg (.pointer none) rfl rfl rfl ?_
  refine TL.done (TQ.then (TC.seq (TC.seq (TC.region ?_))))
  refine TL.mv (.int _ _) rfl rfl rfl ?_
  refine TL.lss rfl rfl rfl rfl (fun q1 => ?_) (fun q1 => ?_)
  refine TL.mv (.bool true) rfl rfl rfl ?_
  refine TL.off rfl rfl ?_
  refine TL.off rfl rfl ?_
  refine TL.off rfl rfl ?_
  refine TL.off rfl rfl ?_
  refine TL.off rfl rfl ?_
  refine TL.off rfl rfl ?_
  refine TL.off rfl rfl ?_
  refine TL.pickT (.bool true) rfl rfl rfl rfl ?_
  refine TL.done (TQ.then (TC.condT rfl (TC.seq (TC.region ?_))))
  refine TL.asg (.pointer none) rfl rfl rfl ?_
  refine TL.done (TQ.then (TC.ret (TQ.thenRet ?_)))
  refine FQ.ret1 (v := (.pointer none)) (Bs := [_]) [0] rfl rfl rfl ⟨rfl, trivial⟩ ?_
  first | exact ⟨rfl, rfl⟩ | (exfalso; omega)
  refine TL.mv (.bool false) rfl rfl rfl ?_
  refine TL.mv (.int _ _) rfl rfl rfl ?_
  refine TL.mv (.pointer (some ⟨_, _, none⟩)) rfl rfl rfl ?_
  refine TL.nc rfl rfl rfl ?_
  refine TL.fa 0 rfl fc_f149_0_0 rfl rfl ?_
  refine TL.ld 0 (.slice _ _ _) rfl rfl rfl fc_s24 rfl rfl ?_
  refine TL.lenS rfl fc_l24_110_1 rfl rfl ?_
  refine TL.geq rfl rfl rfl rfl (fun q2 => ?_) (fun q2 => ?_)
  refine TL.pickF (.bool true) rfl rfl rfl rfl ?_
  refine TL.done (TQ.then (TC.condT rfl (TC.seq (TC.region ?_))))
  refine TL.asg (.pointer none) rfl rfl rfl ?_
  refine TL.done (TQ.then (TC.ret (TQ.thenRet ?_)))
  refine FQ.ret1 (v := (.pointer none)) (Bs := [_]) [0] rfl rfl rfl ⟨rfl, trivial⟩ ?_
  first | exact ⟨rfl, rfl⟩ | (exfalso; omega)
  refine TL.pickF (.bool false) rfl rfl rfl rfl ?_
  refine TL.done (TQ.then (TC.condF rfl (TC.skip (TQ.then (TC.seq (TC.region ?_))))))
  refine TL.mv (.pointer (some ⟨_, _, none⟩)) rfl rfl rfl ?_
  refine TL.nc rfl rfl rfl ?_
  refine TL.ld 0 (.int _ _) rfl rfl rfl fc_s3 rfl rfl ?_
  refine TL.add _ rfl rfl (rfl) rfl rfl ?_
  refine TL.nc rfl rfl rfl ?_
  refine TL.st 0 #[_, _, _, _, _, _] (.int _ _) rfl rfl rfl rfl rfl rfl fc_s3 rfl rfl trivial ?_
  refine TL.done (TQ.then (TC.seq (TC.region ?_)))
  refine TL.mv (.pointer (some ⟨_, _, none⟩)) rfl rfl rfl ?_
  refine TL.nc rfl rfl rfl ?_
  refine TL.fa 0 rfl fc_f149_0_0 rfl rfl ?_
  refine TL.ld 0 (.slice _ _ _) rfl rfl rfl fc_s24 rfl rfl ?_
  refine TL.mv (.int _ _) rfl rfl rfl ?_
  refine TL.ia _ rfl rfl fc_l24_110_1 (by omega) (by omega) rfl rfl rfl ?_
  refine TL.asg (.pointer (some ⟨_, _, none⟩)) rfl rfl rfl ?_
  refine TL.done (TQ.then (TC.ret ?_))
  refine FQ.ret1 (v := (.pointer (some ⟨_, _, none⟩))) (Bs := [_]) [0] rfl rfl rfl ⟨rfl, trivial⟩ ?_
  first | exact ⟨rfl, rfl⟩ | (exfalso; omega)

theorem at_Si {ab mb N : Nat} {c : Cnt} {i : Int} (h0 : 0 ≤ i) (h1 : i < N) : Go.Eng.Fn Tryz.prog 94 [.pointer (some ⟨ab, 0, none⟩), .int .i64 i, .pointer (some ⟨ab, 2, none⟩)] [arO ab mb (N) 149 c] (fun v Bs => v = .pointer (some ⟨mb, 0 + i.toNat * 1, none⟩) ∧ ∃ c2, Bs = [arO ab mb (N) 149 c2]) := by
  refine Fn.enter (Tryz.func94) rfl rfl (fun w0 R => ?_)
  refine TC.seq (TC.region ?_)
  refine TL.asg (.pointer none) rfl rfl rfl ?_
  refine TL.done (TQ.then (TC.seq (TC.seq (TC.region ?_))))
  refine TL.mv (.int _ _) rfl rfl rfl ?_
  refine TL.lssF rfl rfl (by omega) rfl rfl ?_
  refine TL.mv (.bool false) rfl rfl rfl ?_
  refine TL.mv (.int _ _) rfl rfl rfl ?_
  refine TL.mv (.pointer (some ⟨_, _, none⟩)) rfl rfl rfl ?_
  refine TL.nc rfl rfl rfl ?_
  refine TL.fa 0 rfl fc_f149_0_0 rfl rfl ?_
  refine TL.ld 0 (.slice _ _ _) rfl rfl rfl fc_s24 rfl rfl ?_
  refine TL.lenS rfl fc_l24_110_1 rfl rfl ?_
  refine TL.geqF rfl rfl (by omega) rfl rfl ?_
  refine TL.pickF (.bool false) rfl rfl rfl rfl ?_
  refine TL.done (TQ.then (TC.condF rfl (TC.skip (TQ.then (TC.seq (TC.region ?_))))))
  refine TL.mv (.pointer (some ⟨_, _, none⟩)) rfl rfl rfl ?_
  refine TL.nc rfl rfl rfl ?_
  refine TL.ld 0 (.int _ _) rfl rfl rfl fc_s3 rfl rfl ?_
  refine TL.add _ rfl rfl (rfl) rfl rfl ?_
  refine TL.nc rfl rfl rfl ?_
  refine TL.st 0 #[_, _, _, _, _, _] (.int _ _) rfl rfl rfl rfl rfl rfl fc_s3 rfl rfl trivial ?_
  refine TL.done (TQ.then (TC.seq (TC.region ?_)))
  refine TL.mv (.pointer (some ⟨_, _, none⟩)) rfl rfl rfl ?_
  refine TL.nc rfl rfl rfl ?_
  refine TL.fa 0 rfl fc_f149_0_0 rfl rfl ?_
  refine TL.ld 0 (.slice _ _ _) rfl rfl rfl fc_s24 rfl rfl ?_
  refine TL.mv (.int _ _) rfl rfl rfl ?_
  refine TL.ia _ rfl rfl fc_l24_110_1 (by omega) (by omega) rfl rfl rfl ?_
  refine TL.asg (.pointer (some ⟨_, _, none⟩)) rfl rfl rfl ?_
  refine TL.done (TQ.then (TC.ret ?_))
  refine FQ.ret1 (v := (.pointer (some ⟨_, _, none⟩))) (Bs := [_]) [0] rfl rfl rfl ⟨rfl, trivial⟩ ?_
  exact ⟨rfl, ⟨c.c1, IntKind.i64.wrap (c.c2 + 1), c.c3, c.c4, c.c5⟩, rfl⟩

theorem at_So {ab mb N : Nat} {c : Cnt} {i : Int} (h : ¬ (0 ≤ i ∧ i < N)) : FnD Tryz.prog 94 [.pointer (some ⟨ab, 0, none⟩), .int .i64 i, .pointer (some ⟨ab, 2, none⟩)] [arO ab mb (N) 149 c] (.pointer none) [arO ab mb (N) 149 c] := by
  refine Fn.enter (Tryz.func94) rfl rfl (fun w0 R => ?_)
  refine TC.seq (TC.region ?_)
  refine TL.asg (.pointer none) rfl rfl rfl ?_
  refine TL.done (TQ.then (TC.seq (TC.seq (TC.region ?_))))
  refine TL.mv (.int _ _) rfl rfl rfl ?_
  refine TL.lss rfl rfl rfl rfl (fun q1 => ?_) (fun q1 => ?_)
  refine TL.mv (.bool true) rfl rfl rfl ?_
  refine TL.off rfl rfl ?_
  refine TL.off rfl rfl ?_
  refine TL.off rfl rfl ?_
  refine TL.off rfl rfl ?_
  refine TL.off rfl rfl ?_
  refine TL.off rfl rfl ?_
  refine TL.off rfl rfl ?_
  refine TL.pickT (.bool true) rfl rfl rfl rfl ?_
  refine TL.done (TQ.then (TC.condT rfl (TC.seq (TC.region ?_))))
  refine TL.asg (.pointer none) rfl rfl rfl ?_
  refine TL.done (TQ.then (TC.ret (TQ.thenRet ?_)))
  refine FQ.ret1 (v := (.pointer none)) (Bs := [_]) [0] rfl rfl rfl ⟨rfl, trivial⟩ ?_
  first | exact ⟨rfl, rfl⟩ | (exfalso; omega)
  refine TL.mv (.bool false) rfl rfl rfl ?_
  refine TL.mv (.int _ _) rfl rfl rfl ?_
  refine TL.mv (.pointer (some ⟨_, _, none⟩)) rfl rfl rfl ?_
  refine TL.nc rfl rfl rfl ?_
  refine TL.fa 0 rfl fc_f149_0_0 rfl rfl ?_
  refine TL.ld 0 (.slice _ _ _) rfl rfl rfl fc_s24 rfl rfl ?_
  refine TL.lenS rfl fc_l24_110_1 rfl rfl ?_
  refine TL.geq rfl rfl rfl rfl (fun q2 => ?_) (fun q2 => ?_)
  refine TL.pickF (.bool true) rfl rfl rfl rfl ?_
  refine TL.done (TQ.then (TC.condT rfl (TC.seq (TC.region ?_))))
  refine TL.asg (.pointer none) rfl rfl rfl ?_
  refine TL.done (TQ.then (TC.ret (TQ.thenRet ?_)))
  refine FQ.ret1 (v := (.pointer none)) (Bs := [_]) [0] rfl rfl rfl ⟨rfl, trivial⟩ ?_
  first | exact ⟨rfl, rfl⟩ | (exfalso; omega)
  refine TL.pickF (.bool false) rfl rfl rfl rfl ?_
  refine TL.done (TQ.then (TC.condF rfl (TC.skip (TQ.then (TC.seq (TC.region ?_))))))
  refine TL.mv (.pointer (some ⟨_, _, none⟩)) rfl rfl rfl ?_
  refine TL.nc rfl rfl rfl ?_
  refine TL.ld 0 (.int _ _) rfl rfl rfl fc_s3 rfl rfl ?_
  refine TL.add _ rfl rfl (rfl) rfl rfl ?_
  refine TL.nc rfl rfl rfl ?_
  refine TL.st 0 #[_, _, _, _, _, _] (.int _ _) rfl rfl rfl rfl rfl rfl fc_s3 rfl rfl trivial ?_
  refine TL.done (TQ.then (TC.seq (TC.region ?_)))
  refine TL.mv (.pointer (some ⟨_, _, none⟩)) rfl rfl rfl ?_
  refine TL.nc rfl rfl rfl ?_
  refine TL.fa 0 rfl fc_f149_0_0 rfl rfl ?_
  refine TL.ld 0 (.slice _ _ _) rfl rfl rfl fc_s24 rfl rfl ?_
  refine TL.mv (.int _ _) rfl rfl rfl ?_
  refine TL.ia _ rfl rfl fc_l24_110_1 (by omega) (by omega) rfl rfl rfl ?_
  refine TL.asg (.pointer (some ⟨_, _, none⟩)) rfl rfl rfl ?_
  refine TL.done (TQ.then (TC.ret ?_))
  refine FQ.ret1 (v := (.pointer (some ⟨_, _, none⟩))) (Bs := [_]) [0] rfl rfl rfl ⟨rfl, trivial⟩ ?_
  first | exact ⟨rfl, rfl⟩ | (exfalso; omega)

theorem aLoad_i {ab mb : Nat} {σ : Array UInt64} {c : Cnt} {i : Int} (h0 : 0 ≤ i) (h1 : i < σ.size) : Go.Eng.Fn Tryz.prog 65 [.pointer (some ⟨ab, 0, none⟩), .int .i64 i] [arO ab mb (σ.size) 149 c, pt mb (.cells (encM (σ)) 110)] (fun v Bs => v = .tuple #[.int .u64 (MemLike.get σ i), .int .i64 0] ∧ ∃ c2, Bs = [arO ab mb (σ.size) 149 c2, pt mb (.cells (encM (σ)) 110)]) := by
  refine Fn.enter (Tryz.func65) rfl rfl (fun w0 R => ?_)
  refine TC.seq (TC.region ?_)
  refine TL.asg (.int _ _) rfl rfl rfl ?_
  refine TL.asg (.int _ _) rfl rfl rfl ?_
  refine TL.done (TQ.then (TC.seq (TC.region ?_)))
  refine TL.mv (.pointer (some ⟨_, _, none⟩)) rfl rfl rfl ?_
  refine TL.mv (.int _ _) rfl rfl rfl ?_
  refine TL.mv (.pointer (some ⟨_, _, none⟩)) rfl rfl rfl ?_
  refine TL.nc rfl rfl rfl ?_
  refine TL.fa 1 rfl fc_f149_1_1 rfl rfl ?_
  refine TL.fa 0 rfl fc_f147_0_0 rfl rfl ?_
  refine TL.call [0] [0] (at_Li h0 h1) ⟨rfl, rfl, rfl, trivial⟩ ⟨rfl, trivial⟩ fc_c94 rfl rfl rfl rfl ?_
  rintro v Bs ⟨rfl, c2, rfl⟩
  refine ⟨rfl, trivial, ?_⟩
  refine TL.asg (.pointer (some ⟨_, _, none⟩)) rfl rfl rfl ?_
  refine TL.done (TQ.then (TC.seq (TC.seq (TC.region ?_))))
  refine TL.mv (.pointer (some ⟨_, _, none⟩)) rfl rfl rfl ?_
  refine TL.nilP false rfl rfl fc_p150 rfl rfl rfl ?_
  refine TL.done (TQ.then (TC.condF rfl (TC.skip (TQ.then (TC.seq (TC.region ?_))))))
  refine TL.mv (.pointer (some ⟨_, _, none⟩)) rfl rfl rfl ?_
  refine TL.nc rfl rfl rfl ?_
  refine TL.ldM 1 rfl rfl (by omega) (by omega) fc_s110 rfl rfl ?_
  refine TL.asg (.int _ _) rfl rfl rfl ?_
  refine TL.asg (.int _ _) rfl rfl rfl ?_
  refine TL.done (TQ.then (TC.ret ?_))
  refine FQ.ret2 (v := (.int _ _)) (x := (.int _ _)) (Bs := [_, _]) [0, 1] rfl rfl rfl rfl ⟨rfl, rfl, trivial⟩ ?_
  exact ⟨rfl, _, rfl⟩

theorem aLoad_o {ab mb : Nat} {σ : Array UInt64} {c : Cnt} {i : Int} (h : ¬ (0 ≤ i ∧ i < σ.size)) : Go.Eng.Fn Tryz.prog 65 [.pointer (some ⟨ab, 0, none⟩), .int .i64 i] [arO ab mb (σ.size) 149 c, pt mb (.cells (encM (σ)) 110)] (fun v Bs => v = .tuple #[.int .u64 (MemLike.get σ i), .int .i64 20] ∧ ∃ c2, Bs = [arO ab mb (σ.size) 149 c2, pt mb (.cells (encM (σ)) 110)]) := by
  refine Fn.enter (Tryz.func65) rfl rfl (fun w0 R => ?_)
  refine TC.seq (TC.region ?_)
  refine TL.asg (.int _ _) rfl rfl rfl ?_
  refine TL.asg (.int _ _) rfl rfl rfl ?_
  refine TL.done (TQ.then (TC.seq (TC.region ?_)))
  refine TL.mv (.pointer (some ⟨_, _, none⟩)) rfl rfl rfl ?_
  refine TL.mv (.int _ _) rfl rfl rfl ?_
  refine TL.mv (.pointer (some ⟨_, _, none⟩)) rfl rfl rfl ?_
  refine TL.nc rfl rfl rfl ?_
  refine TL.fa 1 rfl fc_f149_1_1 rfl rfl ?_
  refine TL.fa 0 rfl fc_f147_0_0 rfl rfl ?_
  refine TL.callD [0] [0] (at_Lo h) ⟨rfl, rfl, rfl, trivial⟩ ⟨rfl, trivial⟩ fc_c94 rfl rfl rfl rfl rfl trivial ?_
  refine TL.asg (.pointer none) rfl rfl rfl ?_
  refine TL.done (TQ.then (TC.seq (TC.seq (TC.region ?_))))
  refine TL.mv (.pointer none) rfl rfl rfl ?_
  refine TL.nilP true rfl rfl fc_p150 rfl rfl rfl ?_
  refine TL.done (TQ.then (TC.condT rfl (TC.seq (TC.region ?_))))
  refine TL.asg (.int _ _) rfl rfl rfl ?_
  refine TL.asg (.int _ _) rfl rfl rfl ?_
  refine TL.done (TQ.then (TC.ret (TQ.thenRet ?_)))
  refine FQ.ret2 (v := (.int _ _)) (x := (.int _ _)) (Bs := [_, _]) [0, 1] rfl rfl rfl rfl ⟨rfl, rfl, trivial⟩ ?_
  exact ⟨by rw [am_get, if_neg h], _, rfl⟩

theorem aStore_i {ab mb : Nat} {σ : Array UInt64} {c : Cnt} {i : Int} (h0 : 0 ≤ i) (h1 : i < σ.size) {y : Int} (hv : 0 ≤ y ∧ y < 18446744073709551616) : Go.Eng.Fn Tryz.prog 54 [.pointer (some ⟨ab, 0, none⟩), .int .i64 i, .int .u64 y] [arO ab mb (σ.size) 149 c, pt mb (.cells (encM (σ)) 110)] (fun v Bs => v = .int .i64 0 ∧ ∃ c2, Bs = [arO ab mb (σ.size) 149 c2, pt mb (.cells (encM (MemLike.st σ i y)) 110)]) := by
  refine Fn.enter (Tryz.func54) rfl rfl (fun w0 R => ?_)
  refine TC.seq (TC.region ?_)
  refine TL.asg (.int _ _) rfl rfl rfl ?_
  refine TL.done (TQ.then (TC.seq (TC.region ?_)))
  refine TL.mv (.pointer (some ⟨_, _, none⟩)) rfl rfl rfl ?_
  refine TL.mv (.int _ _) rfl rfl rfl ?_
  refine TL.mv (.pointer (some ⟨_, _, none⟩)) rfl rfl rfl ?_
  refine TL.nc rfl rfl rfl ?_
  refine TL.fa 1 rfl fc_f149_1_1 rfl rfl ?_
  refine TL.fa 1 rfl fc_f147_1_1 rfl rfl ?_
  refine TL.call [0] [0] (at_Si h0 h1) ⟨rfl, rfl, rfl, trivial⟩ ⟨rfl, trivial⟩ fc_c94 rfl rfl rfl rfl ?_
  rintro v Bs ⟨rfl, c2, rfl⟩
  refine ⟨rfl, trivial, ?_⟩
  refine TL.asg (.pointer (some ⟨_, _, none⟩)) rfl rfl rfl ?_
  refine TL.done (TQ.then (TC.seq (TC.seq (TC.region ?_))))
  refine TL.mv (.pointer (some ⟨_, _, none⟩)) rfl rfl rfl ?_
  refine TL.nilP false rfl rfl fc_p150 rfl rfl rfl ?_
  refine TL.done (TQ.then (TC.condF rfl (TC.skip (TQ.then (TC.seq (TC.region ?_))))))
  refine TL.mv (.pointer (some ⟨_, _, none⟩)) rfl rfl rfl ?_
  refine TL.mv (.int _ _) rfl rfl rfl ?_
  refine TL.nc rfl rfl rfl ?_
  refine TL.stM 1 rfl rfl rfl (by omega) (by omega) (by omega) fc_s110 rfl rfl trivial ?_
  refine TL.done (TQ.then (TC.seq (TC.region ?_)))
  refine TL.asg (.int _ _) rfl rfl rfl ?_
  refine TL.done (TQ.then (TC.ret ?_))
  refine FQ.ret1 (v := (.int _ _)) (Bs := [_, _]) [0, 1] rfl rfl rfl ⟨rfl, rfl, trivial⟩ ?_
  exact ⟨rfl, _, rfl⟩

theorem aStore_o {ab mb : Nat} {σ : Array UInt64} {c : Cnt} {i : Int} (h : ¬ (0 ≤ i ∧ i < σ.size)) {y : Int} (hv : 0 ≤ y ∧ y < 18446744073709551616) : Go.Eng.Fn Tryz.prog 54 [.pointer (some ⟨ab, 0, none⟩), .int .i64 i, .int .u64 y] [arO ab mb (σ.size) 149 c, pt mb (.cells (encM (σ)) 110)] (fun v Bs => v = .int .i64 20 ∧ ∃ c2, Bs = [arO ab mb (σ.size) 149 c2, pt mb (.cells (encM (MemLike.st σ i y)) 110)]) := by
  have hst : (MemLike.st σ i y : Array UInt64) = σ := by rw [am_st, if_neg h]
  refine Fn.enter (Tryz.func54) rfl rfl (fun w0 R => ?_)
  refine TC.seq (TC.region ?_)
  refine TL.asg (.int _ _) rfl rfl rfl ?_
  refine TL.done (TQ.then (TC.seq (TC.region ?_)))
  refine TL.mv (.pointer (some ⟨_, _, none⟩)) rfl rfl rfl ?_
  refine TL.mv (.int _ _) rfl rfl rfl ?_
  refine TL.mv (.pointer (some ⟨_, _, none⟩)) rfl rfl rfl ?_
  refine TL.nc rfl rfl rfl ?_
  refine TL.fa 1 rfl fc_f149_1_1 rfl rfl ?_
  refine TL.fa 1 rfl fc_f147_1_1 rfl rfl ?_
  refine TL.callD [0] [0] (at_So h) ⟨rfl, rfl, rfl, trivial⟩ ⟨rfl, trivial⟩ fc_c94 rfl rfl rfl rfl rfl trivial ?_
  refine TL.asg (.pointer none) rfl rfl rfl ?_
  refine TL.done (TQ.then (TC.seq (TC.seq (TC.region ?_))))
  refine TL.mv (.pointer none) rfl rfl rfl ?_
  refine TL.nilP true rfl rfl fc_p150 rfl rfl rfl ?_
  refine TL.done (TQ.then (TC.condT rfl (TC.seq (TC.region ?_))))
  refine TL.asg (.int _ _) rfl rfl rfl ?_
  refine TL.done (TQ.then (TC.ret (TQ.thenRet ?_)))
  refine FQ.ret1 (v := (.int _ _)) (Bs := [_, _]) [0, 1] rfl rfl rfl ⟨rfl, rfl, trivial⟩ ?_
  exact ⟨rfl, _, by rw [hst]⟩

theorem aload_ok {ab mb : Nat} {σ : Array UInt64} {i : Int} : FnD Tryz.prog 65 [.pointer (some ⟨ab, 0, none⟩), .int .i64 i] [arenaA ab mb 149 110 (σ)] (.tuple #[.int .u64 (MemLike.get σ i), .int .i64 (if 0 ≤ i ∧ i < σ.size then 0 else 20)]) [arenaA ab mb 149 110 (σ)] := by
  by_cases h : 0 ≤ i ∧ i < σ.size
  · rw [if_pos h]; exact Fn.arena rfl fun c => aLoad_i h.1 h.2
  · rw [if_neg h]; exact Fn.arena rfl fun c => aLoad_o h
theorem astore_ok {ab mb : Nat} {σ : Array UInt64} {i v : Int} (hv : 0 ≤ v ∧ v < 18446744073709551616) : FnD Tryz.prog 54 [.pointer (some ⟨ab, 0, none⟩), .int .i64 i, .int .u64 v] [arenaA ab mb 149 110 (σ)] (.int .i64 (if 0 ≤ i ∧ i < σ.size then 0 else 20)) [arenaA ab mb 149 110 (MemLike.st σ i v)] := by
  by_cases h : 0 ≤ i ∧ i < σ.size
  · rw [if_pos h]; exact Fn.arena (arr_st_size _ _ _) fun c => aStore_i h.1 h.2 hv
  · rw [if_neg h]; exact Fn.arena (arr_st_size _ _ _) fun c => aStore_o h hv

theorem pload_ok {ab mb : Nat} {σ : Array UInt64} {i : Int} : FnD Tryz.prog 185 [.agg #[.pointer (some ⟨ab, 0, none⟩)], .int .i64 i] [arenaA ab mb 149 110 (σ)] (.int .u64 (MemLike.get σ i)) [arenaA ab mb 149 110 (σ)] := by
  refine Fn.enter (Tryz.func185) rfl rfl (fun w0 R => ?_)
  refine TC.seq (TC.region ?_)
  refine TL.boxA 1 rfl rfl rfl (fun _ => trivial) (fun bk1 => ?_)
  refine TL.asg (.int _ _) rfl rfl rfl ?_
  refine TL.done (TQ.then (TC.seq (TC.region ?_)))
  refine TL.fa 0 rfl fc_f107_0_0 rfl rfl ?_
  refine TL.ld 1 (.pointer (some ⟨_, _, none⟩)) rfl rfl rfl fc_s37 rfl rfl ?_
  refine TL.mv (.int _ _) rfl rfl rfl ?_
  refine TL.callD [0] [0] aload_ok ⟨rfl, rfl, trivial⟩ ⟨rfl, trivial⟩ fc_c65 rfl rfl rfl rfl rfl trivial ?_
  refine TL.mv (.tuple _) rfl rfl rfl ?_
  refine TL.ext (.int _ _) rfl rfl rfl rfl ?_
  refine TL.ext (.int _ _) rfl rfl rfl rfl ?_
  refine TL.asg (.int _ _) rfl rfl rfl ?_
  refine TL.asg (.int _ _) rfl rfl rfl ?_
  refine TL.done (TQ.then (TC.seq (TC.region ?_)))
  refine TL.mv (.int _ _) rfl rfl rfl ?_
  refine TL.asg (.int _ _) rfl rfl rfl ?_
  refine TL.done (TQ.then (TC.ret ?_))
  refine FQ.ret1 (v := (.int _ _)) (Bs := [arenaA ab mb 149 110 (σ)]) [0] rfl rfl rfl ⟨rfl, trivial⟩ ?_
  exact ⟨rfl, rfl⟩

theorem pstore_ok {ab mb : Nat} {σ : Array UInt64} {i : Int} {y : Int} (hv : 0 ≤ y ∧ y < 18446744073709551616) : FnD Tryz.prog 186 [.agg #[.pointer (some ⟨ab, 0, none⟩)], .int .i64 i, .int .u64 y] [arenaA ab mb 149 110 (σ)] (.tuple #[]) [arenaA ab mb 149 110 (MemLike.st σ i y)] := by
  refine Fn.enter (Tryz.func186) rfl rfl (fun w0 R => ?_)
  refine TC.seq (TC.region ?_)
  refine TL.boxA 1 rfl rfl rfl (fun _ => trivial) (fun bk1 => ?_)
  refine TL.done (TQ.then (TC.region ?_))
  refine TL.fa 0 rfl fc_f107_0_0 rfl rfl ?_
  refine TL.ld 1 (.pointer (some ⟨_, _, none⟩)) rfl rfl rfl fc_s37 rfl rfl ?_
  refine TL.mv (.int _ _) rfl rfl rfl ?_
  refine TL.mv (.int _ _) rfl rfl rfl ?_
  refine TL.callD [0] [0] (astore_ok hv) ⟨rfl, rfl, rfl, trivial⟩ ⟨rfl, trivial⟩ fc_c54 rfl rfl rfl rfl rfl trivial ?_
  refine TL.done ?_
  refine FQ.end0 (Bs := [_]) [0] rfl rfl ⟨rfl, trivial⟩ ?_
  exact ⟨rfl, rfl⟩

theorem plainM {ab mb : Nat} : MemI (S := Array UInt64) Tryz.prog 107 (.agg #[.pointer (some ⟨ab, 0, none⟩)]) (arenaA ab mb 149 110) :=
  ⟨⟨185, _, meth_val (by kernel_rfl) (by kernel_rfl), fun _ _ => pload_ok⟩, ⟨186, _, meth_val (by kernel_rfl) (by kernel_rfl), fun _ _ _ hv => pstore_ok hv⟩⟩

theorem anew_ok {N : Nat} (hN : N ≤ 16384) : Go.Eng.Fn Tryz.prog 50 [.int .i64 ((N : Nat) : Int)] [] (fun v Bs => ∃ ab mb, v = .tuple #[.pointer (some ⟨ab, 0, none⟩), .int .i64 0] ∧ Bs = [arenaA ab mb 149 110 (Array.replicate N 0)]) := by
  refine Fn.enter (Tryz.func50) rfl rfl (fun w0 R => ?_)
  refine TC.seq (TC.region ?_)
  refine TL.asg (.pointer none) rfl rfl rfl ?_
  refine TL.asg (.int _ _) rfl rfl rfl ?_
  refine TL.done (TQ.then (TC.seq (TC.seq (TC.region ?_))))
  refine TL.mv (.int _ _) rfl rfl rfl ?_
  refine TL.lssF rfl rfl (by omega) rfl rfl ?_
  refine TL.mv (.bool false) rfl rfl rfl ?_
  refine TL.mv (.int _ _) rfl rfl rfl ?_
  refine TL.gtrF rfl rfl (by omega) rfl rfl ?_
  refine TL.pickF (.bool false) rfl rfl rfl rfl ?_
  refine TL.done (TQ.then (TC.condF rfl (TC.skip (TQ.then (TC.seq (TC.region ?_))))))
  refine TL.mv (.int _ _) rfl rfl rfl ?_
  refine TL.mkS 0 rfl rfl fc_k24_110_1 fc_z110 rfl (by omega) rfl rfl (fun bk0 => ⟨trivial, ?_⟩)
  refine TL.bld [.slice none 0 0, .int .i64 0, .int .i64 0, .int .i64 0, .int .i64 0, .int .i64 0] [(.slice _ _ _)] [_, _, _, _, _, _] fc_z149 fc_q149 ⟨rfl, trivial⟩ ⟨rfl, rfl⟩ rfl rfl ?_
  refine TL.boxA 1 rfl rfl rfl (fun _ => trivial) (fun bk1 => ?_)
  refine TL.asg (.pointer (some ⟨_, _, none⟩)) rfl rfl rfl ?_
  refine TL.asg (.int _ _) rfl rfl rfl ?_
  refine TL.done (TQ.then (TC.ret ?_))
  refine TQ.conseq 0 (B := pt _ (.cells (encM (Array.replicate N 0)) 110)) rfl (fun h hh => by rw [← encM_rep]; exact hh) ?_
  refine TQ.arena 1 0 (N := N) (c := ⟨0, 0, 0, 0, 0⟩) (by simp) rfl rfl (by decide) ?_
  refine FQ.ret2 (v := (.pointer (some ⟨_, _, none⟩))) (x := (.int _ _)) (Bs := [_]) [1] rfl rfl rfl rfl ⟨rfl, trivial⟩ ?_
  exact ⟨_, _, rfl, rfl⟩

theorem memof_ok {ab : Nat} : FnD Tryz.prog 52 [.pointer (some ⟨ab, 0, none⟩)] [] (.agg #[.pointer (some ⟨ab, 0, none⟩)]) [] := by
  refine Fn.enter (Tryz.func52) rfl rfl (fun w0 R => ?_)
  refine TC.seq (TC.region ?_)
  refine TL.alloc 0 (cs := #[.pointer none]) fc_z107 rfl rfl rfl (fun _ => trivial) (fun bk0 => ?_)
  refine TL.done (TQ.then (TC.seq (TC.region ?_)))
  refine TL.mv (.pointer (some ⟨_, _, none⟩)) rfl rfl rfl ?_
  refine TL.bld [.pointer none] [(.pointer (some ⟨_, _, none⟩))] [_] fc_z107 fc_q107 ⟨rfl, trivial⟩ ⟨rfl, rfl⟩ rfl rfl ?_
  refine TL.stW 0 1 [_] rfl rfl rfl rfl rfl rfl fc_a107_1 rfl rfl trivial ?_
  refine TL.done (TQ.then (TC.ret ?_))
  refine FQ.retG (rs := [.cell 2 107]) [(.agg _)] (Bs := []) [] rfl ⟨⟨_, _, _, _, _, 0, rfl, rfl, .inr ⟨1, [_], fc_a107_1, rfl, rfl⟩⟩, trivial⟩ rfl rfl trivial ?_
  exact ⟨rfl, rfl⟩

theorem has10_ok {a : Option Addr} {b off n c : Nat} {A : Assn} {f : Nat → Int} (ha : 0 < n → a = some ⟨b, off, none⟩) (hA : RowOf A encI 1 b off n f) (hn : n ≤ 1000) {x : Int} : FnD Tryz.prog 109 [.slice a n c, .int .i64 x] [A] (.bool (hasN f x n)) [A] := by
  refine Fn.enter (Tryz.func109) rfl rfl (fun w0 R => ?_)
  refine TC.seq (TC.region ?_)
  refine TL.asg (.bool false) rfl rfl rfl ?_
  refine TL.done (TQ.then (TC.seq (TC.seq (TC.region ?_))))
  refine TL.asg (.int _ _) rfl rfl rfl ?_
  refine TL.done (TQ.then (TC.block ?_))
  refine TC.loopK (X := Nat) [0, 1] [0] (fun i => [(5, .int .i64 ((i : Nat) : Int))]) (fun i => []) (fun i => i ≤ n ∧ ∀ j, j < i → f j ≠ x) (fun i => n - i) (0) ⟨Nat.zero_le _, fun j hj => absurd hj (Nat.not_lt_zero _)⟩ ⟨rfl, trivial⟩ trivial (fun i hI => ?_)
  obtain ⟨hi, hno⟩ := hI
  refine TC.sub (env' := [(5, _), (0, _), (1, _)]) (L' := [(0, _)]) ⟨rfl, rfl, rfl, trivial⟩ ⟨rfl, trivial⟩ ?_
  refine TC.seq (TC.seq (TC.region ?_))
  refine TL.mv (.int _ _) rfl rfl rfl ?_
  refine TL.mv (.slice _ _ _) rfl rfl rfl ?_
  refine TL.lenS rfl fc_l77_3_1 rfl rfl ?_
  refine TL.lss rfl rfl rfl rfl (fun q1 => ?_) (fun q1 => ?_)
  refine TL.done (TQ.then (TC.condT rfl (TC.skip (TQ.then (TC.seq (TC.block (TC.seq ?_)))))))
  refine TC.region ?_
  refine TL.mv (.slice _ _ _) rfl rfl rfl ?_
  refine TL.mv (.int _ _) rfl rfl rfl ?_
  refine TL.iaO rfl ha rfl fc_l77_3_1 (by omega) rfl rfl ?_
  refine TL.ldRS 0 (.int _ _) rfl rfl hA (by omega) rfl fc_s3 rfl rfl ?_
  refine TL.mv (.int _ _) rfl rfl rfl ?_
  refine TL.eql rfl rfl rfl rfl (fun q2 => ?_) (fun q2 => ?_)
  refine TL.done (TQ.then (TC.condT rfl (TC.seq (TC.region ?_))))
  refine TL.asg (.bool true) rfl rfl rfl ?_
  refine TL.done (TQ.then (TC.ret (TQ.blockRet (TQ.thenRet (TQ.thenRet (TQ.blockRet (TQ.thenRet ?_)))))))
  refine FQ.ret1 (v := (.bool true)) (Bs := [A]) [0] rfl rfl rfl ⟨rfl, trivial⟩ ?_
  first | exact ⟨hasN_t (i := i) (by omega) (by assumption), rfl⟩ | exact ⟨hasN_f (by omega) hi hno, rfl⟩
  refine TL.done (TQ.then (TC.condF rfl (TC.skip (TQ.inBlock (TQ.then (TC.region ?_))))))
  refine TL.mv (.int _ _) rfl rfl rfl ?_
  refine TL.add (((i + 1 : Nat) : Int)) rfl rfl (wrN (by omega)) rfl rfl ?_
  refine TL.asg (.int _ _) rfl rfl rfl ?_
  refine TL.done ?_
  refine TQ.roundK (i + 1) ⟨⟨by omega, fun j hj => by by_cases he : j = i; subst he; assumption; exact hno j (by omega)⟩, by omega⟩ ⟨rfl, trivial⟩ trivial (.cons rfl rfl (.cons rfl rfl trivial)) (.cons rfl rfl trivial)
  refine TL.done (TQ.then (TC.condF rfl (TC.exit (TQ.thenExit (TQ.thenExit (TQ.blockHere (TQ.then ?_)))))))
  refine TC.seq (TC.region ?_)
  refine TL.asg (.bool false) rfl rfl rfl ?_
  refine TL.done (TQ.then (TC.ret ?_))
  refine FQ.ret1 (v := (.bool false)) (Bs := [A]) [0] rfl rfl rfl ⟨rfl, trivial⟩ ?_
  first | exact ⟨hasN_t (i := i) (by omega) (by assumption), rfl⟩ | exact ⟨hasN_f (by omega) hi hno, rfl⟩

set_option maxHeartbeats 4000000 in
theorem gjoin_ok {a : Option Addr} {b off n c : Nat} {A : Assn} {f : Nat → Int × Int} (ha : 0 < n → a = some ⟨b, off, none⟩) (hA : RowOf A encP 2 b off n f) (hn : n ≤ 400) {u v : Int} : FnD Tryz.prog 69 [.slice a n c, .int .i64 u, .int .i64 v] [A] (.bool (joinB f n u v)) [A] := by
  refine Fn.enter (Tryz.func69) rfl rfl (fun w0 R => ?_)
  refine TC.seq (TC.region ?_)
  refine TL.asg (.bool false) rfl rfl rfl ?_
  refine TL.done (TQ.then (TC.seq (TC.region ?_)))
  refine TL.mv (.int _ _) rfl rfl rfl ?_
  refine TL.bsN 1 [_] ([.int .i64 u]) fc_l77_3_1 fc_z3 ⟨rfl, trivial⟩ rfl (lit1 rfl) rfl rfl (fun bk1 => ⟨trivial, ?_⟩)
  refine TL.asg (.slice _ _ _) rfl rfl rfl ?_
  refine TL.done (TQ.then (TC.seq (TC.seq ?_)))
  refine TC.conseq 1 (B := ownA encI 1 3 (.slice (some ⟨bk1, 0, none⟩) 1 1) #[u]) rfl (own_lit (enc := encI) (x := u) rfl) ?_
  refine TC.region ?_
  refine TL.asg (.int _ _) rfl rfl rfl ?_
  refine TL.done (TQ.then (TC.block ?_))
  refine TC.loopK (X := Nat × Value × Array Int) [0, 2, 6] [0] (fun ⟨i, w, s⟩ => [(8, .int .i64 ((i : Nat) : Int)), (7, w)]) (fun ⟨i, w, s⟩ => [(1, ownA encI 1 3 w s)]) (fun ⟨i, w, s⟩ => JI f n u i s) (fun ⟨i, w, s⟩ => 2 * n + 1 - i) ((0, _, #[u])) JI.start ⟨rfl, rfl, trivial⟩ ⟨rfl, trivial⟩ (fun y hI => ?_)
  obtain ⟨i, w, s⟩ := y
  have hJ : JI f n u i s := hI
  refine TC.sub (env' := [(8, _), (7, _), (0, _), (2, _), (6, _)]) (L' := [(1, _), (0, _)]) ⟨rfl, rfl, rfl, rfl, rfl, trivial⟩ ⟨rfl, rfl, trivial⟩ ?_
  refine TC.seq (TC.seq ?_)
  refine TC.ownW 1 rfl (fun a9 g9 c9 hv9 hc9 ha9 => ?_)
  cases hv9
  refine TC.region ?_
  refine TL.mv (.int _ _) rfl rfl rfl ?_
  refine TL.mv _ rfl rfl rfl ?_
  refine TL.lenS rfl fc_l77_3_1 rfl rfl ?_
  refine TL.lss rfl rfl rfl rfl (fun q1 => ?_) (fun q1 => ?_)
  refine TL.done (TQ.then (TC.condT rfl (TC.skip (TQ.then (TC.seq (TC.block (TC.seq ?_)))))))
  refine TC.region ?_
  refine TL.asg (.int _ _) rfl rfl rfl ?_
  refine TL.done (TQ.then (TC.block ?_))
  obtain ⟨x0, hx0⟩ : ∃ x0, s[i]! = x0 := ⟨_, rfl⟩
  refine TC.loopK (X := Nat × Value × Array Int) [0, 2, 6, 8] [0] (fun ⟨k, w, s⟩ => [(9, .int .i64 ((k : Nat) : Int)), (7, w)]) (fun ⟨k, w, s⟩ => [(1, ownA encI 1 3 w s)]) (fun ⟨k, w, s⟩ => k ≤ n ∧ JK f n u i x0 k s) (fun ⟨k, w, s⟩ => n - k) ((0, _, s)) ⟨Nat.zero_le _, hx0 ▸ JK.begin hJ (by omega)⟩ ⟨rfl, rfl, trivial⟩ ⟨rfl, trivial⟩ (fun y hI => ?_)
  obtain ⟨k, w, s⟩ := y
  obtain ⟨hkn, hK⟩ := hI
  replace hkn : k ≤ n := hkn
  replace hK : JK f n u i x0 k s := hK
  refine TC.sub (env' := [(9, _), (7, _), (0, _), (2, _), (6, _), (8, _)]) (L' := [(1, _), (0, _)]) ⟨rfl, rfl, rfl, rfl, rfl, rfl, trivial⟩ ⟨rfl, rfl, trivial⟩ ?_
  refine TC.seq (TC.seq (TC.region ?_))
  refine TL.mv (.int _ _) rfl rfl rfl ?_
  refine TL.mv (.slice _ _ _) rfl rfl rfl ?_
  refine TL.lenS rfl fc_l122_70_2 rfl rfl ?_
  refine TL.lss rfl rfl rfl rfl (fun q2 => ?_) (fun q2 => ?_)
  refine TL.done (TQ.then (TC.condT rfl (TC.skip (TQ.then (TC.seq (TC.block (TC.seq ?_)))))))
  refine TC.draw [(0, true), (1, true), (2, true), (3, true), (4, true), (5, true), (6, true), (7, true), (8, true), (9, true), (10, true), (11, true)] [0] fc_m (by kernel_rfl) ?_
  refine TL.mv (.slice _ _ _) rfl rfl rfl ?_
  refine TL.mv (.int _ _) rfl rfl rfl ?_
  refine TL.iaO rfl ha rfl fc_l122_70_2 (by omega) rfl rfl ?_
  refine TL.iaA (_ + 0) rfl rfl fc_r70_2_3_1 (by decide) (by decide) rfl rfl rfl ?_
  refine TL.ldRF 0 (.int _ _) rfl rfl hA (by omega) (encP_ok _).1 rfl fc_s3 rfl rfl ?_
  refine TL.mv (.slice _ _ _) rfl rfl rfl ?_
  refine TL.mv (.int _ _) rfl rfl rfl ?_
  refine TL.iaO rfl ha rfl fc_l122_70_2 (by omega) rfl rfl ?_
  refine TL.iaA (_ + 1) rfl rfl fc_r70_2_3_1 (by decide) (by decide) rfl rfl rfl ?_
  refine TL.ldRF 0 (.int _ _) rfl rfl hA (by omega) (encP_ok _).1 rfl fc_s3 rfl rfl ?_
  refine TL.asg (.int _ _) rfl rfl rfl ?_
  refine TL.asg (.int _ _) rfl rfl rfl ?_
  refine TL.done (TQ.then (TC.seq (TC.seq (TC.region ?_))))
  refine TL.mv (.int _ _) rfl rfl rfl ?_
  refine TL.lss rfl rfl rfl rfl (fun q3 => ?_) (fun q3 => ?_)
  refine TL.done (TQ.then (TC.condT rfl (TC.exit (TQ.thenExit (TQ.blockHere (TQ.then (TC.region ?_)))))))
  refine TL.mv (.int _ _) rfl rfl rfl ?_
  refine TL.add (((k + 1 : Nat) : Int)) rfl rfl (wrN (by omega)) rfl rfl ?_
  refine TL.asg (.int _ _) rfl rfl rfl ?_
  refine TL.done ?_
  refine TQ.roundK ((k + 1, _, _)) ⟨⟨(show k + 1 ≤ n by omega), (by first | exact hK.skip (by assumption) | exact hK.next (fun e => by first | exact hm1 e | exact mem_app.2 (.inl (hm1 e))) (fun e => by first | exact hasN_mem.1 (by assumption) | exact mem_app.2 (.inr rfl) | exact absurd e (by rw [← hK.hx]; assumption)))⟩, (show n - (k + 1) < n - k by omega)⟩ ⟨rfl, rfl, trivial⟩ ⟨rfl, trivial⟩ (.cons rfl rfl (.cons rfl rfl (.cons rfl rfl (.cons rfl rfl trivial)))) (.cons rfl rfl trivial)
  refine TL.done (TQ.then (TC.condF rfl (TC.skip (TQ.then (TC.seq (TC.seq ?_))))))
  refine TC.ownW 1 rfl (fun a9 g9 c9 hv9 hc9 ha9 => ?_)
  cases hv9
  refine TC.region ?_
  refine TL.mv (.int _ _) rfl rfl rfl ?_
  refine TL.mv _ rfl rfl rfl ?_
  refine TL.mv (.int _ _) rfl rfl rfl ?_
  refine TL.iaO rfl ha9 rfl fc_l77_3_1 (by first | exact hK.lt | omega) rfl rfl ?_
  refine TL.ldRS 1 (.int _ _) rfl rfl (own_rowOf ha9) (by first | exact hK.lt | omega) rfl fc_s3 rfl rfl ?_
  refine TL.eql rfl rfl rfl rfl (fun q4 => ?_) (fun q4 => ?_)
  refine TL.mv (.bool true) rfl rfl rfl ?_
  refine TL.mv _ rfl rfl rfl ?_
  refine TL.mv (.int _ _) rfl rfl rfl ?_
  refine TL.callD [1] [1] (has10_ok ha9 (own_rowOf ha9) (by first | (have := hK.ji.size; omega) | (have := hJ.size; omega))) ⟨rfl, rfl, trivial⟩ ⟨rfl, trivial⟩ fc_c109 rfl rfl rfl rfl rfl trivial ?_
  refine TL.cases rfl (fun q5 => ?_) (fun q5 => ?_)
  refine TL.not true false rfl rfl rfl rfl ?_
  refine TL.pickT (.bool false) rfl rfl rfl rfl ?_
  refine TL.done (TQ.then (TC.condF rfl (TC.skip (TQ.then (TC.seq ?_)))))
  first | have hm1 := hK.mA (hasN_mem.1 (by assumption)) | have hm1 := hK.mB | have hm1 := hK.mC (by assumption)
  refine TC.ownW 1 rfl (fun a9 g9 c9 hv9 hc9 ha9 => ?_)
  cases hv9
  refine TC.region ?_
  refine TL.mv (.int _ _) rfl rfl rfl ?_
  refine TL.mv _ rfl rfl rfl ?_
  refine TL.mv (.int _ _) rfl rfl rfl ?_
  refine TL.iaO rfl ha9 rfl fc_l77_3_1 (by first | exact hK.lt | omega) rfl rfl ?_
  refine TL.ldRS 1 (.int _ _) rfl rfl (own_rowOf ha9) (by first | exact hK.lt | omega) rfl fc_s3 rfl rfl ?_
  refine TL.eql rfl rfl rfl rfl (fun q6 => ?_) (fun q6 => ?_)
  refine TL.mv (.bool true) rfl rfl rfl ?_
  refine TL.mv _ rfl rfl rfl ?_
  refine TL.mv (.int _ _) rfl rfl rfl ?_
  refine TL.callD [1] [1] (has10_ok ha9 (own_rowOf ha9) (by first | (have := hK.ji.size; omega) | (have := hJ.size; omega))) ⟨rfl, rfl, trivial⟩ ⟨rfl, trivial⟩ fc_c109 rfl rfl rfl rfl rfl trivial ?_
  refine TL.cases rfl (fun q7 => ?_) (fun q7 => ?_)
  refine TL.not true false rfl rfl rfl rfl ?_
  refine TL.pickT (.bool false) rfl rfl rfl rfl ?_
  refine TL.done (TQ.then (TC.condF rfl (TC.skip (TQ.inBlock (TQ.then (TC.region ?_))))))
  refine TL.mv (.int _ _) rfl rfl rfl ?_
  refine TL.add (((k + 1 : Nat) : Int)) rfl rfl (wrN (by omega)) rfl rfl ?_
  refine TL.asg (.int _ _) rfl rfl rfl ?_
  refine TL.done ?_
  refine TQ.roundK ((k + 1, _, _)) ⟨⟨(show k + 1 ≤ n by omega), (by first | exact hK.skip (by assumption) | exact hK.next (fun e => by first | exact hm1 e | exact mem_app.2 (.inl (hm1 e))) (fun e => by first | exact hasN_mem.1 (by assumption) | exact mem_app.2 (.inr rfl) | exact absurd e (by rw [← hK.hx]; assumption)))⟩, (show n - (k + 1) < n - k by omega)⟩ ⟨rfl, rfl, trivial⟩ ⟨rfl, trivial⟩ (.cons rfl rfl (.cons rfl rfl (.cons rfl rfl (.cons rfl rfl trivial)))) (.cons rfl rfl trivial)
  refine TL.not false true rfl rfl rfl rfl ?_
  refine TL.pickT (.bool true) rfl rfl rfl rfl ?_
  refine TL.done (TQ.then (TC.condT rfl (TC.region ?_)))
  refine TL.mv _ rfl rfl rfl ?_
  refine TL.mv (.int _ _) rfl rfl rfl ?_
  refine TL.bsN 2 [_] (encI (f k).1) fc_l77_3_1 fc_z3 ⟨rfl, trivial⟩ rfl (lit1 rfl) rfl rfl (fun bk2 => ⟨trivial, ?_⟩)
  refine TL.appS 1 2 (d2 := #[(f k).1]) rfl (rfl) rfl (fun _ => rfl) rfl rfl (row1 rfl) encI_one (by decide) fc_k77_3_1 (by have := hK.ji.size; simp at this ⊢; omega) rfl rfl (fun v3 => ⟨trivial, ?_⟩)
  replace hK := hK.push (by omega) (by omega) (.inr ⟨by rw [← hK.hx]; assumption, rfl⟩) (fun hm => absurd (hasN_mem.2 hm) (by rw [Bool.not_eq_true]; assumption))
  refine TL.asg _ rfl rfl rfl ?_
  refine TL.done (TQ.inBlock (TQ.then (TC.region ?_)))
  refine TL.mv (.int _ _) rfl rfl rfl ?_
  refine TL.add (((k + 1 : Nat) : Int)) rfl rfl (wrN (by omega)) rfl rfl ?_
  refine TL.asg (.int _ _) rfl rfl rfl ?_
  refine TL.done ?_
  refine TQ.roundK ((k + 1, _, _)) ⟨⟨(show k + 1 ≤ n by omega), (by first | exact hK.skip (by assumption) | exact hK.next (fun e => by first | exact hm1 e | exact mem_app.2 (.inl (hm1 e))) (fun e => by first | exact hasN_mem.1 (by assumption) | exact mem_app.2 (.inr rfl) | exact absurd e (by rw [← hK.hx]; assumption)))⟩, (show n - (k + 1) < n - k by omega)⟩ ⟨rfl, rfl, trivial⟩ ⟨rfl, trivial⟩ (.cons rfl rfl (.cons rfl rfl (.cons rfl rfl (.cons rfl rfl trivial)))) (.cons rfl rfl trivial)
  refine TL.mv (.bool false) rfl rfl rfl ?_
  refine TL.off rfl rfl ?_
  refine TL.off rfl rfl ?_
  refine TL.off rfl rfl ?_
  refine TL.off rfl rfl ?_
  refine TL.pickF (.bool false) rfl rfl rfl rfl ?_
  refine TL.done (TQ.then (TC.condF rfl (TC.skip (TQ.inBlock (TQ.then (TC.region ?_))))))
  refine TL.mv (.int _ _) rfl rfl rfl ?_
  refine TL.add (((k + 1 : Nat) : Int)) rfl rfl (wrN (by omega)) rfl rfl ?_
  refine TL.asg (.int _ _) rfl rfl rfl ?_
  refine TL.done ?_
  refine TQ.roundK ((k + 1, _, _)) ⟨⟨(show k + 1 ≤ n by omega), (by first | exact hK.skip (by assumption) | exact hK.next (fun e => by first | exact hm1 e | exact mem_app.2 (.inl (hm1 e))) (fun e => by first | exact hasN_mem.1 (by assumption) | exact mem_app.2 (.inr rfl) | exact absurd e (by rw [← hK.hx]; assumption)))⟩, (show n - (k + 1) < n - k by omega)⟩ ⟨rfl, rfl, trivial⟩ ⟨rfl, trivial⟩ (.cons rfl rfl (.cons rfl rfl (.cons rfl rfl (.cons rfl rfl trivial)))) (.cons rfl rfl trivial)
  refine TL.not false true rfl rfl rfl rfl ?_
  refine TL.pickT (.bool true) rfl rfl rfl rfl ?_
  refine TL.done (TQ.then (TC.condT rfl (TC.region ?_)))
  refine TL.mv _ rfl rfl rfl ?_
  refine TL.mv (.int _ _) rfl rfl rfl ?_
  refine TL.bsN 4 [_] (encI (f k).2) fc_l77_3_1 fc_z3 ⟨rfl, trivial⟩ rfl (lit1 rfl) rfl rfl (fun bk4 => ⟨trivial, ?_⟩)
  refine TL.appS 1 4 (d2 := #[(f k).2]) rfl (rfl) rfl (fun _ => rfl) rfl rfl (row1 rfl) encI_one (by decide) fc_k77_3_1 (by have := hK.ji.size; simp at this ⊢; omega) rfl rfl (fun v5 => ⟨trivial, ?_⟩)
  replace hK := hK.push (by omega) (by omega) (.inl ⟨by rw [← hK.hx]; assumption, rfl⟩) (fun hm => absurd (hasN_mem.2 hm) (by rw [Bool.not_eq_true]; assumption))
  refine TL.asg _ rfl rfl rfl ?_
  refine TL.done (TQ.then (TC.seq ?_))
  first | have hm1 := hK.mA (hasN_mem.1 (by assumption)) | have hm1 := hK.mB | have hm1 := hK.mC (by assumption)
  refine TC.ownW 1 rfl (fun a9 g9 c9 hv9 hc9 ha9 => ?_)
  cases hv9
  refine TC.region ?_
  refine TL.mv (.int _ _) rfl rfl rfl ?_
  refine TL.mv _ rfl rfl rfl ?_
  refine TL.mv (.int _ _) rfl rfl rfl ?_
  refine TL.iaO rfl ha9 rfl fc_l77_3_1 (by first | exact hK.lt | omega) rfl rfl ?_
  refine TL.ldRS 1 (.int _ _) rfl rfl (own_rowOf ha9) (by first | exact hK.lt | omega) rfl fc_s3 rfl rfl ?_
  refine TL.eql rfl rfl rfl rfl (fun q6 => ?_) (fun q6 => ?_)
  refine TL.mv (.bool true) rfl rfl rfl ?_
  refine TL.mv _ rfl rfl rfl ?_
  refine TL.mv (.int _ _) rfl rfl rfl ?_
  refine TL.callD [1] [1] (has10_ok ha9 (own_rowOf ha9) (by first | (have := hK.ji.size; omega) | (have := hJ.size; omega))) ⟨rfl, rfl, trivial⟩ ⟨rfl, trivial⟩ fc_c109 rfl rfl rfl rfl rfl trivial ?_
  refine TL.cases rfl (fun q7 => ?_) (fun q7 => ?_)
  refine TL.not true false rfl rfl rfl rfl ?_
  refine TL.pickT (.bool false) rfl rfl rfl rfl ?_
  refine TL.done (TQ.then (TC.condF rfl (TC.skip (TQ.inBlock (TQ.then (TC.region ?_))))))
  refine TL.mv (.int _ _) rfl rfl rfl ?_
  refine TL.add (((k + 1 : Nat) : Int)) rfl rfl (wrN (by omega)) rfl rfl ?_
  refine TL.asg (.int _ _) rfl rfl rfl ?_
  refine TL.done ?_
  refine TQ.roundK ((k + 1, _, _)) ⟨⟨(show k + 1 ≤ n by omega), (by first | exact hK.skip (by assumption) | exact hK.next (fun e => by first | exact hm1 e | exact mem_app.2 (.inl (hm1 e))) (fun e => by first | exact hasN_mem.1 (by assumption) | exact mem_app.2 (.inr rfl) | exact absurd e (by rw [← hK.hx]; assumption)))⟩, (show n - (k + 1) < n - k by omega)⟩ ⟨rfl, rfl, trivial⟩ ⟨rfl, trivial⟩ (.cons rfl rfl (.cons rfl rfl (.cons rfl rfl (.cons rfl rfl trivial)))) (.cons rfl rfl trivial)
  refine TL.not false true rfl rfl rfl rfl ?_
  refine TL.pickT (.bool true) rfl rfl rfl rfl ?_
  refine TL.done (TQ.then (TC.condT rfl (TC.region ?_)))
  refine TL.mv _ rfl rfl rfl ?_
  refine TL.mv (.int _ _) rfl rfl rfl ?_
  refine TL.bsN 6 [_] (encI (f k).1) fc_l77_3_1 fc_z3 ⟨rfl, trivial⟩ rfl (lit1 rfl) rfl rfl (fun bk6 => ⟨trivial, ?_⟩)
  refine TL.appS 1 6 (d2 := #[(f k).1]) rfl (rfl) rfl (fun _ => rfl) rfl rfl (row1 rfl) encI_one (by decide) fc_k77_3_1 (by have := hK.ji.size; simp at this ⊢; omega) rfl rfl (fun v7 => ⟨trivial, ?_⟩)
  replace hK := hK.push (by omega) (by omega) (.inr ⟨by rw [← hK.hx]; assumption, rfl⟩) (fun hm => absurd (hasN_mem.2 hm) (by rw [Bool.not_eq_true]; assumption))
  refine TL.asg _ rfl rfl rfl ?_
  refine TL.done (TQ.inBlock (TQ.then (TC.region ?_)))
  refine TL.mv (.int _ _) rfl rfl rfl ?_
  refine TL.add (((k + 1 : Nat) : Int)) rfl rfl (wrN (by omega)) rfl rfl ?_
  refine TL.asg (.int _ _) rfl rfl rfl ?_
  refine TL.done ?_
  refine TQ.roundK ((k + 1, _, _)) ⟨⟨(show k + 1 ≤ n by omega), (by first | exact hK.skip (by assumption) | exact hK.next (fun e => by first | exact hm1 e | exact mem_app.2 (.inl (hm1 e))) (fun e => by first | exact hasN_mem.1 (by assumption) | exact mem_app.2 (.inr rfl) | exact absurd e (by rw [← hK.hx]; assumption)))⟩, (show n - (k + 1) < n - k by omega)⟩ ⟨rfl, rfl, trivial⟩ ⟨rfl, trivial⟩ (.cons rfl rfl (.cons rfl rfl (.cons rfl rfl (.cons rfl rfl trivial)))) (.cons rfl rfl trivial)
  refine TL.mv (.bool false) rfl rfl rfl ?_
  refine TL.off rfl rfl ?_
  refine TL.off rfl rfl ?_
  refine TL.off rfl rfl ?_
  refine TL.off rfl rfl ?_
  refine TL.pickF (.bool false) rfl rfl rfl rfl ?_
  refine TL.done (TQ.then (TC.condF rfl (TC.skip (TQ.inBlock (TQ.then (TC.region ?_))))))
  refine TL.mv (.int _ _) rfl rfl rfl ?_
  refine TL.add (((k + 1 : Nat) : Int)) rfl rfl (wrN (by omega)) rfl rfl ?_
  refine TL.asg (.int _ _) rfl rfl rfl ?_
  refine TL.done ?_
  refine TQ.roundK ((k + 1, _, _)) ⟨⟨(show k + 1 ≤ n by omega), (by first | exact hK.skip (by assumption) | exact hK.next (fun e => by first | exact hm1 e | exact mem_app.2 (.inl (hm1 e))) (fun e => by first | exact hasN_mem.1 (by assumption) | exact mem_app.2 (.inr rfl) | exact absurd e (by rw [← hK.hx]; assumption)))⟩, (show n - (k + 1) < n - k by omega)⟩ ⟨rfl, rfl, trivial⟩ ⟨rfl, trivial⟩ (.cons rfl rfl (.cons rfl rfl (.cons rfl rfl (.cons rfl rfl trivial)))) (.cons rfl rfl trivial)
  refine TL.mv (.bool false) rfl rfl rfl ?_
  refine TL.off rfl rfl ?_
  refine TL.off rfl rfl ?_
  refine TL.off rfl rfl ?_
  refine TL.off rfl rfl ?_
  refine TL.pickF (.bool false) rfl rfl rfl rfl ?_
  refine TL.done (TQ.then (TC.condF rfl (TC.skip (TQ.then (TC.seq ?_)))))
  first | have hm1 := hK.mA (hasN_mem.1 (by assumption)) | have hm1 := hK.mB | have hm1 := hK.mC (by assumption)
  refine TC.ownW 1 rfl (fun a9 g9 c9 hv9 hc9 ha9 => ?_)
  cases hv9
  refine TC.region ?_
  refine TL.mv (.int _ _) rfl rfl rfl ?_
  refine TL.mv _ rfl rfl rfl ?_
  refine TL.mv (.int _ _) rfl rfl rfl ?_
  refine TL.iaO rfl ha9 rfl fc_l77_3_1 (by first | exact hK.lt | omega) rfl rfl ?_
  refine TL.ldRS 1 (.int _ _) rfl rfl (own_rowOf ha9) (by first | exact hK.lt | omega) rfl fc_s3 rfl rfl ?_
  refine TL.eql rfl rfl rfl rfl (fun q5 => ?_) (fun q5 => ?_)
  refine TL.mv (.bool true) rfl rfl rfl ?_
  refine TL.mv _ rfl rfl rfl ?_
  refine TL.mv (.int _ _) rfl rfl rfl ?_
  refine TL.callD [1] [1] (has10_ok ha9 (own_rowOf ha9) (by first | (have := hK.ji.size; omega) | (have := hJ.size; omega))) ⟨rfl, rfl, trivial⟩ ⟨rfl, trivial⟩ fc_c109 rfl rfl rfl rfl rfl trivial ?_
  refine TL.cases rfl (fun q6 => ?_) (fun q6 => ?_)
  refine TL.not true false rfl rfl rfl rfl ?_
  refine TL.pickT (.bool false) rfl rfl rfl rfl ?_
  refine TL.done (TQ.then (TC.condF rfl (TC.skip (TQ.inBlock (TQ.then (TC.region ?_))))))
  refine TL.mv (.int _ _) rfl rfl rfl ?_
  refine TL.add (((k + 1 : Nat) : Int)) rfl rfl (wrN (by omega)) rfl rfl ?_
  refine TL.asg (.int _ _) rfl rfl rfl ?_
  refine TL.done ?_
  refine TQ.roundK ((k + 1, _, _)) ⟨⟨(show k + 1 ≤ n by omega), (by first | exact hK.skip (by assumption) | exact hK.next (fun e => by first | exact hm1 e | exact mem_app.2 (.inl (hm1 e))) (fun e => by first | exact hasN_mem.1 (by assumption) | exact mem_app.2 (.inr rfl) | exact absurd e (by rw [← hK.hx]; assumption)))⟩, (show n - (k + 1) < n - k by omega)⟩ ⟨rfl, rfl, trivial⟩ ⟨rfl, trivial⟩ (.cons rfl rfl (.cons rfl rfl (.cons rfl rfl (.cons rfl rfl trivial)))) (.cons rfl rfl trivial)
  refine TL.not false true rfl rfl rfl rfl ?_
  refine TL.pickT (.bool true) rfl rfl rfl rfl ?_
  refine TL.done (TQ.then (TC.condT rfl (TC.region ?_)))
  refine TL.mv _ rfl rfl rfl ?_
  refine TL.mv (.int _ _) rfl rfl rfl ?_
  refine TL.bsN 8 [_] (encI (f k).1) fc_l77_3_1 fc_z3 ⟨rfl, trivial⟩ rfl (lit1 rfl) rfl rfl (fun bk8 => ⟨trivial, ?_⟩)
  refine TL.appS 1 8 (d2 := #[(f k).1]) rfl (rfl) rfl (fun _ => rfl) rfl rfl (row1 rfl) encI_one (by decide) fc_k77_3_1 (by have := hK.ji.size; simp at this ⊢; omega) rfl rfl (fun v9 => ⟨trivial, ?_⟩)
  replace hK := hK.push (by omega) (by omega) (.inr ⟨by rw [← hK.hx]; assumption, rfl⟩) (fun hm => absurd (hasN_mem.2 hm) (by rw [Bool.not_eq_true]; assumption))
  refine TL.asg _ rfl rfl rfl ?_
  refine TL.done (TQ.inBlock (TQ.then (TC.region ?_)))
  refine TL.mv (.int _ _) rfl rfl rfl ?_
  refine TL.add (((k + 1 : Nat) : Int)) rfl rfl (wrN (by omega)) rfl rfl ?_
  refine TL.asg (.int _ _) rfl rfl rfl ?_
  refine TL.done ?_
  refine TQ.roundK ((k + 1, _, _)) ⟨⟨(show k + 1 ≤ n by omega), (by first | exact hK.skip (by assumption) | exact hK.next (fun e => by first | exact hm1 e | exact mem_app.2 (.inl (hm1 e))) (fun e => by first | exact hasN_mem.1 (by assumption) | exact mem_app.2 (.inr rfl) | exact absurd e (by rw [← hK.hx]; assumption)))⟩, (show n - (k + 1) < n - k by omega)⟩ ⟨rfl, rfl, trivial⟩ ⟨rfl, trivial⟩ (.cons rfl rfl (.cons rfl rfl (.cons rfl rfl (.cons rfl rfl trivial)))) (.cons rfl rfl trivial)
  refine TL.mv (.bool false) rfl rfl rfl ?_
  refine TL.off rfl rfl ?_
  refine TL.off rfl rfl ?_
  refine TL.off rfl rfl ?_
  refine TL.off rfl rfl ?_
  refine TL.pickF (.bool false) rfl rfl rfl rfl ?_
  refine TL.done (TQ.then (TC.condF rfl (TC.skip (TQ.inBlock (TQ.then (TC.region ?_))))))
  refine TL.mv (.int _ _) rfl rfl rfl ?_
  refine TL.add (((k + 1 : Nat) : Int)) rfl rfl (wrN (by omega)) rfl rfl ?_
  refine TL.asg (.int _ _) rfl rfl rfl ?_
  refine TL.done ?_
  refine TQ.roundK ((k + 1, _, _)) ⟨⟨(show k + 1 ≤ n by omega), (by first | exact hK.skip (by assumption) | exact hK.next (fun e => by first | exact hm1 e | exact mem_app.2 (.inl (hm1 e))) (fun e => by first | exact hasN_mem.1 (by assumption) | exact mem_app.2 (.inr rfl) | exact absurd e (by rw [← hK.hx]; assumption)))⟩, (show n - (k + 1) < n - k by omega)⟩ ⟨rfl, rfl, trivial⟩ ⟨rfl, trivial⟩ (.cons rfl rfl (.cons rfl rfl (.cons rfl rfl (.cons rfl rfl trivial)))) (.cons rfl rfl trivial)
  refine TL.done (TQ.then (TC.condF rfl (TC.exit (TQ.thenExit (TQ.thenExit (TQ.blockHere (TQ.inBlock ?_)))))))
  refine TQ.then (TC.region ?_)
  refine TL.mv (.int _ _) rfl rfl rfl ?_
  refine TL.add (((i + 1 : Nat) : Int)) rfl rfl (wrN (by have := hJ.size; omega)) rfl rfl ?_
  refine TL.asg (.int _ _) rfl rfl rfl ?_
  refine TL.done ?_
  refine TQ.roundK ((i + 1, _, _)) ⟨(by obtain rfl : k = n := (by omega); exact JK.done hK), (by have := hJ.size; have := hJ.le; show 2 * n + 1 - (i + 1) < 2 * n + 1 - i; omega)⟩ ⟨rfl, rfl, trivial⟩ ⟨rfl, trivial⟩ (.cons rfl rfl (.cons rfl rfl (.cons rfl rfl trivial))) (.cons rfl rfl trivial)
  refine TL.done (TQ.then (TC.condF rfl (TC.exit (TQ.thenExit (TQ.thenExit (TQ.blockHere (TQ.then ?_)))))))
  refine TC.seq ?_
  refine TC.ownW 1 rfl (fun a9 g9 c9 hv9 hc9 ha9 => ?_)
  cases hv9
  refine TC.region ?_
  refine TL.mv _ rfl rfl rfl ?_
  refine TL.mv (.int _ _) rfl rfl rfl ?_
  refine TL.callD [1] [1] (has10_ok ha9 (own_rowOf ha9) (by first | (have := hK.ji.size; omega) | (have := hJ.size; omega))) ⟨rfl, rfl, trivial⟩ ⟨rfl, trivial⟩ fc_c109 rfl rfl rfl rfl rfl trivial ?_
  refine TL.asg (.bool _) rfl rfl rfl ?_
  refine TL.done (TQ.then (TC.ret ?_))
  refine FQ.ret1 (v := (.bool _)) (Bs := [A]) [0] rfl rfl rfl ⟨rfl, trivial⟩ ?_
  exact ⟨congrArg Value.bool (JI.closed hJ (by omega)), rfl⟩

theorem slot13_ok {pb ab : Nat} {v : Value} {d : Array EdR} {l : Lay} (hl : l.Ok) (hd : d.size ≤ 100) {s : Int}  : FnD Tryz.prog 23 [.pointer (some ⟨pb, 0, none⟩), .int .i64 s] [pt pb (.cells #[.int .i64 l.V, .int .i64 l.S, .int .i64 l.T, .pointer (some ⟨ab, 0, none⟩), .int .i64 l.V, .int .i64 l.S, .int .i64 l.T, .iface 107 (.agg #[.pointer (some ⟨ab, 0, none⟩)]), .int .i64 1, .int .i64 0, .int .i64 l.V, .int .i64 l.S, .int .i64 l.T, .iface 107 (.agg #[.pointer (some ⟨ab, 0, none⟩)]), v] 54), ownA encE 5 65 v d] (.int .i64 (slotN (fun i => d[i]!) s d.size)) [pt pb (.cells #[.int .i64 l.V, .int .i64 l.S, .int .i64 l.T, .pointer (some ⟨ab, 0, none⟩), .int .i64 l.V, .int .i64 l.S, .int .i64 l.T, .iface 107 (.agg #[.pointer (some ⟨ab, 0, none⟩)]), .int .i64 1, .int .i64 0, .int .i64 l.V, .int .i64 l.S, .int .i64 l.T, .iface 107 (.agg #[.pointer (some ⟨ab, 0, none⟩)]), v] 54), ownA encE 5 65 v d] := by
  refine Fn.enter (Tryz.func23) rfl rfl (fun w0 R => ?_)
  refine TC.seq (TC.region ?_)
  refine TL.asg (.int _ _) rfl rfl rfl ?_
  refine TL.done (TQ.then (TC.seq (TC.seq ?_)))
  refine TC.ownW 1 rfl (fun a9 g9 c9 hv9 hc9 ha9 => ?_)
  cases hv9
  refine TC.region ?_
  refine TL.mv (.pointer (some ⟨_, _, none⟩)) rfl rfl rfl ?_
  refine TL.nc rfl rfl rfl ?_
  refine TL.fa 14 rfl fc_f54_3_14 rfl rfl ?_
  refine TL.ld 0 _ rfl rfl rfl fc_s52 rfl rfl ?_
  refine TL.lenS rfl fc_l52_65_5 rfl rfl ?_
  refine TL.mv (.int _ _) rfl rfl rfl ?_
  refine TL.done (TQ.then (TC.block ?_))
  refine TC.loopK (X := Nat) [1, 10, 11] [0, 1] (fun i => [(12, .int .i64 ((i : Nat) : Int))]) (fun i => []) (fun i => i ≤ d.size ∧ ∀ j, j < i → d[j]!.slot ≠ s) (fun i => d.size - i) (0) ⟨Nat.zero_le _, fun j hj => absurd hj (Nat.not_lt_zero _)⟩ ⟨rfl, trivial⟩ trivial (fun i hI => ?_)
  obtain ⟨hi, hno⟩ := hI
  refine TC.sub (env' := [(12, _), (1, _), (10, _), (11, _)]) (L' := [(0, _), (1, _)]) ⟨rfl, rfl, rfl, rfl, trivial⟩ ⟨rfl, rfl, trivial⟩ ?_
  refine TC.seq (TC.region ?_)
  refine TL.lss rfl rfl rfl rfl (fun q1 => ?_) (fun q1 => ?_)
  refine TL.done (TQ.then (TC.seq (TC.condT rfl (TC.skip (TQ.then (TC.seq (TC.block ?_)))))))
  refine TC.seq (TC.region ?_)
  refine TL.mv (.int _ _) rfl rfl rfl ?_
  refine TL.iaO rfl ha9 rfl fc_l52_65_5 (by omega) rfl rfl ?_
  refine TL.ldRx 1 [_, _, _, _, _] rfl rfl (own_rowOf ha9) (by omega) rfl fc_a65_5 rfl rfl ?_
  refine TL.alloc 2 (cs := #[.int .i64 0, .int .i64 0, .int .i64 0, .int .i64 0, .bool false]) fc_z65 rfl rfl rfl (fun _ => trivial) (fun bk2 => ?_)
  refine TL.asg (.int _ _) rfl rfl rfl ?_
  refine TL.stW 2 5 [_, _, _, _, _] rfl rfl rfl rfl rfl rfl fc_a65_5 rfl rfl trivial ?_
  refine TL.done (TQ.then (TC.seq (TC.region ?_)))
  refine TL.fa 0 rfl fc_f65_0_0 rfl rfl ?_
  refine TL.ld 2 (.int _ _) rfl rfl rfl fc_s3 rfl rfl ?_
  refine TL.mv (.int _ _) rfl rfl rfl ?_
  refine TL.eql rfl rfl rfl rfl (fun q2 => ?_) (fun q2 => ?_)
  refine TL.done (TQ.then (TC.condT rfl (TC.seq (TC.region ?_))))
  refine TL.mv (.int _ _) rfl rfl rfl ?_
  refine TL.asg (.int _ _) rfl rfl rfl ?_
  refine TL.done (TQ.then (TC.ret (TQ.blockRet (TQ.thenRet (TQ.thenRet (TQ.blockRet (TQ.thenRet ?_)))))))
  refine FQ.ret1 (v := (.int _ _)) (Bs := [_, _]) [0, 1] rfl rfl rfl ⟨rfl, rfl, trivial⟩ ?_
  exact ⟨iE (slotN_at (i := i) (by omega) (by assumption) hno).symm, rfl⟩
  refine TL.done (TQ.then (TC.condF rfl (TC.skip (TQ.inBlock (TQ.then (TC.region ?_))))))
  refine TL.add (((i + 1 : Nat) : Int)) rfl rfl (wrN (by omega)) rfl rfl ?_
  refine TL.mv (.int _ _) rfl rfl rfl ?_
  refine TL.done ?_
  refine TQ.roundK (i + 1) ⟨⟨by omega, fun j hj => by by_cases he : j = i; subst he; assumption; exact hno j (by omega)⟩, by omega⟩ ⟨rfl, trivial⟩ trivial (.cons rfl rfl (.cons rfl rfl (.cons rfl rfl trivial))) (.cons rfl rfl (.cons rfl rfl trivial))
  refine TL.done (TQ.then (TC.seq (TC.condF rfl (TC.exit (TQ.thenExit (TQ.thenExit (TQ.blockHere ?_)))))))
  refine TQ.then (TC.seq (TC.region ?_))
  refine TL.asg (.int _ _) rfl rfl rfl ?_
  refine TL.done (TQ.then (TC.ret ?_))
  refine FQ.ret1 (v := (.int _ _)) (Bs := [_, _]) [0, 1] rfl rfl rfl ⟨rfl, rfl, trivial⟩ ?_
  exact ⟨iE (slotN_no (fun j hj => hno j (by omega))).symm, rfl⟩

theorem forest13_ok {pb ab : Nat} {v : Value} {d : Array EdR} {l : Lay} (hl : l.Ok) (hd : d.size ≤ 100) {lv u w : Int}  : FnD Tryz.prog 24 [.pointer (some ⟨pb, 0, none⟩), .int .i64 lv, .int .i64 u, .int .i64 w] [pt pb (.cells #[.int .i64 l.V, .int .i64 l.S, .int .i64 l.T, .pointer (some ⟨ab, 0, none⟩), .int .i64 l.V, .int .i64 l.S, .int .i64 l.T, .iface 107 (.agg #[.pointer (some ⟨ab, 0, none⟩)]), .int .i64 1, .int .i64 0, .int .i64 l.V, .int .i64 l.S, .int .i64 l.T, .iface 107 (.agg #[.pointer (some ⟨ab, 0, none⟩)]), v] 54), ownA encE 5 65 v d] (.bool (forestB d lv u w)) [pt pb (.cells #[.int .i64 l.V, .int .i64 l.S, .int .i64 l.T, .pointer (some ⟨ab, 0, none⟩), .int .i64 l.V, .int .i64 l.S, .int .i64 l.T, .iface 107 (.agg #[.pointer (some ⟨ab, 0, none⟩)]), .int .i64 1, .int .i64 0, .int .i64 l.V, .int .i64 l.S, .int .i64 l.T, .iface 107 (.agg #[.pointer (some ⟨ab, 0, none⟩)]), v] 54), ownA encE 5 65 v d] := by
  refine Fn.enter (Tryz.func24) rfl rfl (fun w0 R => ?_)
  refine TC.seq (TC.region ?_)
  refine TL.asg (.bool false) rfl rfl rfl ?_
  refine TL.done (TQ.then (TC.seq (TC.region ?_)))
  refine TL.asg (.slice none 0 0) rfl rfl rfl ?_
  refine TL.done (TQ.then (TC.seq (TC.seq ?_)))
  refine TC.nilA 2 (A := ownA encP 2 70 (.slice none 0 0) #[]) (.inl ⟨rfl, rfl⟩) ?_
  refine TC.ownW 1 rfl (fun a9 g9 c9 hv9 hc9 ha9 => ?_)
  cases hv9
  refine TC.region ?_
  refine TL.mv (.pointer (some ⟨_, _, none⟩)) rfl rfl rfl ?_
  refine TL.nc rfl rfl rfl ?_
  refine TL.fa 14 rfl fc_f54_3_14 rfl rfl ?_
  refine TL.ld 0 _ rfl rfl rfl fc_s52 rfl rfl ?_
  refine TL.lenS rfl fc_l52_65_5 rfl rfl ?_
  refine TL.mv (.int _ _) rfl rfl rfl ?_
  refine TL.done (TQ.then (TC.block ?_))
  refine TC.loopK (X := Nat × Value) [1, 2, 3, 8, 15, 16] [0, 1] (fun ⟨i, x⟩ => [(17, .int .i64 ((i : Nat) : Int)), (9, x)]) (fun ⟨i, x⟩ => [(2, ownA encP 2 70 x (grN (fun i => d[i]!) lv i))]) (fun ⟨i, x⟩ => i ≤ d.size) (fun ⟨i, x⟩ => d.size - i) ((0, .slice none 0 0)) (Nat.zero_le _) ⟨rfl, rfl, trivial⟩ ⟨rfl, trivial⟩ (fun y hI => ?_)
  obtain ⟨i, x⟩ := y
  replace hI : i ≤ d.size := hI
  refine TC.sub (env' := [(17, _), (9, _), (1, _), (2, _), (3, _), (8, _), (15, _), (16, _)]) (L' := [(2, _), (0, _), (1, _)]) ⟨rfl, rfl, rfl, rfl, rfl, rfl, rfl, rfl, trivial⟩ ⟨rfl, rfl, rfl, trivial⟩ ?_
  refine TC.seq (TC.region ?_)
  refine TL.lss rfl rfl rfl rfl (fun q1 => ?_) (fun q1 => ?_)
  refine TL.done (TQ.then (TC.seq (TC.condT rfl (TC.skip (TQ.then (TC.seq (TC.block ?_)))))))
  refine TC.seq (TC.region ?_)
  refine TL.iaO rfl ha9 rfl fc_l52_65_5 (by omega) rfl rfl ?_
  refine TL.ldRx 1 [_, _, _, _, _] rfl rfl (own_rowOf ha9) (by omega) rfl fc_a65_5 rfl rfl ?_
  refine TL.alloc 3 (cs := #[.int .i64 0, .int .i64 0, .int .i64 0, .int .i64 0, .bool false]) fc_z65 rfl rfl rfl (fun _ => trivial) (fun bk3 => ?_)
  refine TL.stW 3 5 [_, _, _, _, _] rfl rfl rfl rfl rfl rfl fc_a65_5 rfl rfl trivial ?_
  refine TL.done (TQ.then (TC.seq (TC.region ?_)))
  refine TL.fa 4 rfl fc_f65_4_4 rfl rfl ?_
  refine TL.ld 3 (.bool _) rfl rfl rfl fc_s4 rfl rfl ?_
  refine TL.mv (.bool _) rfl rfl rfl ?_
  refine TL.cases rfl (fun q2 => ?_) (fun q2 => ?_)
  refine TL.fa 3 rfl fc_f65_3_3 rfl rfl ?_
  refine TL.ld 3 (.int _ _) rfl rfl rfl fc_s3 rfl rfl ?_
  refine TL.mv (.int _ _) rfl rfl rfl ?_
  refine TL.geq rfl rfl rfl rfl (fun q3 => ?_) (fun q3 => ?_)
  refine TL.pickT (.bool true) rfl rfl rfl rfl ?_
  refine TL.done (TQ.then (TC.condT rfl (TC.region ?_)))
  refine TL.mv _ rfl rfl rfl ?_
  refine TL.fa 1 rfl fc_f65_1_1 rfl rfl ?_
  refine TL.ld 3 (.int _ _) rfl rfl rfl fc_s3 rfl rfl ?_
  refine TL.fa 2 rfl fc_f65_2_2 rfl rfl ?_
  refine TL.ld 3 (.int _ _) rfl rfl rfl fc_s3 rfl rfl ?_
  refine TL.bldA [.int .i64 0, .int .i64 0] [(.int _ _), (.int _ _)] [_, _] fc_z70 fc_r70_2_3_1 ⟨rfl, rfl, trivial⟩ ⟨rfl, rfl⟩ rfl rfl ?_
  refine TL.bsN 4 [_] (encP (d[i]!.u, d[i]!.v)) fc_l122_70_2 fc_z70 ⟨rfl, trivial⟩ rfl (lit1 rfl) rfl rfl (fun bk4 => ⟨trivial, ?_⟩)
  refine TL.appS 2 4 (d2 := #[(d[i]!.u, d[i]!.v)]) rfl (rfl) rfl (fun _ => rfl) rfl rfl (row1 rfl) encP_one (by decide) fc_k122_70_2 (by have := grN_len (f := (fun i => d[i]!)) (lv := lv) (n := i); simp; omega) rfl rfl (fun v5 => ⟨trivial, ?_⟩)
  refine TL.asg _ rfl rfl rfl ?_
  refine TL.done (TQ.inBlock (TQ.then (TC.region ?_)))
  refine TL.add (((i + 1 : Nat) : Int)) rfl rfl (wrN (by omega)) rfl rfl ?_
  refine TL.mv (.int _ _) rfl rfl rfl ?_
  refine TL.done ?_
  refine TQ.roundK ((i + 1, _)) ⟨(show i + 1 ≤ d.size by omega), (show d.size - (i + 1) < d.size - i by omega)⟩ ⟨rfl, rfl, trivial⟩ ⟨congrArg (fun z => some (ownA encP 2 70 _ z)) (grN_T (f := (fun i => d[i]!)) (by assumption) (by omega)), trivial⟩ (.cons rfl rfl (.cons rfl rfl (.cons rfl rfl (.cons rfl rfl (.cons rfl rfl (.cons rfl rfl trivial)))))) (.cons rfl rfl (.cons rfl rfl trivial))
  refine TL.pickT (.bool false) rfl rfl rfl rfl ?_
  refine TL.done (TQ.then (TC.condF rfl (TC.skip (TQ.inBlock (TQ.then (TC.region ?_))))))
  refine TL.add (((i + 1 : Nat) : Int)) rfl rfl (wrN (by omega)) rfl rfl ?_
  refine TL.mv (.int _ _) rfl rfl rfl ?_
  refine TL.done ?_
  refine TQ.roundK ((i + 1, _)) ⟨(show i + 1 ≤ d.size by omega), (show d.size - (i + 1) < d.size - i by omega)⟩ ⟨rfl, rfl, trivial⟩ ⟨congrArg (fun z => some (ownA encP 2 70 _ z)) (grN_F (f := (fun i => d[i]!)) (fun hc => by have := hc.2; omega)), trivial⟩ (.cons rfl rfl (.cons rfl rfl (.cons rfl rfl (.cons rfl rfl (.cons rfl rfl (.cons rfl rfl trivial)))))) (.cons rfl rfl (.cons rfl rfl trivial))
  refine TL.off rfl rfl ?_
  refine TL.off rfl rfl ?_
  refine TL.off rfl rfl ?_
  refine TL.off rfl rfl ?_
  refine TL.pickF (.bool false) rfl rfl rfl rfl ?_
  refine TL.done (TQ.then (TC.condF rfl (TC.skip (TQ.inBlock (TQ.then (TC.region ?_))))))
  refine TL.add (((i + 1 : Nat) : Int)) rfl rfl (wrN (by omega)) rfl rfl ?_
  refine TL.mv (.int _ _) rfl rfl rfl ?_
  refine TL.done ?_
  refine TQ.roundK ((i + 1, _)) ⟨(show i + 1 ≤ d.size by omega), (show d.size - (i + 1) < d.size - i by omega)⟩ ⟨rfl, rfl, trivial⟩ ⟨congrArg (fun z => some (ownA encP 2 70 _ z)) (grN_F (f := (fun i => d[i]!)) (fun hc => by have := hc.1; simp_all)), trivial⟩ (.cons rfl rfl (.cons rfl rfl (.cons rfl rfl (.cons rfl rfl (.cons rfl rfl (.cons rfl rfl trivial)))))) (.cons rfl rfl (.cons rfl rfl trivial))
  refine TL.done (TQ.then (TC.seq (TC.condF rfl (TC.exit (TQ.thenExit (TQ.thenExit (TQ.blockHere ?_)))))))
  refine TQ.then (TC.seq ?_)
  obtain rfl : i = d.size := by omega
  have hgl := grN_len (f := (fun i => d[i]!)) (lv := lv) (n := d.size)
  refine TC.ownW 2 rfl (fun a8 g8 c8 hv8 hc8 ha8 => ?_)
  cases hv8
  refine TC.region ?_
  refine TL.mv _ rfl rfl rfl ?_
  refine TL.mv (.int _ _) rfl rfl rfl ?_
  refine TL.mv (.int _ _) rfl rfl rfl ?_
  refine TL.callD [2] [2] (gjoin_ok ha8 (own_rowOf ha8) (by omega)) ⟨rfl, rfl, rfl, trivial⟩ ⟨rfl, trivial⟩ fc_c69 rfl rfl rfl rfl rfl trivial ?_
  refine TL.asg (.bool _) rfl rfl rfl ?_
  refine TL.done (TQ.then (TC.ret ?_))
  refine FQ.ret1 (v := (.bool _)) (Bs := [_, _]) [0, 1] rfl rfl rfl ⟨rfl, rfl, trivial⟩ ?_
  exact ⟨rfl, rfl⟩

set_option maxHeartbeats 1000000 in
theorem put13_ok {pb ab mb : Nat} {σ : M} {v : Value} {d : Array EdR} {l : Lay} (hl : l.Ok) (hd : d.size ≤ 100) {o : OpR} {k : Nat} {σ2 : M} {d2 : Array EdR} (h : putA l k σ d o = some (σ2, d2))  : Go.Eng.Fn Tryz.prog 57 [.pointer (some ⟨pb, 0, none⟩), .agg #[.int .i64 o.kind, .int .i64 o.slot, .int .i64 o.u, .int .i64 o.v]] [pt pb (.cells #[.int .i64 l.V, .int .i64 l.S, .int .i64 l.T, .pointer (some ⟨ab, 0, none⟩), .int .i64 l.V, .int .i64 l.S, .int .i64 l.T, .iface 107 (.agg #[.pointer (some ⟨ab, 0, none⟩)]), .int .i64 1, .int .i64 0, .int .i64 l.V, .int .i64 l.S, .int .i64 l.T, .iface 107 (.agg #[.pointer (some ⟨ab, 0, none⟩)]), v] 54), arenaA ab mb 149 110 (σ), ownA encE 5 65 v d] (fun x Bs => x = .tuple #[] ∧ ∃ v2, Bs = [pt pb (.cells #[.int .i64 l.V, .int .i64 l.S, .int .i64 l.T, .pointer (some ⟨ab, 0, none⟩), .int .i64 l.V, .int .i64 l.S, .int .i64 l.T, .iface 107 (.agg #[.pointer (some ⟨ab, 0, none⟩)]), .int .i64 1, .int .i64 0, .int .i64 l.V, .int .i64 l.S, .int .i64 l.T, .iface 107 (.agg #[.pointer (some ⟨ab, 0, none⟩)]), v2] 54), arenaA ab mb 149 110 (σ2), ownA encE 5 65 v2 (d2)]) := by
  refine Fn.enter (Tryz.func57) rfl rfl (fun w0 R => ?_)
  refine TC.seq (TC.region ?_)
  refine TL.boxA 3 rfl rfl rfl (fun _ => trivial) (fun bk3 => ?_)
  refine TL.done (TQ.then (TC.seq ?_))
  refine TC.draw [(0, true), (1, true), (2, true), (3, true), (4, true), (5, true), (6, true), (7, true), (8, true), (9, true), (10, true), (11, true)] [3] fc_m (by kernel_rfl) ?_
  refine TL.fa 2 rfl fc_f33_2_2 rfl rfl ?_
  refine TL.ld 3 (.int _ _) rfl rfl rfl fc_s3 rfl rfl ?_
  refine TL.fa 3 rfl fc_f33_3_3 rfl rfl ?_
  refine TL.ld 3 (.int _ _) rfl rfl rfl fc_s3 rfl rfl ?_
  refine TL.min2 rfl rfl rfl rfl ?_
  refine TL.fa 2 rfl fc_f33_2_2 rfl rfl ?_
  refine TL.ld 3 (.int _ _) rfl rfl rfl fc_s3 rfl rfl ?_
  refine TL.fa 3 rfl fc_f33_3_3 rfl rfl ?_
  refine TL.ld 3 (.int _ _) rfl rfl rfl fc_s3 rfl rfl ?_
  refine TL.max2 rfl rfl rfl rfl ?_
  refine TL.asg (.int _ _) rfl rfl rfl ?_
  refine TL.asg (.int _ _) rfl rfl rfl ?_
  refine TL.done (TQ.then (TC.seq (TC.seq ?_)))
  refine TC.ownW 2 rfl (fun a9 g9 c9 hv9 hc9 ha9 => ?_)
  cases hv9
  refine TC.region ?_
  refine TL.mv (.pointer (some ⟨_, _, none⟩)) rfl rfl rfl ?_
  refine TL.nc rfl rfl rfl ?_
  refine TL.fa 14 rfl fc_f54_3_14 rfl rfl ?_
  refine TL.ld 0 _ rfl rfl rfl fc_s52 rfl rfl ?_
  refine TL.lenS rfl fc_l52_65_5 rfl rfl ?_
  refine TL.mv (.int _ _) rfl rfl rfl ?_
  refine TL.done (TQ.then (TC.block ?_))
  refine TC.loopK (X := Nat) [0, 3, 4, 5, 22, 23] [0, 1, 2, 3] (fun i => [(24, .int .i64 ((i : Nat) : Int))]) (fun i => []) (fun i => i ≤ d.size ∧ ∀ j, j < i → ¬ (d[j]!.u = (min o.u o.v) ∧ d[j]!.v = (max o.u o.v))) (fun i => d.size - i) (0) ⟨Nat.zero_le _, fun j hj => absurd hj (Nat.not_lt_zero _)⟩ ⟨rfl, trivial⟩ trivial (fun i hI => ?_)
  obtain ⟨hi, hno⟩ := hI
  refine TC.sub (env' := [(24, _), (0, _), (3, _), (4, _), (5, _), (22, _), (23, _)]) (L' := [(0, _), (1, _), (2, _), (3, _)]) ⟨rfl, rfl, rfl, rfl, rfl, rfl, rfl, trivial⟩ ⟨rfl, rfl, rfl, rfl, trivial⟩ ?_
  refine TC.seq (TC.region ?_)
  refine TL.lss rfl rfl rfl rfl (fun q1 => ?_) (fun q1 => ?_)
  refine TL.done (TQ.then (TC.seq (TC.condT rfl (TC.skip (TQ.then (TC.seq (TC.block ?_)))))))
  refine TC.seq (TC.region ?_)
  refine TL.iaO rfl ha9 rfl fc_l52_65_5 (by omega) rfl rfl ?_
  refine TL.ldRx 2 [_, _, _, _, _] rfl rfl (own_rowOf ha9) (by omega) rfl fc_a65_5 rfl rfl ?_
  refine TL.alloc 4 (cs := #[.int .i64 0, .int .i64 0, .int .i64 0, .int .i64 0, .bool false]) fc_z65 rfl rfl rfl (fun _ => trivial) (fun bk4 => ?_)
  refine TL.stW 4 5 [_, _, _, _, _] rfl rfl rfl rfl rfl rfl fc_a65_5 rfl rfl trivial ?_
  refine TL.done (TQ.then (TC.seq (TC.region ?_)))
  refine TL.fa 1 rfl fc_f65_1_1 rfl rfl ?_
  refine TL.ld 4 (.int _ _) rfl rfl rfl fc_s3 rfl rfl ?_
  refine TL.mv (.int _ _) rfl rfl rfl ?_
  refine TL.eql rfl rfl rfl rfl (fun q2 => ?_) (fun q2 => ?_)
  refine TL.mv (.bool true) rfl rfl rfl ?_
  refine TL.fa 2 rfl fc_f65_2_2 rfl rfl ?_
  refine TL.ld 4 (.int _ _) rfl rfl rfl fc_s3 rfl rfl ?_
  refine TL.mv (.int _ _) rfl rfl rfl ?_
  refine TL.eql rfl rfl rfl rfl (fun q3 => ?_) (fun q3 => ?_)
  refine TL.pickT (.bool true) rfl rfl rfl rfl ?_
  refine TL.done (TQ.then (TC.condT rfl (TC.ret (TQ.blockRet (TQ.thenRet (TQ.thenRet (TQ.blockRet ?_)))))))
  refine TQ.thenRet ?_
  refine FQ.ret0 (Bs := [_, _, _]) [0, 1, 2] rfl rfl ⟨rfl, rfl, rfl, trivial⟩ ?_
  rw [putA, if_pos ⟨i, by omega, by assumption, by assumption⟩] at h; cases h; exact ⟨rfl, _, rfl⟩
  refine TL.pickT (.bool false) rfl rfl rfl rfl ?_
  refine TL.done (TQ.then (TC.condF rfl (TC.skip (TQ.inBlock (TQ.then (TC.region ?_))))))
  refine TL.add (((i + 1 : Nat) : Int)) rfl rfl (wrN (by omega)) rfl rfl ?_
  refine TL.mv (.int _ _) rfl rfl rfl ?_
  refine TL.done ?_
  refine TQ.roundK (i + 1) ⟨⟨by omega, fun j hj hc => if he : j = i then (by subst he; first | exact absurd hc.2 (by assumption) | exact absurd hc.1 (by assumption)) else hno j (by omega) hc⟩, by omega⟩ ⟨rfl, trivial⟩ trivial (.cons rfl rfl (.cons rfl rfl (.cons rfl rfl (.cons rfl rfl (.cons rfl rfl (.cons rfl rfl trivial)))))) (.cons rfl rfl (.cons rfl rfl (.cons rfl rfl (.cons rfl rfl trivial))))
  refine TL.mv (.bool false) rfl rfl rfl ?_
  refine TL.off rfl rfl ?_
  refine TL.off rfl rfl ?_
  refine TL.off rfl rfl ?_
  refine TL.off rfl rfl ?_
  refine TL.pickF (.bool false) rfl rfl rfl rfl ?_
  refine TL.done (TQ.then (TC.condF rfl (TC.skip (TQ.inBlock (TQ.then (TC.region ?_))))))
  refine TL.add (((i + 1 : Nat) : Int)) rfl rfl (wrN (by omega)) rfl rfl ?_
  refine TL.mv (.int _ _) rfl rfl rfl ?_
  refine TL.done ?_
  refine TQ.roundK (i + 1) ⟨⟨by omega, fun j hj hc => if he : j = i then (by subst he; first | exact absurd hc.2 (by assumption) | exact absurd hc.1 (by assumption)) else hno j (by omega) hc⟩, by omega⟩ ⟨rfl, trivial⟩ trivial (.cons rfl rfl (.cons rfl rfl (.cons rfl rfl (.cons rfl rfl (.cons rfl rfl (.cons rfl rfl trivial)))))) (.cons rfl rfl (.cons rfl rfl (.cons rfl rfl (.cons rfl rfl trivial))))
  refine TL.done (TQ.then (TC.seq (TC.condF rfl (TC.exit (TQ.thenExit (TQ.thenExit (TQ.blockHere ?_)))))))
  refine TQ.then (TC.seq ?_)
  have hdup : ¬ dupB d (min o.u o.v) (max o.u o.v) := fun ⟨j, hj, h1, h2⟩ => hno j (by omega) ⟨h1, h2⟩
  refine TC.region ?_
  refine TL.mv (.pointer (some ⟨_, _, none⟩)) rfl rfl rfl ?_
  refine TL.mv (.int _ _) rfl rfl rfl ?_
  refine TL.mv (.int _ _) rfl rfl rfl ?_
  refine TL.callD [0, 2] [0, 2] (forest13_ok hl hd) ⟨rfl, rfl, rfl, rfl, trivial⟩ ⟨rfl, rfl, trivial⟩ fc_c24 rfl rfl rfl rfl rfl trivial ?_
  refine TL.not _ _ rfl rfl rfl rfl ?_
  refine TL.asg (.bool _) rfl rfl rfl ?_
  refine TL.done (TQ.then (TC.seq ?_))
  refine TC.draw [(0, true), (1, true), (2, true), (3, true), (4, true), (5, true), (6, true), (7, true), (8, true), (9, true), (10, true), (11, true), (12, false)] [0, 3] fc_m (by kernel_rfl) ?_
  refine TL.mv (.pointer (some ⟨_, _, none⟩)) rfl rfl rfl ?_
  refine TL.nc rfl rfl rfl ?_
  refine TL.fa 4 rfl fc_f54_2_4 rfl rfl ?_
  refine TL.fa 0 rfl fc_f51_0_0 rfl rfl ?_
  refine TL.fa 6 rfl fc_f49_1_6 rfl rfl ?_
  refine TL.ldA 0 4 [_, _, _, _] rfl rfl rfl fc_a47_4 rfl rfl ?_
  refine TL.fa 1 rfl fc_f33_1_1 rfl rfl ?_
  refine TL.ld 3 (.int _ _) rfl rfl rfl fc_s3 rfl rfl ?_
  refine TL.fa 2 rfl fc_f33_2_2 rfl rfl ?_
  refine TL.ld 3 (.int _ _) rfl rfl rfl fc_s3 rfl rfl ?_
  refine TL.fa 3 rfl fc_f33_3_3 rfl rfl ?_
  refine TL.ld 3 (.int _ _) rfl rfl rfl fc_s3 rfl rfl ?_
  refine TL.callD [1] [1] (eput_ok plainM hl) ⟨rfl, rfl, rfl, rfl, rfl, rfl, trivial⟩ ⟨rfl, trivial⟩ fc_c87 rfl rfl rfl rfl rfl (.cons rfl rfl (.cons rfl rfl trivial)) ?_
  refine TL.done (TQ.then (TC.seq (TC.seq (TC.region ?_))))
  refine TL.mv (.bool _) rfl rfl rfl ?_
  refine TL.cases rfl (fun q2 => ?_) (fun q2 => ?_)
  refine TL.done (TQ.then (TC.condT rfl ?_))
  refine TC.draw [(0, true), (1, true), (2, true), (3, true), (4, true), (5, true), (6, false)] [0, 3] fc_m (by kernel_rfl) ?_
  refine TL.mv (.pointer (some ⟨_, _, none⟩)) rfl rfl rfl ?_
  refine TL.nc rfl rfl rfl ?_
  refine TL.fa 4 rfl fc_f54_2_4 rfl rfl ?_
  refine TL.ldA 0 10 [_, _, _, _, _, _, _, _, _, _] rfl rfl rfl fc_a51_10 rfl rfl ?_
  refine TL.fa 1 rfl fc_f33_1_1 rfl rfl ?_
  refine TL.ld 3 (.int _ _) rfl rfl rfl fc_s3 rfl rfl ?_
  rw [putA, if_neg hdup, if_neg (by rw [Bool.not_eq_true]; simpa using ‹(!forestB d 0 (min o.u o.v) (max o.u o.v)) = true›)] at h
  obtain ⟨σ3, h1, h2⟩ := Option.bind_eq_some_iff.1 h
  cases h2
  refine TL.callD [1] [1] (plant_ok (p := P1) plainM hl h1) ⟨rfl, rfl, trivial⟩ ⟨rfl, trivial⟩ fc_c32 rfl rfl rfl rfl rfl (.cons rfl rfl (.cons rfl rfl trivial)) ?_
  refine TL.done (TQ.then ?_)
  refine TC.ownW 2 rfl (fun a9 g9 c9 hv9 hc9 ha9 => ?_)
  cases hv9
  refine TC.draw2 [(0, true), (1, true), (2, true), (3, true), (4, true), (5, true), (6, true), (7, true), (8, true), (9, true), (10, true), (11, false), (12, false), (13, true), (14, true)] 15 [] [0, 3] fc_m (by kernel_rfl) ?_
  refine TL.mv (.pointer (some ⟨_, _, none⟩)) rfl rfl rfl ?_
  refine TL.mv (.pointer (some ⟨_, _, none⟩)) rfl rfl rfl ?_
  refine TL.nc rfl rfl rfl ?_
  refine TL.fa 14 rfl fc_f54_3_14 rfl rfl ?_
  refine TL.ld 0 _ rfl rfl rfl fc_s52 rfl rfl ?_
  refine TL.fa 1 rfl fc_f33_1_1 rfl rfl ?_
  refine TL.ld 3 (.int _ _) rfl rfl rfl fc_s3 rfl rfl ?_
  refine TL.mv (.int _ _) rfl rfl rfl ?_
  refine TL.mv (.int _ _) rfl rfl rfl ?_
  refine TL.mv (.bool _) rfl rfl rfl ?_
  refine TL.bld [.int .i64 0, .int .i64 0, .int .i64 0, .int .i64 0, .bool false] [(.int _ _), (.int _ _), (.int _ _), (.bool _)] [_, _, _, _, _] fc_z65 fc_q65 ⟨rfl, rfl, rfl, rfl, trivial⟩ ⟨rfl, rfl⟩ rfl rfl ?_
  refine TL.bsN 5 [_] (encE ⟨o.slot, min o.u o.v, max o.u o.v, 0, !forestB d 0 (min o.u o.v) (max o.u o.v)⟩) fc_l52_65_5 fc_z65 ⟨rfl, trivial⟩ rfl (lit1 rfl) rfl rfl (fun bk5 => ⟨(.cons rfl rfl (.cons rfl rfl trivial)), ?_⟩)
  refine TL.appS 2 5 (d2 := #[⟨o.slot, min o.u o.v, max o.u o.v, 0, !forestB d 0 (min o.u o.v) (max o.u o.v)⟩]) rfl (rfl) rfl (fun _ => rfl) rfl rfl (row1 rfl) encE_one (by decide) fc_k52_65_5 (by simp; omega) rfl rfl (fun v6 => ⟨(.cons rfl rfl (.cons rfl rfl trivial)), ?_⟩)
  refine TL.ownW 2 rfl (fun a9 g9 c9 hv9 _ _ => ?_)
  cases hv9
  refine TL.nc rfl rfl rfl ?_
  refine TL.fa 14 rfl fc_f54_3_14 rfl rfl ?_
  refine TL.late ?_
  refine TL.st 0 #[_, _, _, _, _, _, _, _, _, _, _, _, _, _, _] _ rfl rfl rfl rfl rfl rfl fc_s52 rfl rfl trivial ?_
  refine TL.done ?_
  refine FQ.end0 (Bs := [_, _, _]) [0, 1, 2] rfl rfl ⟨rfl, rfl, rfl, trivial⟩ ?_
  exact ⟨rfl, _, rfl⟩
  refine TL.done (TQ.then (TC.condF rfl ?_))
  refine TC.draw [(0, true), (1, true), (2, true), (3, true), (4, true), (5, true), (6, true), (7, false)] [0, 3] fc_m (by kernel_rfl) ?_
  refine TL.mv (.pointer (some ⟨_, _, none⟩)) rfl rfl rfl ?_
  refine TL.nc rfl rfl rfl ?_
  refine TL.fa 4 rfl fc_f54_2_4 rfl rfl ?_
  refine TL.fa 0 rfl fc_f51_0_0 rfl rfl ?_
  refine TL.ldA 0 10 [_, _, _, _, _, _, _, _, _, _] rfl rfl rfl fc_a49_10 rfl rfl ?_
  refine TL.fa 1 rfl fc_f33_1_1 rfl rfl ?_
  refine TL.ld 3 (.int _ _) rfl rfl rfl fc_s3 rfl rfl ?_
  rw [putA, if_neg hdup, if_pos (by simpa using ‹(!forestB d 0 (min o.u o.v) (max o.u o.v)) = false›)] at h
  obtain ⟨σ3, h1, h2⟩ := Option.bind_eq_some_iff.1 h
  cases h2
  refine TL.callD [1] [1] (apush_all (p := P1) plainM hl h1) ⟨rfl, rfl, trivial⟩ ⟨rfl, trivial⟩ fc_c88 rfl rfl rfl rfl rfl (.cons rfl rfl (.cons rfl rfl trivial)) ?_
  refine TL.done (TQ.then ?_)
  refine TC.ownW 2 rfl (fun a9 g9 c9 hv9 hc9 ha9 => ?_)
  cases hv9
  refine TC.draw2 [(0, true), (1, true), (2, true), (3, true), (4, true), (5, true), (6, true), (7, true), (8, true), (9, true), (10, true), (11, false), (12, false), (13, true), (14, true)] 15 [] [0, 3] fc_m (by kernel_rfl) ?_
  refine TL.mv (.pointer (some ⟨_, _, none⟩)) rfl rfl rfl ?_
  refine TL.mv (.pointer (some ⟨_, _, none⟩)) rfl rfl rfl ?_
  refine TL.nc rfl rfl rfl ?_
  refine TL.fa 14 rfl fc_f54_3_14 rfl rfl ?_
  refine TL.ld 0 _ rfl rfl rfl fc_s52 rfl rfl ?_
  refine TL.fa 1 rfl fc_f33_1_1 rfl rfl ?_
  refine TL.ld 3 (.int _ _) rfl rfl rfl fc_s3 rfl rfl ?_
  refine TL.mv (.int _ _) rfl rfl rfl ?_
  refine TL.mv (.int _ _) rfl rfl rfl ?_
  refine TL.mv (.bool _) rfl rfl rfl ?_
  refine TL.bld [.int .i64 0, .int .i64 0, .int .i64 0, .int .i64 0, .bool false] [(.int _ _), (.int _ _), (.int _ _), (.bool _)] [_, _, _, _, _] fc_z65 fc_q65 ⟨rfl, rfl, rfl, rfl, trivial⟩ ⟨rfl, rfl⟩ rfl rfl ?_
  refine TL.bsN 7 [_] (encE ⟨o.slot, min o.u o.v, max o.u o.v, 0, !forestB d 0 (min o.u o.v) (max o.u o.v)⟩) fc_l52_65_5 fc_z65 ⟨rfl, trivial⟩ rfl (lit1 rfl) rfl rfl (fun bk7 => ⟨(.cons rfl rfl (.cons rfl rfl trivial)), ?_⟩)
  refine TL.appS 2 7 (d2 := #[⟨o.slot, min o.u o.v, max o.u o.v, 0, !forestB d 0 (min o.u o.v) (max o.u o.v)⟩]) rfl (rfl) rfl (fun _ => rfl) rfl rfl (row1 rfl) encE_one (by decide) fc_k52_65_5 (by simp; omega) rfl rfl (fun v8 => ⟨(.cons rfl rfl (.cons rfl rfl trivial)), ?_⟩)
  refine TL.ownW 2 rfl (fun a9 g9 c9 hv9 _ _ => ?_)
  cases hv9
  refine TL.nc rfl rfl rfl ?_
  refine TL.fa 14 rfl fc_f54_3_14 rfl rfl ?_
  refine TL.late ?_
  refine TL.st 0 #[_, _, _, _, _, _, _, _, _, _, _, _, _, _, _] _ rfl rfl rfl rfl rfl rfl fc_s52 rfl rfl trivial ?_
  refine TL.done ?_
  refine FQ.end0 (Bs := [_, _, _]) [0, 1, 2] rfl rfl ⟨rfl, rfl, rfl, trivial⟩ ?_
  exact ⟨rfl, _, rfl⟩

set_option maxHeartbeats 1000000 in
theorem step_x0 {pb ab mb : Nat} {σ : M} {v : Value} {d : Array EdR} {l : Lay} (hl : l.Ok) (hd : d.size ≤ 100) {o : OpR} (hc : o.u = o.v)  : Go.Eng.Fn Tryz.prog 17 [.pointer (some ⟨pb, 0, none⟩), .agg #[.int .i64 o.kind, .int .i64 o.slot, .int .i64 o.u, .int .i64 o.v]] [pt pb (.cells #[.int .i64 l.V, .int .i64 l.S, .int .i64 l.T, .pointer (some ⟨ab, 0, none⟩), .int .i64 l.V, .int .i64 l.S, .int .i64 l.T, .iface 107 (.agg #[.pointer (some ⟨ab, 0, none⟩)]), .int .i64 1, .int .i64 0, .int .i64 l.V, .int .i64 l.S, .int .i64 l.T, .iface 107 (.agg #[.pointer (some ⟨ab, 0, none⟩)]), v] 54), arenaA ab mb 149 110 (σ), ownA encE 5 65 v d] (fun x Bs => x = .tuple #[] ∧ ∃ v2, Bs = [pt pb (.cells #[.int .i64 l.V, .int .i64 l.S, .int .i64 l.T, .pointer (some ⟨ab, 0, none⟩), .int .i64 l.V, .int .i64 l.S, .int .i64 l.T, .iface 107 (.agg #[.pointer (some ⟨ab, 0, none⟩)]), .int .i64 1, .int .i64 0, .int .i64 l.V, .int .i64 l.S, .int .i64 l.T, .iface 107 (.agg #[.pointer (some ⟨ab, 0, none⟩)]), v2] 54), arenaA ab mb 149 110 (σ), ownA encE 5 65 v2 (d)]) := by
  refine Fn.enter (Tryz.func17) rfl rfl (fun w0 R => ?_)
  refine TC.seq (TC.region ?_)
  refine TL.boxA 3 rfl rfl rfl (fun _ => trivial) (fun bk3 => ?_)
  refine TL.done (TQ.then (TC.seq (TC.region ?_)))
  refine TL.mv (.pointer (some ⟨_, _, none⟩)) rfl rfl rfl ?_
  refine TL.nc rfl rfl rfl ?_
  refine TL.fa 0 rfl fc_f54_0_0 rfl rfl ?_
  refine TL.ldA 0 3 [_, _, _] rfl rfl rfl fc_a23_3 rfl rfl ?_
  refine TL.alloc 4 (cs := #[.int .i64 0, .int .i64 0, .int .i64 0]) fc_z23 rfl rfl rfl (fun _ => trivial) (fun bk4 => ?_)
  refine TL.stW 4 3 [_, _, _] rfl rfl rfl rfl rfl rfl fc_a23_3 rfl rfl trivial ?_
  refine TL.done (TQ.then (TC.seq (TC.seq (TC.region ?_))))
  refine TL.fa 2 rfl fc_f33_2_2 rfl rfl ?_
  refine TL.ld 3 (.int _ _) rfl rfl rfl fc_s3 rfl rfl ?_
  refine TL.fa 3 rfl fc_f33_3_3 rfl rfl ?_
  refine TL.ld 3 (.int _ _) rfl rfl rfl fc_s3 rfl rfl ?_
  refine TL.eqlT rfl rfl (by omega) rfl rfl ?_
  refine TL.mv (.bool true) rfl rfl rfl ?_
  refine TL.off rfl rfl ?_
  refine TL.off rfl rfl ?_
  refine TL.off rfl rfl ?_
  refine TL.pickT (.bool true) rfl rfl rfl rfl ?_
  refine TL.mv (.bool true) rfl rfl rfl ?_
  refine TL.off rfl rfl ?_
  refine TL.off rfl rfl ?_
  refine TL.off rfl rfl ?_
  refine TL.off rfl rfl ?_
  refine TL.off rfl rfl ?_
  refine TL.pickT (.bool true) rfl rfl rfl rfl ?_
  refine TL.mv (.bool true) rfl rfl rfl ?_
  refine TL.off rfl rfl ?_
  refine TL.off rfl rfl ?_
  refine TL.off rfl rfl ?_
  refine TL.pickT (.bool true) rfl rfl rfl rfl ?_
  refine TL.mv (.bool true) rfl rfl rfl ?_
  refine TL.off rfl rfl ?_
  refine TL.off rfl rfl ?_
  refine TL.off rfl rfl ?_
  refine TL.off rfl rfl ?_
  refine TL.off rfl rfl ?_
  refine TL.pickT (.bool true) rfl rfl rfl rfl ?_
  refine TL.mv (.bool true) rfl rfl rfl ?_
  refine TL.off rfl rfl ?_
  refine TL.off rfl rfl ?_
  refine TL.off rfl rfl ?_
  refine TL.pickT (.bool true) rfl rfl rfl rfl ?_
  refine TL.mv (.bool true) rfl rfl rfl ?_
  refine TL.off rfl rfl ?_
  refine TL.off rfl rfl ?_
  refine TL.off rfl rfl ?_
  refine TL.off rfl rfl ?_
  refine TL.off rfl rfl ?_
  refine TL.pickT (.bool true) rfl rfl rfl rfl ?_
  refine TL.done (TQ.then (TC.condT rfl (TC.ret (TQ.thenRet ?_))))
  refine FQ.ret0 (Bs := [_, _, _]) [0, 1, 2] rfl rfl ⟨rfl, rfl, rfl, trivial⟩ ?_
  exact ⟨rfl, _, rfl⟩

set_option maxHeartbeats 1000000 in
theorem step_x1 {pb ab mb : Nat} {σ : M} {v : Value} {d : Array EdR} {l : Lay} (hl : l.Ok) (hd : d.size ≤ 100) {o : OpR} (n0 : ¬ o.u = o.v) (hc : o.u < 0)  : Go.Eng.Fn Tryz.prog 17 [.pointer (some ⟨pb, 0, none⟩), .agg #[.int .i64 o.kind, .int .i64 o.slot, .int .i64 o.u, .int .i64 o.v]] [pt pb (.cells #[.int .i64 l.V, .int .i64 l.S, .int .i64 l.T, .pointer (some ⟨ab, 0, none⟩), .int .i64 l.V, .int .i64 l.S, .int .i64 l.T, .iface 107 (.agg #[.pointer (some ⟨ab, 0, none⟩)]), .int .i64 1, .int .i64 0, .int .i64 l.V, .int .i64 l.S, .int .i64 l.T, .iface 107 (.agg #[.pointer (some ⟨ab, 0, none⟩)]), v] 54), arenaA ab mb 149 110 (σ), ownA encE 5 65 v d] (fun x Bs => x = .tuple #[] ∧ ∃ v2, Bs = [pt pb (.cells #[.int .i64 l.V, .int .i64 l.S, .int .i64 l.T, .pointer (some ⟨ab, 0, none⟩), .int .i64 l.V, .int .i64 l.S, .int .i64 l.T, .iface 107 (.agg #[.pointer (some ⟨ab, 0, none⟩)]), .int .i64 1, .int .i64 0, .int .i64 l.V, .int .i64 l.S, .int .i64 l.T, .iface 107 (.agg #[.pointer (some ⟨ab, 0, none⟩)]), v2] 54), arenaA ab mb 149 110 (σ), ownA encE 5 65 v2 (d)]) := by
  refine Fn.enter (Tryz.func17) rfl rfl (fun w0 R => ?_)
  refine TC.seq (TC.region ?_)
  refine TL.boxA 3 rfl rfl rfl (fun _ => trivial) (fun bk3 => ?_)
  refine TL.done (TQ.then (TC.seq (TC.region ?_)))
  refine TL.mv (.pointer (some ⟨_, _, none⟩)) rfl rfl rfl ?_
  refine TL.nc rfl rfl rfl ?_
  refine TL.fa 0 rfl fc_f54_0_0 rfl rfl ?_
  refine TL.ldA 0 3 [_, _, _] rfl rfl rfl fc_a23_3 rfl rfl ?_
  refine TL.alloc 4 (cs := #[.int .i64 0, .int .i64 0, .int .i64 0]) fc_z23 rfl rfl rfl (fun _ => trivial) (fun bk4 => ?_)
  refine TL.stW 4 3 [_, _, _] rfl rfl rfl rfl rfl rfl fc_a23_3 rfl rfl trivial ?_
  refine TL.done (TQ.then (TC.seq (TC.seq (TC.region ?_))))
  refine TL.fa 2 rfl fc_f33_2_2 rfl rfl ?_
  refine TL.ld 3 (.int _ _) rfl rfl rfl fc_s3 rfl rfl ?_
  refine TL.fa 3 rfl fc_f33_3_3 rfl rfl ?_
  refine TL.ld 3 (.int _ _) rfl rfl rfl fc_s3 rfl rfl ?_
  refine TL.eqlF rfl rfl (by omega) rfl rfl ?_
  refine TL.mv (.bool false) rfl rfl rfl ?_
  refine TL.fa 2 rfl fc_f33_2_2 rfl rfl ?_
  refine TL.ld 3 (.int _ _) rfl rfl rfl fc_s3 rfl rfl ?_
  refine TL.lssT rfl rfl (by omega) rfl rfl ?_
  refine TL.pickF (.bool true) rfl rfl rfl rfl ?_
  refine TL.mv (.bool true) rfl rfl rfl ?_
  refine TL.off rfl rfl ?_
  refine TL.off rfl rfl ?_
  refine TL.off rfl rfl ?_
  refine TL.off rfl rfl ?_
  refine TL.off rfl rfl ?_
  refine TL.pickT (.bool true) rfl rfl rfl rfl ?_
  refine TL.mv (.bool true) rfl rfl rfl ?_
  refine TL.off rfl rfl ?_
  refine TL.off rfl rfl ?_
  refine TL.off rfl rfl ?_
  refine TL.pickT (.bool true) rfl rfl rfl rfl ?_
  refine TL.mv (.bool true) rfl rfl rfl ?_
  refine TL.off rfl rfl ?_
  refine TL.off rfl rfl ?_
  refine TL.off rfl rfl ?_
  refine TL.off rfl rfl ?_
  refine TL.off rfl rfl ?_
  refine TL.pickT (.bool true) rfl rfl rfl rfl ?_
  refine TL.mv (.bool true) rfl rfl rfl ?_
  refine TL.off rfl rfl ?_
  refine TL.off rfl rfl ?_
  refine TL.off rfl rfl ?_
  refine TL.pickT (.bool true) rfl rfl rfl rfl ?_
  refine TL.mv (.bool true) rfl rfl rfl ?_
  refine TL.off rfl rfl ?_
  refine TL.off rfl rfl ?_
  refine TL.off rfl rfl ?_
  refine TL.off rfl rfl ?_
  refine TL.off rfl rfl ?_
  refine TL.pickT (.bool true) rfl rfl rfl rfl ?_
  refine TL.done (TQ.then (TC.condT rfl (TC.ret (TQ.thenRet ?_))))
  refine FQ.ret0 (Bs := [_, _, _]) [0, 1, 2] rfl rfl ⟨rfl, rfl, rfl, trivial⟩ ?_
  exact ⟨rfl, _, rfl⟩

set_option maxHeartbeats 1000000 in
theorem step_x2 {pb ab mb : Nat} {σ : M} {v : Value} {d : Array EdR} {l : Lay} (hl : l.Ok) (hd : d.size ≤ 100) {o : OpR} (n0 : ¬ o.u = o.v) (n1 : ¬ o.u < 0) (hc : l.V ≤ o.u)  : Go.Eng.Fn Tryz.prog 17 [.pointer (some ⟨pb, 0, none⟩), .agg #[.int .i64 o.kind, .int .i64 o.slot, .int .i64 o.u, .int .i64 o.v]] [pt pb (.cells #[.int .i64 l.V, .int .i64 l.S, .int .i64 l.T, .pointer (some ⟨ab, 0, none⟩), .int .i64 l.V, .int .i64 l.S, .int .i64 l.T, .iface 107 (.agg #[.pointer (some ⟨ab, 0, none⟩)]), .int .i64 1, .int .i64 0, .int .i64 l.V, .int .i64 l.S, .int .i64 l.T, .iface 107 (.agg #[.pointer (some ⟨ab, 0, none⟩)]), v] 54), arenaA ab mb 149 110 (σ), ownA encE 5 65 v d] (fun x Bs => x = .tuple #[] ∧ ∃ v2, Bs = [pt pb (.cells #[.int .i64 l.V, .int .i64 l.S, .int .i64 l.T, .pointer (some ⟨ab, 0, none⟩), .int .i64 l.V, .int .i64 l.S, .int .i64 l.T, .iface 107 (.agg #[.pointer (some ⟨ab, 0, none⟩)]), .int .i64 1, .int .i64 0, .int .i64 l.V, .int .i64 l.S, .int .i64 l.T, .iface 107 (.agg #[.pointer (some ⟨ab, 0, none⟩)]), v2] 54), arenaA ab mb 149 110 (σ), ownA encE 5 65 v2 (d)]) := by
  refine Fn.enter (Tryz.func17) rfl rfl (fun w0 R => ?_)
  refine TC.seq (TC.region ?_)
  refine TL.boxA 3 rfl rfl rfl (fun _ => trivial) (fun bk3 => ?_)
  refine TL.done (TQ.then (TC.seq (TC.region ?_)))
  refine TL.mv (.pointer (some ⟨_, _, none⟩)) rfl rfl rfl ?_
  refine TL.nc rfl rfl rfl ?_
  refine TL.fa 0 rfl fc_f54_0_0 rfl rfl ?_
  refine TL.ldA 0 3 [_, _, _] rfl rfl rfl fc_a23_3 rfl rfl ?_
  refine TL.alloc 4 (cs := #[.int .i64 0, .int .i64 0, .int .i64 0]) fc_z23 rfl rfl rfl (fun _ => trivial) (fun bk4 => ?_)
  refine TL.stW 4 3 [_, _, _] rfl rfl rfl rfl rfl rfl fc_a23_3 rfl rfl trivial ?_
  refine TL.done (TQ.then (TC.seq (TC.seq (TC.region ?_))))
  refine TL.fa 2 rfl fc_f33_2_2 rfl rfl ?_
  refine TL.ld 3 (.int _ _) rfl rfl rfl fc_s3 rfl rfl ?_
  refine TL.fa 3 rfl fc_f33_3_3 rfl rfl ?_
  refine TL.ld 3 (.int _ _) rfl rfl rfl fc_s3 rfl rfl ?_
  refine TL.eqlF rfl rfl (by omega) rfl rfl ?_
  refine TL.mv (.bool false) rfl rfl rfl ?_
  refine TL.fa 2 rfl fc_f33_2_2 rfl rfl ?_
  refine TL.ld 3 (.int _ _) rfl rfl rfl fc_s3 rfl rfl ?_
  refine TL.lssF rfl rfl (by omega) rfl rfl ?_
  refine TL.pickF (.bool false) rfl rfl rfl rfl ?_
  refine TL.mv (.bool false) rfl rfl rfl ?_
  refine TL.fa 2 rfl fc_f33_2_2 rfl rfl ?_
  refine TL.ld 3 (.int _ _) rfl rfl rfl fc_s3 rfl rfl ?_
  refine TL.fa 0 rfl fc_f23_0_0 rfl rfl ?_
  refine TL.ld 4 (.int _ _) rfl rfl rfl fc_s3 rfl rfl ?_
  refine TL.geqT rfl rfl (by omega) rfl rfl ?_
  refine TL.pickF (.bool true) rfl rfl rfl rfl ?_
  refine TL.mv (.bool true) rfl rfl rfl ?_
  refine TL.off rfl rfl ?_
  refine TL.off rfl rfl ?_
  refine TL.off rfl rfl ?_
  refine TL.pickT (.bool true) rfl rfl rfl rfl ?_
  refine TL.mv (.bool true) rfl rfl rfl ?_
  refine TL.off rfl rfl ?_
  refine TL.off rfl rfl ?_
  refine TL.off rfl rfl ?_
  refine TL.off rfl rfl ?_
  refine TL.off rfl rfl ?_
  refine TL.pickT (.bool true) rfl rfl rfl rfl ?_
  refine TL.mv (.bool true) rfl rfl rfl ?_
  refine TL.off rfl rfl ?_
  refine TL.off rfl rfl ?_
  refine TL.off rfl rfl ?_
  refine TL.pickT (.bool true) rfl rfl rfl rfl ?_
  refine TL.mv (.bool true) rfl rfl rfl ?_
  refine TL.off rfl rfl ?_
  refine TL.off rfl rfl ?_
  refine TL.off rfl rfl ?_
  refine TL.off rfl rfl ?_
  refine TL.off rfl rfl ?_
  refine TL.pickT (.bool true) rfl rfl rfl rfl ?_
  refine TL.done (TQ.then (TC.condT rfl (TC.ret (TQ.thenRet ?_))))
  refine FQ.ret0 (Bs := [_, _, _]) [0, 1, 2] rfl rfl ⟨rfl, rfl, rfl, trivial⟩ ?_
  exact ⟨rfl, _, rfl⟩

set_option maxHeartbeats 1000000 in
theorem step_x3 {pb ab mb : Nat} {σ : M} {v : Value} {d : Array EdR} {l : Lay} (hl : l.Ok) (hd : d.size ≤ 100) {o : OpR} (n0 : ¬ o.u = o.v) (n1 : ¬ o.u < 0) (n2 : ¬ l.V ≤ o.u) (hc : o.v < 0)  : Go.Eng.Fn Tryz.prog 17 [.pointer (some ⟨pb, 0, none⟩), .agg #[.int .i64 o.kind, .int .i64 o.slot, .int .i64 o.u, .int .i64 o.v]] [pt pb (.cells #[.int .i64 l.V, .int .i64 l.S, .int .i64 l.T, .pointer (some ⟨ab, 0, none⟩), .int .i64 l.V, .int .i64 l.S, .int .i64 l.T, .iface 107 (.agg #[.pointer (some ⟨ab, 0, none⟩)]), .int .i64 1, .int .i64 0, .int .i64 l.V, .int .i64 l.S, .int .i64 l.T, .iface 107 (.agg #[.pointer (some ⟨ab, 0, none⟩)]), v] 54), arenaA ab mb 149 110 (σ), ownA encE 5 65 v d] (fun x Bs => x = .tuple #[] ∧ ∃ v2, Bs = [pt pb (.cells #[.int .i64 l.V, .int .i64 l.S, .int .i64 l.T, .pointer (some ⟨ab, 0, none⟩), .int .i64 l.V, .int .i64 l.S, .int .i64 l.T, .iface 107 (.agg #[.pointer (some ⟨ab, 0, none⟩)]), .int .i64 1, .int .i64 0, .int .i64 l.V, .int .i64 l.S, .int .i64 l.T, .iface 107 (.agg #[.pointer (some ⟨ab, 0, none⟩)]), v2] 54), arenaA ab mb 149 110 (σ), ownA encE 5 65 v2 (d)]) := by
  refine Fn.enter (Tryz.func17) rfl rfl (fun w0 R => ?_)
  refine TC.seq (TC.region ?_)
  refine TL.boxA 3 rfl rfl rfl (fun _ => trivial) (fun bk3 => ?_)
  refine TL.done (TQ.then (TC.seq (TC.region ?_)))
  refine TL.mv (.pointer (some ⟨_, _, none⟩)) rfl rfl rfl ?_
  refine TL.nc rfl rfl rfl ?_
  refine TL.fa 0 rfl fc_f54_0_0 rfl rfl ?_
  refine TL.ldA 0 3 [_, _, _] rfl rfl rfl fc_a23_3 rfl rfl ?_
  refine TL.alloc 4 (cs := #[.int .i64 0, .int .i64 0, .int .i64 0]) fc_z23 rfl rfl rfl (fun _ => trivial) (fun bk4 => ?_)
  refine TL.stW 4 3 [_, _, _] rfl rfl rfl rfl rfl rfl fc_a23_3 rfl rfl trivial ?_
  refine TL.done (TQ.then (TC.seq (TC.seq (TC.region ?_))))
  refine TL.fa 2 rfl fc_f33_2_2 rfl rfl ?_
  refine TL.ld 3 (.int _ _) rfl rfl rfl fc_s3 rfl rfl ?_
  refine TL.fa 3 rfl fc_f33_3_3 rfl rfl ?_
  refine TL.ld 3 (.int _ _) rfl rfl rfl fc_s3 rfl rfl ?_
  refine TL.eqlF rfl rfl (by omega) rfl rfl ?_
  refine TL.mv (.bool false) rfl rfl rfl ?_
  refine TL.fa 2 rfl fc_f33_2_2 rfl rfl ?_
  refine TL.ld 3 (.int _ _) rfl rfl rfl fc_s3 rfl rfl ?_
  refine TL.lssF rfl rfl (by omega) rfl rfl ?_
  refine TL.pickF (.bool false) rfl rfl rfl rfl ?_
  refine TL.mv (.bool false) rfl rfl rfl ?_
  refine TL.fa 2 rfl fc_f33_2_2 rfl rfl ?_
  refine TL.ld 3 (.int _ _) rfl rfl rfl fc_s3 rfl rfl ?_
  refine TL.fa 0 rfl fc_f23_0_0 rfl rfl ?_
  refine TL.ld 4 (.int _ _) rfl rfl rfl fc_s3 rfl rfl ?_
  refine TL.geqF rfl rfl (by omega) rfl rfl ?_
  refine TL.pickF (.bool false) rfl rfl rfl rfl ?_
  refine TL.mv (.bool false) rfl rfl rfl ?_
  refine TL.fa 3 rfl fc_f33_3_3 rfl rfl ?_
  refine TL.ld 3 (.int _ _) rfl rfl rfl fc_s3 rfl rfl ?_
  refine TL.lssT rfl rfl (by omega) rfl rfl ?_
  refine TL.pickF (.bool true) rfl rfl rfl rfl ?_
  refine TL.mv (.bool true) rfl rfl rfl ?_
  refine TL.off rfl rfl ?_
  refine TL.off rfl rfl ?_
  refine TL.off rfl rfl ?_
  refine TL.off rfl rfl ?_
  refine TL.off rfl rfl ?_
  refine TL.pickT (.bool true) rfl rfl rfl rfl ?_
  refine TL.mv (.bool true) rfl rfl rfl ?_
  refine TL.off rfl rfl ?_
  refine TL.off rfl rfl ?_
  refine TL.off rfl rfl ?_
  refine TL.pickT (.bool true) rfl rfl rfl rfl ?_
  refine TL.mv (.bool true) rfl rfl rfl ?_
  refine TL.off rfl rfl ?_
  refine TL.off rfl rfl ?_
  refine TL.off rfl rfl ?_
  refine TL.off rfl rfl ?_
  refine TL.off rfl rfl ?_
  refine TL.pickT (.bool true) rfl rfl rfl rfl ?_
  refine TL.done (TQ.then (TC.condT rfl (TC.ret (TQ.thenRet ?_))))
  refine FQ.ret0 (Bs := [_, _, _]) [0, 1, 2] rfl rfl ⟨rfl, rfl, rfl, trivial⟩ ?_
  exact ⟨rfl, _, rfl⟩

set_option maxHeartbeats 1000000 in
theorem step_x4 {pb ab mb : Nat} {σ : M} {v : Value} {d : Array EdR} {l : Lay} (hl : l.Ok) (hd : d.size ≤ 100) {o : OpR} (n0 : ¬ o.u = o.v) (n1 : ¬ o.u < 0) (n2 : ¬ l.V ≤ o.u) (n3 : ¬ o.v < 0) (hc : l.V ≤ o.v)  : Go.Eng.Fn Tryz.prog 17 [.pointer (some ⟨pb, 0, none⟩), .agg #[.int .i64 o.kind, .int .i64 o.slot, .int .i64 o.u, .int .i64 o.v]] [pt pb (.cells #[.int .i64 l.V, .int .i64 l.S, .int .i64 l.T, .pointer (some ⟨ab, 0, none⟩), .int .i64 l.V, .int .i64 l.S, .int .i64 l.T, .iface 107 (.agg #[.pointer (some ⟨ab, 0, none⟩)]), .int .i64 1, .int .i64 0, .int .i64 l.V, .int .i64 l.S, .int .i64 l.T, .iface 107 (.agg #[.pointer (some ⟨ab, 0, none⟩)]), v] 54), arenaA ab mb 149 110 (σ), ownA encE 5 65 v d] (fun x Bs => x = .tuple #[] ∧ ∃ v2, Bs = [pt pb (.cells #[.int .i64 l.V, .int .i64 l.S, .int .i64 l.T, .pointer (some ⟨ab, 0, none⟩), .int .i64 l.V, .int .i64 l.S, .int .i64 l.T, .iface 107 (.agg #[.pointer (some ⟨ab, 0, none⟩)]), .int .i64 1, .int .i64 0, .int .i64 l.V, .int .i64 l.S, .int .i64 l.T, .iface 107 (.agg #[.pointer (some ⟨ab, 0, none⟩)]), v2] 54), arenaA ab mb 149 110 (σ), ownA encE 5 65 v2 (d)]) := by
  refine Fn.enter (Tryz.func17) rfl rfl (fun w0 R => ?_)
  refine TC.seq (TC.region ?_)
  refine TL.boxA 3 rfl rfl rfl (fun _ => trivial) (fun bk3 => ?_)
  refine TL.done (TQ.then (TC.seq (TC.region ?_)))
  refine TL.mv (.pointer (some ⟨_, _, none⟩)) rfl rfl rfl ?_
  refine TL.nc rfl rfl rfl ?_
  refine TL.fa 0 rfl fc_f54_0_0 rfl rfl ?_
  refine TL.ldA 0 3 [_, _, _] rfl rfl rfl fc_a23_3 rfl rfl ?_
  refine TL.alloc 4 (cs := #[.int .i64 0, .int .i64 0, .int .i64 0]) fc_z23 rfl rfl rfl (fun _ => trivial) (fun bk4 => ?_)
  refine TL.stW 4 3 [_, _, _] rfl rfl rfl rfl rfl rfl fc_a23_3 rfl rfl trivial ?_
  refine TL.done (TQ.then (TC.seq (TC.seq (TC.region ?_))))
  refine TL.fa 2 rfl fc_f33_2_2 rfl rfl ?_
  refine TL.ld 3 (.int _ _) rfl rfl rfl fc_s3 rfl rfl ?_
  refine TL.fa 3 rfl fc_f33_3_3 rfl rfl ?_
  refine TL.ld 3 (.int _ _) rfl rfl rfl fc_s3 rfl rfl ?_
  refine TL.eqlF rfl rfl (by omega) rfl rfl ?_
  refine TL.mv (.bool false) rfl rfl rfl ?_
  refine TL.fa 2 rfl fc_f33_2_2 rfl rfl ?_
  refine TL.ld 3 (.int _ _) rfl rfl rfl fc_s3 rfl rfl ?_
  refine TL.lssF rfl rfl (by omega) rfl rfl ?_
  refine TL.pickF (.bool false) rfl rfl rfl rfl ?_
  refine TL.mv (.bool false) rfl rfl rfl ?_
  refine TL.fa 2 rfl fc_f33_2_2 rfl rfl ?_
  refine TL.ld 3 (.int _ _) rfl rfl rfl fc_s3 rfl rfl ?_
  refine TL.fa 0 rfl fc_f23_0_0 rfl rfl ?_
  refine TL.ld 4 (.int _ _) rfl rfl rfl fc_s3 rfl rfl ?_
  refine TL.geqF rfl rfl (by omega) rfl rfl ?_
  refine TL.pickF (.bool false) rfl rfl rfl rfl ?_
  refine TL.mv (.bool false) rfl rfl rfl ?_
  refine TL.fa 3 rfl fc_f33_3_3 rfl rfl ?_
  refine TL.ld 3 (.int _ _) rfl rfl rfl fc_s3 rfl rfl ?_
  refine TL.lssF rfl rfl (by omega) rfl rfl ?_
  refine TL.pickF (.bool false) rfl rfl rfl rfl ?_
  refine TL.mv (.bool false) rfl rfl rfl ?_
  refine TL.fa 3 rfl fc_f33_3_3 rfl rfl ?_
  refine TL.ld 3 (.int _ _) rfl rfl rfl fc_s3 rfl rfl ?_
  refine TL.fa 0 rfl fc_f23_0_0 rfl rfl ?_
  refine TL.ld 4 (.int _ _) rfl rfl rfl fc_s3 rfl rfl ?_
  refine TL.geqT rfl rfl (by omega) rfl rfl ?_
  refine TL.pickF (.bool true) rfl rfl rfl rfl ?_
  refine TL.mv (.bool true) rfl rfl rfl ?_
  refine TL.off rfl rfl ?_
  refine TL.off rfl rfl ?_
  refine TL.off rfl rfl ?_
  refine TL.pickT (.bool true) rfl rfl rfl rfl ?_
  refine TL.mv (.bool true) rfl rfl rfl ?_
  refine TL.off rfl rfl ?_
  refine TL.off rfl rfl ?_
  refine TL.off rfl rfl ?_
  refine TL.off rfl rfl ?_
  refine TL.off rfl rfl ?_
  refine TL.pickT (.bool true) rfl rfl rfl rfl ?_
  refine TL.done (TQ.then (TC.condT rfl (TC.ret (TQ.thenRet ?_))))
  refine FQ.ret0 (Bs := [_, _, _]) [0, 1, 2] rfl rfl ⟨rfl, rfl, rfl, trivial⟩ ?_
  exact ⟨rfl, _, rfl⟩

set_option maxHeartbeats 1000000 in
theorem step_x5 {pb ab mb : Nat} {σ : M} {v : Value} {d : Array EdR} {l : Lay} (hl : l.Ok) (hd : d.size ≤ 100) {o : OpR} (n0 : ¬ o.u = o.v) (n1 : ¬ o.u < 0) (n2 : ¬ l.V ≤ o.u) (n3 : ¬ o.v < 0) (n4 : ¬ l.V ≤ o.v) (hc : o.slot < 0)  : Go.Eng.Fn Tryz.prog 17 [.pointer (some ⟨pb, 0, none⟩), .agg #[.int .i64 o.kind, .int .i64 o.slot, .int .i64 o.u, .int .i64 o.v]] [pt pb (.cells #[.int .i64 l.V, .int .i64 l.S, .int .i64 l.T, .pointer (some ⟨ab, 0, none⟩), .int .i64 l.V, .int .i64 l.S, .int .i64 l.T, .iface 107 (.agg #[.pointer (some ⟨ab, 0, none⟩)]), .int .i64 1, .int .i64 0, .int .i64 l.V, .int .i64 l.S, .int .i64 l.T, .iface 107 (.agg #[.pointer (some ⟨ab, 0, none⟩)]), v] 54), arenaA ab mb 149 110 (σ), ownA encE 5 65 v d] (fun x Bs => x = .tuple #[] ∧ ∃ v2, Bs = [pt pb (.cells #[.int .i64 l.V, .int .i64 l.S, .int .i64 l.T, .pointer (some ⟨ab, 0, none⟩), .int .i64 l.V, .int .i64 l.S, .int .i64 l.T, .iface 107 (.agg #[.pointer (some ⟨ab, 0, none⟩)]), .int .i64 1, .int .i64 0, .int .i64 l.V, .int .i64 l.S, .int .i64 l.T, .iface 107 (.agg #[.pointer (some ⟨ab, 0, none⟩)]), v2] 54), arenaA ab mb 149 110 (σ), ownA encE 5 65 v2 (d)]) := by
  refine Fn.enter (Tryz.func17) rfl rfl (fun w0 R => ?_)
  refine TC.seq (TC.region ?_)
  refine TL.boxA 3 rfl rfl rfl (fun _ => trivial) (fun bk3 => ?_)
  refine TL.done (TQ.then (TC.seq (TC.region ?_)))
  refine TL.mv (.pointer (some ⟨_, _, none⟩)) rfl rfl rfl ?_
  refine TL.nc rfl rfl rfl ?_
  refine TL.fa 0 rfl fc_f54_0_0 rfl rfl ?_
  refine TL.ldA 0 3 [_, _, _] rfl rfl rfl fc_a23_3 rfl rfl ?_
  refine TL.alloc 4 (cs := #[.int .i64 0, .int .i64 0, .int .i64 0]) fc_z23 rfl rfl rfl (fun _ => trivial) (fun bk4 => ?_)
  refine TL.stW 4 3 [_, _, _] rfl rfl rfl rfl rfl rfl fc_a23_3 rfl rfl trivial ?_
  refine TL.done (TQ.then (TC.seq (TC.seq (TC.region ?_))))
  refine TL.fa 2 rfl fc_f33_2_2 rfl rfl ?_
  refine TL.ld 3 (.int _ _) rfl rfl rfl fc_s3 rfl rfl ?_
  refine TL.fa 3 rfl fc_f33_3_3 rfl rfl ?_
  refine TL.ld 3 (.int _ _) rfl rfl rfl fc_s3 rfl rfl ?_
  refine TL.eqlF rfl rfl (by omega) rfl rfl ?_
  refine TL.mv (.bool false) rfl rfl rfl ?_
  refine TL.fa 2 rfl fc_f33_2_2 rfl rfl ?_
  refine TL.ld 3 (.int _ _) rfl rfl rfl fc_s3 rfl rfl ?_
  refine TL.lssF rfl rfl (by omega) rfl rfl ?_
  refine TL.pickF (.bool false) rfl rfl rfl rfl ?_
  refine TL.mv (.bool false) rfl rfl rfl ?_
  refine TL.fa 2 rfl fc_f33_2_2 rfl rfl ?_
  refine TL.ld 3 (.int _ _) rfl rfl rfl fc_s3 rfl rfl ?_
  refine TL.fa 0 rfl fc_f23_0_0 rfl rfl ?_
  refine TL.ld 4 (.int _ _) rfl rfl rfl fc_s3 rfl rfl ?_
  refine TL.geqF rfl rfl (by omega) rfl rfl ?_
  refine TL.pickF (.bool false) rfl rfl rfl rfl ?_
  refine TL.mv (.bool false) rfl rfl rfl ?_
  refine TL.fa 3 rfl fc_f33_3_3 rfl rfl ?_
  refine TL.ld 3 (.int _ _) rfl rfl rfl fc_s3 rfl rfl ?_
  refine TL.lssF rfl rfl (by omega) rfl rfl ?_
  refine TL.pickF (.bool false) rfl rfl rfl rfl ?_
  refine TL.mv (.bool false) rfl rfl rfl ?_
  refine TL.fa 3 rfl fc_f33_3_3 rfl rfl ?_
  refine TL.ld 3 (.int _ _) rfl rfl rfl fc_s3 rfl rfl ?_
  refine TL.fa 0 rfl fc_f23_0_0 rfl rfl ?_
  refine TL.ld 4 (.int _ _) rfl rfl rfl fc_s3 rfl rfl ?_
  refine TL.geqF rfl rfl (by omega) rfl rfl ?_
  refine TL.pickF (.bool false) rfl rfl rfl rfl ?_
  refine TL.mv (.bool false) rfl rfl rfl ?_
  refine TL.fa 1 rfl fc_f33_1_1 rfl rfl ?_
  refine TL.ld 3 (.int _ _) rfl rfl rfl fc_s3 rfl rfl ?_
  refine TL.lssT rfl rfl (by omega) rfl rfl ?_
  refine TL.pickF (.bool true) rfl rfl rfl rfl ?_
  refine TL.mv (.bool true) rfl rfl rfl ?_
  refine TL.off rfl rfl ?_
  refine TL.off rfl rfl ?_
  refine TL.off rfl rfl ?_
  refine TL.off rfl rfl ?_
  refine TL.off rfl rfl ?_
  refine TL.pickT (.bool true) rfl rfl rfl rfl ?_
  refine TL.done (TQ.then (TC.condT rfl (TC.ret (TQ.thenRet ?_))))
  refine FQ.ret0 (Bs := [_, _, _]) [0, 1, 2] rfl rfl ⟨rfl, rfl, rfl, trivial⟩ ?_
  exact ⟨rfl, _, rfl⟩

set_option maxHeartbeats 1000000 in
theorem step_x6 {pb ab mb : Nat} {σ : M} {v : Value} {d : Array EdR} {l : Lay} (hl : l.Ok) (hd : d.size ≤ 100) {o : OpR} (n0 : ¬ o.u = o.v) (n1 : ¬ o.u < 0) (n2 : ¬ l.V ≤ o.u) (n3 : ¬ o.v < 0) (n4 : ¬ l.V ≤ o.v) (n5 : ¬ o.slot < 0) (hc : l.S ≤ o.slot)  : Go.Eng.Fn Tryz.prog 17 [.pointer (some ⟨pb, 0, none⟩), .agg #[.int .i64 o.kind, .int .i64 o.slot, .int .i64 o.u, .int .i64 o.v]] [pt pb (.cells #[.int .i64 l.V, .int .i64 l.S, .int .i64 l.T, .pointer (some ⟨ab, 0, none⟩), .int .i64 l.V, .int .i64 l.S, .int .i64 l.T, .iface 107 (.agg #[.pointer (some ⟨ab, 0, none⟩)]), .int .i64 1, .int .i64 0, .int .i64 l.V, .int .i64 l.S, .int .i64 l.T, .iface 107 (.agg #[.pointer (some ⟨ab, 0, none⟩)]), v] 54), arenaA ab mb 149 110 (σ), ownA encE 5 65 v d] (fun x Bs => x = .tuple #[] ∧ ∃ v2, Bs = [pt pb (.cells #[.int .i64 l.V, .int .i64 l.S, .int .i64 l.T, .pointer (some ⟨ab, 0, none⟩), .int .i64 l.V, .int .i64 l.S, .int .i64 l.T, .iface 107 (.agg #[.pointer (some ⟨ab, 0, none⟩)]), .int .i64 1, .int .i64 0, .int .i64 l.V, .int .i64 l.S, .int .i64 l.T, .iface 107 (.agg #[.pointer (some ⟨ab, 0, none⟩)]), v2] 54), arenaA ab mb 149 110 (σ), ownA encE 5 65 v2 (d)]) := by
  refine Fn.enter (Tryz.func17) rfl rfl (fun w0 R => ?_)
  refine TC.seq (TC.region ?_)
  refine TL.boxA 3 rfl rfl rfl (fun _ => trivial) (fun bk3 => ?_)
  refine TL.done (TQ.then (TC.seq (TC.region ?_)))
  refine TL.mv (.pointer (some ⟨_, _, none⟩)) rfl rfl rfl ?_
  refine TL.nc rfl rfl rfl ?_
  refine TL.fa 0 rfl fc_f54_0_0 rfl rfl ?_
  refine TL.ldA 0 3 [_, _, _] rfl rfl rfl fc_a23_3 rfl rfl ?_
  refine TL.alloc 4 (cs := #[.int .i64 0, .int .i64 0, .int .i64 0]) fc_z23 rfl rfl rfl (fun _ => trivial) (fun bk4 => ?_)
  refine TL.stW 4 3 [_, _, _] rfl rfl rfl rfl rfl rfl fc_a23_3 rfl rfl trivial ?_
  refine TL.done (TQ.then (TC.seq (TC.seq (TC.region ?_))))
  refine TL.fa 2 rfl fc_f33_2_2 rfl rfl ?_
  refine TL.ld 3 (.int _ _) rfl rfl rfl fc_s3 rfl rfl ?_
  refine TL.fa 3 rfl fc_f33_3_3 rfl rfl ?_
  refine TL.ld 3 (.int _ _) rfl rfl rfl fc_s3 rfl rfl ?_
  refine TL.eqlF rfl rfl (by omega) rfl rfl ?_
  refine TL.mv (.bool false) rfl rfl rfl ?_
  refine TL.fa 2 rfl fc_f33_2_2 rfl rfl ?_
  refine TL.ld 3 (.int _ _) rfl rfl rfl fc_s3 rfl rfl ?_
  refine TL.lssF rfl rfl (by omega) rfl rfl ?_
  refine TL.pickF (.bool false) rfl rfl rfl rfl ?_
  refine TL.mv (.bool false) rfl rfl rfl ?_
  refine TL.fa 2 rfl fc_f33_2_2 rfl rfl ?_
  refine TL.ld 3 (.int _ _) rfl rfl rfl fc_s3 rfl rfl ?_
  refine TL.fa 0 rfl fc_f23_0_0 rfl rfl ?_
  refine TL.ld 4 (.int _ _) rfl rfl rfl fc_s3 rfl rfl ?_
  refine TL.geqF rfl rfl (by omega) rfl rfl ?_
  refine TL.pickF (.bool false) rfl rfl rfl rfl ?_
  refine TL.mv (.bool false) rfl rfl rfl ?_
  refine TL.fa 3 rfl fc_f33_3_3 rfl rfl ?_
  refine TL.ld 3 (.int _ _) rfl rfl rfl fc_s3 rfl rfl ?_
  refine TL.lssF rfl rfl (by omega) rfl rfl ?_
  refine TL.pickF (.bool false) rfl rfl rfl rfl ?_
  refine TL.mv (.bool false) rfl rfl rfl ?_
  refine TL.fa 3 rfl fc_f33_3_3 rfl rfl ?_
  refine TL.ld 3 (.int _ _) rfl rfl rfl fc_s3 rfl rfl ?_
  refine TL.fa 0 rfl fc_f23_0_0 rfl rfl ?_
  refine TL.ld 4 (.int _ _) rfl rfl rfl fc_s3 rfl rfl ?_
  refine TL.geqF rfl rfl (by omega) rfl rfl ?_
  refine TL.pickF (.bool false) rfl rfl rfl rfl ?_
  refine TL.mv (.bool false) rfl rfl rfl ?_
  refine TL.fa 1 rfl fc_f33_1_1 rfl rfl ?_
  refine TL.ld 3 (.int _ _) rfl rfl rfl fc_s3 rfl rfl ?_
  refine TL.lssF rfl rfl (by omega) rfl rfl ?_
  refine TL.pickF (.bool false) rfl rfl rfl rfl ?_
  refine TL.mv (.bool false) rfl rfl rfl ?_
  refine TL.fa 1 rfl fc_f33_1_1 rfl rfl ?_
  refine TL.ld 3 (.int _ _) rfl rfl rfl fc_s3 rfl rfl ?_
  refine TL.fa 1 rfl fc_f23_1_1 rfl rfl ?_
  refine TL.ld 4 (.int _ _) rfl rfl rfl fc_s3 rfl rfl ?_
  refine TL.geqT rfl rfl (by omega) rfl rfl ?_
  refine TL.pickF (.bool true) rfl rfl rfl rfl ?_
  refine TL.done (TQ.then (TC.condT rfl (TC.ret (TQ.thenRet ?_))))
  refine FQ.ret0 (Bs := [_, _, _]) [0, 1, 2] rfl rfl ⟨rfl, rfl, rfl, trivial⟩ ?_
  exact ⟨rfl, _, rfl⟩

set_option maxHeartbeats 1000000 in
theorem step_p {pb ab mb : Nat} {σ : M} {v : Value} {d : Array EdR} {l : Lay} (hl : l.Ok) (hd : d.size ≤ 100) {o : OpR} (hv : ¬ (o.u = o.v ∨ o.u < 0 ∨ l.V ≤ o.u ∨ o.v < 0 ∨ l.V ≤ o.v ∨ o.slot < 0 ∨ l.S ≤ o.slot)) (hk : o.kind = 1) (e : slotN (fun i => d[i]!) o.slot d.size = -1) {k : Nat} {σ2 : M} {d2 : Array EdR} (h : putA l k σ d o = some (σ2, d2))  : Go.Eng.Fn Tryz.prog 17 [.pointer (some ⟨pb, 0, none⟩), .agg #[.int .i64 o.kind, .int .i64 o.slot, .int .i64 o.u, .int .i64 o.v]] [pt pb (.cells #[.int .i64 l.V, .int .i64 l.S, .int .i64 l.T, .pointer (some ⟨ab, 0, none⟩), .int .i64 l.V, .int .i64 l.S, .int .i64 l.T, .iface 107 (.agg #[.pointer (some ⟨ab, 0, none⟩)]), .int .i64 1, .int .i64 0, .int .i64 l.V, .int .i64 l.S, .int .i64 l.T, .iface 107 (.agg #[.pointer (some ⟨ab, 0, none⟩)]), v] 54), arenaA ab mb 149 110 (σ), ownA encE 5 65 v d] (fun x Bs => x = .tuple #[] ∧ ∃ v2, Bs = [pt pb (.cells #[.int .i64 l.V, .int .i64 l.S, .int .i64 l.T, .pointer (some ⟨ab, 0, none⟩), .int .i64 l.V, .int .i64 l.S, .int .i64 l.T, .iface 107 (.agg #[.pointer (some ⟨ab, 0, none⟩)]), .int .i64 1, .int .i64 0, .int .i64 l.V, .int .i64 l.S, .int .i64 l.T, .iface 107 (.agg #[.pointer (some ⟨ab, 0, none⟩)]), v2] 54), arenaA ab mb 149 110 (σ2), ownA encE 5 65 v2 (d2)]) := by
  refine Fn.enter (Tryz.func17) rfl rfl (fun w0 R => ?_)
  refine TC.seq (TC.region ?_)
  refine TL.boxA 3 rfl rfl rfl (fun _ => trivial) (fun bk3 => ?_)
  refine TL.done (TQ.then (TC.seq (TC.region ?_)))
  refine TL.mv (.pointer (some ⟨_, _, none⟩)) rfl rfl rfl ?_
  refine TL.nc rfl rfl rfl ?_
  refine TL.fa 0 rfl fc_f54_0_0 rfl rfl ?_
  refine TL.ldA 0 3 [_, _, _] rfl rfl rfl fc_a23_3 rfl rfl ?_
  refine TL.alloc 4 (cs := #[.int .i64 0, .int .i64 0, .int .i64 0]) fc_z23 rfl rfl rfl (fun _ => trivial) (fun bk4 => ?_)
  refine TL.stW 4 3 [_, _, _] rfl rfl rfl rfl rfl rfl fc_a23_3 rfl rfl trivial ?_
  refine TL.done (TQ.then (TC.seq (TC.seq (TC.region ?_))))
  refine TL.fa 2 rfl fc_f33_2_2 rfl rfl ?_
  refine TL.ld 3 (.int _ _) rfl rfl rfl fc_s3 rfl rfl ?_
  refine TL.fa 3 rfl fc_f33_3_3 rfl rfl ?_
  refine TL.ld 3 (.int _ _) rfl rfl rfl fc_s3 rfl rfl ?_
  refine TL.eqlF rfl rfl (by omega) rfl rfl ?_
  refine TL.mv (.bool false) rfl rfl rfl ?_
  refine TL.fa 2 rfl fc_f33_2_2 rfl rfl ?_
  refine TL.ld 3 (.int _ _) rfl rfl rfl fc_s3 rfl rfl ?_
  refine TL.lssF rfl rfl (by omega) rfl rfl ?_
  refine TL.pickF (.bool false) rfl rfl rfl rfl ?_
  refine TL.mv (.bool false) rfl rfl rfl ?_
  refine TL.fa 2 rfl fc_f33_2_2 rfl rfl ?_
  refine TL.ld 3 (.int _ _) rfl rfl rfl fc_s3 rfl rfl ?_
  refine TL.fa 0 rfl fc_f23_0_0 rfl rfl ?_
  refine TL.ld 4 (.int _ _) rfl rfl rfl fc_s3 rfl rfl ?_
  refine TL.geqF rfl rfl (by omega) rfl rfl ?_
  refine TL.pickF (.bool false) rfl rfl rfl rfl ?_
  refine TL.mv (.bool false) rfl rfl rfl ?_
  refine TL.fa 3 rfl fc_f33_3_3 rfl rfl ?_
  refine TL.ld 3 (.int _ _) rfl rfl rfl fc_s3 rfl rfl ?_
  refine TL.lssF rfl rfl (by omega) rfl rfl ?_
  refine TL.pickF (.bool false) rfl rfl rfl rfl ?_
  refine TL.mv (.bool false) rfl rfl rfl ?_
  refine TL.fa 3 rfl fc_f33_3_3 rfl rfl ?_
  refine TL.ld 3 (.int _ _) rfl rfl rfl fc_s3 rfl rfl ?_
  refine TL.fa 0 rfl fc_f23_0_0 rfl rfl ?_
  refine TL.ld 4 (.int _ _) rfl rfl rfl fc_s3 rfl rfl ?_
  refine TL.geqF rfl rfl (by omega) rfl rfl ?_
  refine TL.pickF (.bool false) rfl rfl rfl rfl ?_
  refine TL.mv (.bool false) rfl rfl rfl ?_
  refine TL.fa 1 rfl fc_f33_1_1 rfl rfl ?_
  refine TL.ld 3 (.int _ _) rfl rfl rfl fc_s3 rfl rfl ?_
  refine TL.lssF rfl rfl (by omega) rfl rfl ?_
  refine TL.pickF (.bool false) rfl rfl rfl rfl ?_
  refine TL.mv (.bool false) rfl rfl rfl ?_
  refine TL.fa 1 rfl fc_f33_1_1 rfl rfl ?_
  refine TL.ld 3 (.int _ _) rfl rfl rfl fc_s3 rfl rfl ?_
  refine TL.fa 1 rfl fc_f23_1_1 rfl rfl ?_
  refine TL.ld 4 (.int _ _) rfl rfl rfl fc_s3 rfl rfl ?_
  refine TL.geqF rfl rfl (by omega) rfl rfl ?_
  refine TL.pickF (.bool false) rfl rfl rfl rfl ?_
  refine TL.done (TQ.then (TC.condF rfl (TC.skip (TQ.then (TC.seq (TC.region ?_))))))
  refine TL.mv (.pointer (some ⟨_, _, none⟩)) rfl rfl rfl ?_
  refine TL.fa 1 rfl fc_f33_1_1 rfl rfl ?_
  refine TL.ld 3 (.int _ _) rfl rfl rfl fc_s3 rfl rfl ?_
  refine TL.callD [0, 2] [0, 2] (slot13_ok hl hd) ⟨rfl, rfl, trivial⟩ ⟨rfl, rfl, trivial⟩ fc_c23 rfl rfl rfl rfl rfl trivial ?_
  rw [e]
  refine TL.asg (.int _ _) rfl rfl rfl ?_
  refine TL.done (TQ.then (TC.block (TC.seq (TC.region ?_))))
  refine TL.fa 0 rfl fc_f33_0_0 rfl rfl ?_
  refine TL.ld 3 (.int _ _) rfl rfl rfl fc_s3 rfl rfl ?_
  refine TL.eqlT rfl rfl (by omega) rfl rfl ?_
  refine TL.mv (.bool true) rfl rfl rfl ?_
  refine TL.mv (.int _ _) rfl rfl rfl ?_
  refine TL.lssT rfl rfl (by omega) rfl rfl ?_
  refine TL.pickT (.bool true) rfl rfl rfl rfl ?_
  refine TL.asg (.bool true) rfl rfl rfl ?_
  refine TL.done (TQ.then (TC.condT rfl (TC.region ?_)))
  refine TL.mv (.pointer (some ⟨_, _, none⟩)) rfl rfl rfl ?_
  refine TL.ldA 3 4 [_, _, _, _] rfl rfl rfl fc_a33_4 rfl rfl ?_
  refine TL.call [0, 1, 2] [0, 1, 2] (put13_ok hl hd h) ⟨rfl, rfl, trivial⟩ ⟨rfl, rfl, rfl, trivial⟩ fc_c57 rfl rfl rfl rfl ?_
  rintro x Bs ⟨rfl, v2, rfl⟩
  refine ⟨rfl, trivial, ?_⟩
  refine TL.done (TQ.inBlock ?_)
  refine FQ.end0 (Bs := [_, _, _]) [0, 1, 2] rfl rfl ⟨rfl, rfl, rfl, trivial⟩ ?_
  exact ⟨rfl, _, rfl⟩

set_option maxHeartbeats 1000000 in
theorem step_dt {pb ab mb : Nat} {σ : M} {v : Value} {d : Array EdR} {l : Lay} (hl : l.Ok) (hd : d.size ≤ 100) {o : OpR} (hv : ¬ (o.u = o.v ∨ o.u < 0 ∨ l.V ≤ o.u ∨ o.v < 0 ∨ l.V ≤ o.v ∨ o.slot < 0 ∨ l.S ≤ o.slot)) (hk : o.kind = 2) {i : Nat} (e : slotN (fun i => d[i]!) o.slot d.size = (i : Int)) (hi : i < d.size) {k : Nat} {σ1 : M} (ht : d[i]!.tr = true) (h : fell l P1 k σ o.slot = some σ1)  : Go.Eng.Fn Tryz.prog 17 [.pointer (some ⟨pb, 0, none⟩), .agg #[.int .i64 o.kind, .int .i64 o.slot, .int .i64 o.u, .int .i64 o.v]] [pt pb (.cells #[.int .i64 l.V, .int .i64 l.S, .int .i64 l.T, .pointer (some ⟨ab, 0, none⟩), .int .i64 l.V, .int .i64 l.S, .int .i64 l.T, .iface 107 (.agg #[.pointer (some ⟨ab, 0, none⟩)]), .int .i64 1, .int .i64 0, .int .i64 l.V, .int .i64 l.S, .int .i64 l.T, .iface 107 (.agg #[.pointer (some ⟨ab, 0, none⟩)]), v] 54), arenaA ab mb 149 110 (σ), ownA encE 5 65 v d] (fun x Bs => x = .tuple #[] ∧ ∃ v2, Bs = [pt pb (.cells #[.int .i64 l.V, .int .i64 l.S, .int .i64 l.T, .pointer (some ⟨ab, 0, none⟩), .int .i64 l.V, .int .i64 l.S, .int .i64 l.T, .iface 107 (.agg #[.pointer (some ⟨ab, 0, none⟩)]), .int .i64 1, .int .i64 0, .int .i64 l.V, .int .i64 l.S, .int .i64 l.T, .iface 107 (.agg #[.pointer (some ⟨ab, 0, none⟩)]), v2] 54), arenaA ab mb 149 110 (eremove l σ1 d[i]!.u d[i]!.v), ownA encE 5 65 v2 (cutA d i)]) := by
  refine Fn.enter (Tryz.func17) rfl rfl (fun w0 R => ?_)
  refine TC.seq (TC.region ?_)
  refine TL.boxA 3 rfl rfl rfl (fun _ => trivial) (fun bk3 => ?_)
  refine TL.done (TQ.then (TC.seq (TC.region ?_)))
  refine TL.mv (.pointer (some ⟨_, _, none⟩)) rfl rfl rfl ?_
  refine TL.nc rfl rfl rfl ?_
  refine TL.fa 0 rfl fc_f54_0_0 rfl rfl ?_
  refine TL.ldA 0 3 [_, _, _] rfl rfl rfl fc_a23_3 rfl rfl ?_
  refine TL.alloc 4 (cs := #[.int .i64 0, .int .i64 0, .int .i64 0]) fc_z23 rfl rfl rfl (fun _ => trivial) (fun bk4 => ?_)
  refine TL.stW 4 3 [_, _, _] rfl rfl rfl rfl rfl rfl fc_a23_3 rfl rfl trivial ?_
  refine TL.done (TQ.then (TC.seq (TC.seq (TC.region ?_))))
  refine TL.fa 2 rfl fc_f33_2_2 rfl rfl ?_
  refine TL.ld 3 (.int _ _) rfl rfl rfl fc_s3 rfl rfl ?_
  refine TL.fa 3 rfl fc_f33_3_3 rfl rfl ?_
  refine TL.ld 3 (.int _ _) rfl rfl rfl fc_s3 rfl rfl ?_
  refine TL.eqlF rfl rfl (by omega) rfl rfl ?_
  refine TL.mv (.bool false) rfl rfl rfl ?_
  refine TL.fa 2 rfl fc_f33_2_2 rfl rfl ?_
  refine TL.ld 3 (.int _ _) rfl rfl rfl fc_s3 rfl rfl ?_
  refine TL.lssF rfl rfl (by omega) rfl rfl ?_
  refine TL.pickF (.bool false) rfl rfl rfl rfl ?_
  refine TL.mv (.bool false) rfl rfl rfl ?_
  refine TL.fa 2 rfl fc_f33_2_2 rfl rfl ?_
  refine TL.ld 3 (.int _ _) rfl rfl rfl fc_s3 rfl rfl ?_
  refine TL.fa 0 rfl fc_f23_0_0 rfl rfl ?_
  refine TL.ld 4 (.int _ _) rfl rfl rfl fc_s3 rfl rfl ?_
  refine TL.geqF rfl rfl (by omega) rfl rfl ?_
  refine TL.pickF (.bool false) rfl rfl rfl rfl ?_
  refine TL.mv (.bool false) rfl rfl rfl ?_
  refine TL.fa 3 rfl fc_f33_3_3 rfl rfl ?_
  refine TL.ld 3 (.int _ _) rfl rfl rfl fc_s3 rfl rfl ?_
  refine TL.lssF rfl rfl (by omega) rfl rfl ?_
  refine TL.pickF (.bool false) rfl rfl rfl rfl ?_
  refine TL.mv (.bool false) rfl rfl rfl ?_
  refine TL.fa 3 rfl fc_f33_3_3 rfl rfl ?_
  refine TL.ld 3 (.int _ _) rfl rfl rfl fc_s3 rfl rfl ?_
  refine TL.fa 0 rfl fc_f23_0_0 rfl rfl ?_
  refine TL.ld 4 (.int _ _) rfl rfl rfl fc_s3 rfl rfl ?_
  refine TL.geqF rfl rfl (by omega) rfl rfl ?_
  refine TL.pickF (.bool false) rfl rfl rfl rfl ?_
  refine TL.mv (.bool false) rfl rfl rfl ?_
  refine TL.fa 1 rfl fc_f33_1_1 rfl rfl ?_
  refine TL.ld 3 (.int _ _) rfl rfl rfl fc_s3 rfl rfl ?_
  refine TL.lssF rfl rfl (by omega) rfl rfl ?_
  refine TL.pickF (.bool false) rfl rfl rfl rfl ?_
  refine TL.mv (.bool false) rfl rfl rfl ?_
  refine TL.fa 1 rfl fc_f33_1_1 rfl rfl ?_
  refine TL.ld 3 (.int _ _) rfl rfl rfl fc_s3 rfl rfl ?_
  refine TL.fa 1 rfl fc_f23_1_1 rfl rfl ?_
  refine TL.ld 4 (.int _ _) rfl rfl rfl fc_s3 rfl rfl ?_
  refine TL.geqF rfl rfl (by omega) rfl rfl ?_
  refine TL.pickF (.bool false) rfl rfl rfl rfl ?_
  refine TL.done (TQ.then (TC.condF rfl (TC.skip (TQ.then (TC.seq (TC.region ?_))))))
  refine TL.mv (.pointer (some ⟨_, _, none⟩)) rfl rfl rfl ?_
  refine TL.fa 1 rfl fc_f33_1_1 rfl rfl ?_
  refine TL.ld 3 (.int _ _) rfl rfl rfl fc_s3 rfl rfl ?_
  refine TL.callD [0, 2] [0, 2] (slot13_ok hl hd) ⟨rfl, rfl, trivial⟩ ⟨rfl, rfl, trivial⟩ fc_c23 rfl rfl rfl rfl rfl trivial ?_
  rw [e]
  refine TL.asg (.int _ _) rfl rfl rfl ?_
  refine TL.done (TQ.then (TC.block (TC.seq (TC.region ?_))))
  refine TL.fa 0 rfl fc_f33_0_0 rfl rfl ?_
  refine TL.ld 3 (.int _ _) rfl rfl rfl fc_s3 rfl rfl ?_
  refine TL.eqlF rfl rfl (by omega) rfl rfl ?_
  refine TL.mv (.bool false) rfl rfl rfl ?_
  refine TL.off rfl rfl ?_
  refine TL.off rfl rfl ?_
  refine TL.pickF (.bool false) rfl rfl rfl rfl ?_
  refine TL.asg (.bool false) rfl rfl rfl ?_
  refine TL.done (TQ.then (TC.condF rfl (TC.seq (TC.region ?_))))
  refine TL.fa 0 rfl fc_f33_0_0 rfl rfl ?_
  refine TL.ld 3 (.int _ _) rfl rfl rfl fc_s3 rfl rfl ?_
  refine TL.eqlT rfl rfl (by omega) rfl rfl ?_
  refine TL.mv (.bool true) rfl rfl rfl ?_
  refine TL.mv (.int _ _) rfl rfl rfl ?_
  refine TL.geqT rfl rfl (by omega) rfl rfl ?_
  refine TL.pickT (.bool true) rfl rfl rfl rfl ?_
  refine TL.asg (.bool true) rfl rfl rfl ?_
  refine TL.done (TQ.then (TC.condT rfl (TC.seq ?_)))
  refine TC.ownW 2 rfl (fun a9 g9 c9 hv9 hc9 ha9 => ?_)
  cases hv9
  obtain rfl := ha9 (by omega)
  refine TC.region ?_
  refine TL.mv (.pointer (some ⟨_, _, none⟩)) rfl rfl rfl ?_
  refine TL.nc rfl rfl rfl ?_
  refine TL.fa 14 rfl fc_f54_3_14 rfl rfl ?_
  refine TL.ld 0 _ rfl rfl rfl fc_s52 rfl rfl ?_
  refine TL.mv (.int _ _) rfl rfl rfl ?_
  refine TL.iaO rfl ha9 rfl fc_l52_65_5 (by omega) rfl rfl ?_
  refine TL.ldRx 2 [_, _, _, _, _] rfl rfl (own_rowOf ha9) (by omega) rfl fc_a65_5 rfl rfl ?_
  refine TL.alloc 5 (cs := #[.int .i64 0, .int .i64 0, .int .i64 0, .int .i64 0, .bool false]) fc_z65 rfl rfl rfl (fun _ => trivial) (fun bk5 => ?_)
  refine TL.stW 5 5 [_, _, _, _, _] rfl rfl rfl rfl rfl rfl fc_a65_5 rfl rfl trivial ?_
  refine TL.done (TQ.then (TC.seq (TC.seq (TC.region ?_))))
  refine TL.fa 4 rfl fc_f65_4_4 rfl rfl ?_
  refine TL.ld 5 (.bool _) rfl rfl rfl fc_s4 rfl rfl ?_
  rw [ht]
  refine TL.done (TQ.then (TC.condT rfl ?_))
  refine TC.draw [(0, true), (1, true), (2, true), (3, true), (4, true), (5, true), (6, false)] [0, 3] fc_m (by kernel_rfl) ?_
  refine TL.mv (.pointer (some ⟨_, _, none⟩)) rfl rfl rfl ?_
  refine TL.nc rfl rfl rfl ?_
  refine TL.fa 4 rfl fc_f54_2_4 rfl rfl ?_
  refine TL.ldA 0 10 [_, _, _, _, _, _, _, _, _, _] rfl rfl rfl fc_a51_10 rfl rfl ?_
  refine TL.fa 1 rfl fc_f33_1_1 rfl rfl ?_
  refine TL.ld 3 (.int _ _) rfl rfl rfl fc_s3 rfl rfl ?_
  refine TL.callD [1] [1] (fell_ok (p := P1) plainM hl h) ⟨rfl, rfl, trivial⟩ ⟨rfl, trivial⟩ fc_c28 rfl rfl rfl rfl rfl (.cons rfl rfl (.cons rfl rfl trivial)) ?_
  refine TL.done (TQ.then (TC.seq ?_))
  refine TC.draw [(0, true), (1, true), (2, true), (3, true), (4, true), (5, true), (6, true), (7, true), (8, true), (9, true), (10, false)] [0, 5] fc_m (by kernel_rfl) ?_
  refine TL.mv (.pointer (some ⟨_, _, none⟩)) rfl rfl rfl ?_
  refine TL.nc rfl rfl rfl ?_
  refine TL.fa 4 rfl fc_f54_2_4 rfl rfl ?_
  refine TL.fa 0 rfl fc_f51_0_0 rfl rfl ?_
  refine TL.fa 6 rfl fc_f49_1_6 rfl rfl ?_
  refine TL.ldA 0 4 [_, _, _, _] rfl rfl rfl fc_a47_4 rfl rfl ?_
  refine TL.fa 1 rfl fc_f65_1_1 rfl rfl ?_
  refine TL.ld 5 (.int _ _) rfl rfl rfl fc_s3 rfl rfl ?_
  refine TL.fa 2 rfl fc_f65_2_2 rfl rfl ?_
  refine TL.ld 5 (.int _ _) rfl rfl rfl fc_s3 rfl rfl ?_
  refine TL.callD [1] [1] (eremove_ok plainM hl) ⟨rfl, rfl, rfl, trivial⟩ ⟨rfl, trivial⟩ fc_c59 rfl rfl rfl rfl rfl (.cons rfl rfl (.cons rfl rfl trivial)) ?_
  refine TL.done (TQ.then ?_)
  have hAa : RowOf (ownA encE 5 65 (.slice (some ⟨g9, 0, none⟩) d.size c9) d) encE 5 g9 0 d.size (fun i => d[i]!) := own_rowOf ha9
  refine TC.draw2 [(0, true), (2, true), (3, true), (4, true), (5, true), (6, true), (7, true), (9, true), (10, true), (11, true), (12, true), (13, true), (14, true), (15, true), (1, false), (8, false), (16, false), (17, true), (18, true)] 19 [] [0] fc_m (by kernel_rfl) ?_
  refine TL.mv (.pointer (some ⟨_, _, none⟩)) rfl rfl rfl ?_
  refine TL.mv (.pointer (some ⟨_, _, none⟩)) rfl rfl rfl ?_
  refine TL.nc rfl rfl rfl ?_
  refine TL.fa 14 rfl fc_f54_3_14 rfl rfl ?_
  refine TL.ld 0 _ rfl rfl rfl fc_s52 rfl rfl ?_
  refine TL.mv (.int _ _) rfl rfl rfl ?_
  refine TL.slHi rfl rfl fc_l52_65_5 (by omega) rfl rfl ?_
  refine TL.mv (.pointer (some ⟨_, _, none⟩)) rfl rfl rfl ?_
  refine TL.nc rfl rfl rfl ?_
  refine TL.fa 14 rfl fc_f54_3_14 rfl rfl ?_
  refine TL.ld 0 _ rfl rfl rfl fc_s52 rfl rfl ?_
  refine TL.mv (.int _ _) rfl rfl rfl ?_
  refine TL.add (((i + 1 : Nat) : Int)) rfl rfl (wrN (by omega)) rfl rfl ?_
  refine TL.slLo rfl rfl fc_l52_65_5 (by omega) rfl rfl ?_
  refine TL.bs0 6 encE fc_l52_65_5 rfl rfl (fun bk6 => ⟨(.cons rfl rfl trivial), ?_⟩)
  obtain ⟨ad0, had0⟩ := slA_some (ad := ⟨g9, 0, none⟩) (i := 0) (size := 5) (cap := c9)
  rw [had0]
  refine TL.appS 6 2 (d2 := rngE (fun j => d[j]!) i) rfl (rngE_size _ _) rfl (fun h => had0.symm.trans (slA_ok (len := d.size) (i := 0) ha9 hc9 (by omega))) rfl rfl ((hAa.take (m := i) (by omega)).congr fun j hj => (rngE_get _ hj).symm) encE_one (by decide) fc_k52_65_5 (by rw [rngE_size]; simp; omega) rfl rfl (fun v7 => ⟨(.cons rfl rfl trivial), ?_⟩)
  obtain ⟨ad, had⟩ := slA_some (ad := ⟨g9, 0, none⟩) (i := i + 1) (size := 5) (cap := c9)
  rw [had]
  refine TL.appS 6 2 (d2 := rngE (fun j => d[i + 1 + j]!) (d.size - (i + 1))) rfl (rngE_size _ _) rfl (fun h => had.symm.trans (slA_ok (len := d.size) ha9 hc9 h)) rfl rfl ((hAa.drop (i + 1) (d.size - (i + 1)) (by omega)).congr fun j hj => (rngE_get (fun j => d[i + 1 + j]!) hj).symm) encE_one (by decide) fc_k52_65_5 (by rw [rngE_size]; simp [rngE_size]; omega) rfl rfl (fun v8 => ⟨(.cons rfl rfl trivial), ?_⟩)
  refine TL.ownW 6 rfl (fun a9 g9 c9 hv9 _ _ => ?_)
  cases hv9
  refine TL.nc rfl rfl rfl ?_
  refine TL.fa 14 rfl fc_f54_3_14 rfl rfl ?_
  refine TL.late ?_
  refine TL.st 0 #[_, _, _, _, _, _, _, _, _, _, _, _, _, _, _] _ rfl rfl rfl rfl rfl rfl fc_s52 rfl rfl trivial ?_
  refine TL.done (TQ.inBlock ?_)
  refine FQ.end0 (Bs := [_, _, _]) [0, 1, 6] rfl rfl ⟨rfl, rfl, rfl, trivial⟩ ?_
  exact ⟨rfl, _, by unfold cutA; simp only [Array.empty_append]; rfl⟩

set_option maxHeartbeats 1000000 in
theorem step_df {pb ab mb : Nat} {σ : M} {v : Value} {d : Array EdR} {l : Lay} (hl : l.Ok) (hd : d.size ≤ 100) {o : OpR} (hv : ¬ (o.u = o.v ∨ o.u < 0 ∨ l.V ≤ o.u ∨ o.v < 0 ∨ l.V ≤ o.v ∨ o.slot < 0 ∨ l.S ≤ o.slot)) (hk : o.kind = 2) {i : Nat} (e : slotN (fun i => d[i]!) o.slot d.size = (i : Int)) (hi : i < d.size) {k : Nat} {σ1 : M} (ht : d[i]!.tr = false) (h : remove l k σ o.slot = some σ1)  : Go.Eng.Fn Tryz.prog 17 [.pointer (some ⟨pb, 0, none⟩), .agg #[.int .i64 o.kind, .int .i64 o.slot, .int .i64 o.u, .int .i64 o.v]] [pt pb (.cells #[.int .i64 l.V, .int .i64 l.S, .int .i64 l.T, .pointer (some ⟨ab, 0, none⟩), .int .i64 l.V, .int .i64 l.S, .int .i64 l.T, .iface 107 (.agg #[.pointer (some ⟨ab, 0, none⟩)]), .int .i64 1, .int .i64 0, .int .i64 l.V, .int .i64 l.S, .int .i64 l.T, .iface 107 (.agg #[.pointer (some ⟨ab, 0, none⟩)]), v] 54), arenaA ab mb 149 110 (σ), ownA encE 5 65 v d] (fun x Bs => x = .tuple #[] ∧ ∃ v2, Bs = [pt pb (.cells #[.int .i64 l.V, .int .i64 l.S, .int .i64 l.T, .pointer (some ⟨ab, 0, none⟩), .int .i64 l.V, .int .i64 l.S, .int .i64 l.T, .iface 107 (.agg #[.pointer (some ⟨ab, 0, none⟩)]), .int .i64 1, .int .i64 0, .int .i64 l.V, .int .i64 l.S, .int .i64 l.T, .iface 107 (.agg #[.pointer (some ⟨ab, 0, none⟩)]), v2] 54), arenaA ab mb 149 110 (eremove l σ1 d[i]!.u d[i]!.v), ownA encE 5 65 v2 (cutA d i)]) := by
  refine Fn.enter (Tryz.func17) rfl rfl (fun w0 R => ?_)
  refine TC.seq (TC.region ?_)
  refine TL.boxA 3 rfl rfl rfl (fun _ => trivial) (fun bk3 => ?_)
  refine TL.done (TQ.then (TC.seq (TC.region ?_)))
  refine TL.mv (.pointer (some ⟨_, _, none⟩)) rfl rfl rfl ?_
  refine TL.nc rfl rfl rfl ?_
  refine TL.fa 0 rfl fc_f54_0_0 rfl rfl ?_
  refine TL.ldA 0 3 [_, _, _] rfl rfl rfl fc_a23_3 rfl rfl ?_
  refine TL.alloc 4 (cs := #[.int .i64 0, .int .i64 0, .int .i64 0]) fc_z23 rfl rfl rfl (fun _ => trivial) (fun bk4 => ?_)
  refine TL.stW 4 3 [_, _, _] rfl rfl rfl rfl rfl rfl fc_a23_3 rfl rfl trivial ?_
  refine TL.done (TQ.then (TC.seq (TC.seq (TC.region ?_))))
  refine TL.fa 2 rfl fc_f33_2_2 rfl rfl ?_
  refine TL.ld 3 (.int _ _) rfl rfl rfl fc_s3 rfl rfl ?_
  refine TL.fa 3 rfl fc_f33_3_3 rfl rfl ?_
  refine TL.ld 3 (.int _ _) rfl rfl rfl fc_s3 rfl rfl ?_
  refine TL.eqlF rfl rfl (by omega) rfl rfl ?_
  refine TL.mv (.bool false) rfl rfl rfl ?_
  refine TL.fa 2 rfl fc_f33_2_2 rfl rfl ?_
  refine TL.ld 3 (.int _ _) rfl rfl rfl fc_s3 rfl rfl ?_
  refine TL.lssF rfl rfl (by omega) rfl rfl ?_
  refine TL.pickF (.bool false) rfl rfl rfl rfl ?_
  refine TL.mv (.bool false) rfl rfl rfl ?_
  refine TL.fa 2 rfl fc_f33_2_2 rfl rfl ?_
  refine TL.ld 3 (.int _ _) rfl rfl rfl fc_s3 rfl rfl ?_
  refine TL.fa 0 rfl fc_f23_0_0 rfl rfl ?_
  refine TL.ld 4 (.int _ _) rfl rfl rfl fc_s3 rfl rfl ?_
  refine TL.geqF rfl rfl (by omega) rfl rfl ?_
  refine TL.pickF (.bool false) rfl rfl rfl rfl ?_
  refine TL.mv (.bool false) rfl rfl rfl ?_
  refine TL.fa 3 rfl fc_f33_3_3 rfl rfl ?_
  refine TL.ld 3 (.int _ _) rfl rfl rfl fc_s3 rfl rfl ?_
  refine TL.lssF rfl rfl (by omega) rfl rfl ?_
  refine TL.pickF (.bool false) rfl rfl rfl rfl ?_
  refine TL.mv (.bool false) rfl rfl rfl ?_
  refine TL.fa 3 rfl fc_f33_3_3 rfl rfl ?_
  refine TL.ld 3 (.int _ _) rfl rfl rfl fc_s3 rfl rfl ?_
  refine TL.fa 0 rfl fc_f23_0_0 rfl rfl ?_
  refine TL.ld 4 (.int _ _) rfl rfl rfl fc_s3 rfl rfl ?_
  refine TL.geqF rfl rfl (by omega) rfl rfl ?_
  refine TL.pickF (.bool false) rfl rfl rfl rfl ?_
  refine TL.mv (.bool false) rfl rfl rfl ?_
  refine TL.fa 1 rfl fc_f33_1_1 rfl rfl ?_
  refine TL.ld 3 (.int _ _) rfl rfl rfl fc_s3 rfl rfl ?_
  refine TL.lssF rfl rfl (by omega) rfl rfl ?_
  refine TL.pickF (.bool false) rfl rfl rfl rfl ?_
  refine TL.mv (.bool false) rfl rfl rfl ?_
  refine TL.fa 1 rfl fc_f33_1_1 rfl rfl ?_
  refine TL.ld 3 (.int _ _) rfl rfl rfl fc_s3 rfl rfl ?_
  refine TL.fa 1 rfl fc_f23_1_1 rfl rfl ?_
  refine TL.ld 4 (.int _ _) rfl rfl rfl fc_s3 rfl rfl ?_
  refine TL.geqF rfl rfl (by omega) rfl rfl ?_
  refine TL.pickF (.bool false) rfl rfl rfl rfl ?_
  refine TL.done (TQ.then (TC.condF rfl (TC.skip (TQ.then (TC.seq (TC.region ?_))))))
  refine TL.mv (.pointer (some ⟨_, _, none⟩)) rfl rfl rfl ?_
  refine TL.fa 1 rfl fc_f33_1_1 rfl rfl ?_
  refine TL.ld 3 (.int _ _) rfl rfl rfl fc_s3 rfl rfl ?_
  refine TL.callD [0, 2] [0, 2] (slot13_ok hl hd) ⟨rfl, rfl, trivial⟩ ⟨rfl, rfl, trivial⟩ fc_c23 rfl rfl rfl rfl rfl trivial ?_
  rw [e]
  refine TL.asg (.int _ _) rfl rfl rfl ?_
  refine TL.done (TQ.then (TC.block (TC.seq (TC.region ?_))))
  refine TL.fa 0 rfl fc_f33_0_0 rfl rfl ?_
  refine TL.ld 3 (.int _ _) rfl rfl rfl fc_s3 rfl rfl ?_
  refine TL.eqlF rfl rfl (by omega) rfl rfl ?_
  refine TL.mv (.bool false) rfl rfl rfl ?_
  refine TL.off rfl rfl ?_
  refine TL.off rfl rfl ?_
  refine TL.pickF (.bool false) rfl rfl rfl rfl ?_
  refine TL.asg (.bool false) rfl rfl rfl ?_
  refine TL.done (TQ.then (TC.condF rfl (TC.seq (TC.region ?_))))
  refine TL.fa 0 rfl fc_f33_0_0 rfl rfl ?_
  refine TL.ld 3 (.int _ _) rfl rfl rfl fc_s3 rfl rfl ?_
  refine TL.eqlT rfl rfl (by omega) rfl rfl ?_
  refine TL.mv (.bool true) rfl rfl rfl ?_
  refine TL.mv (.int _ _) rfl rfl rfl ?_
  refine TL.geqT rfl rfl (by omega) rfl rfl ?_
  refine TL.pickT (.bool true) rfl rfl rfl rfl ?_
  refine TL.asg (.bool true) rfl rfl rfl ?_
  refine TL.done (TQ.then (TC.condT rfl (TC.seq ?_)))
  refine TC.ownW 2 rfl (fun a9 g9 c9 hv9 hc9 ha9 => ?_)
  cases hv9
  obtain rfl := ha9 (by omega)
  refine TC.region ?_
  refine TL.mv (.pointer (some ⟨_, _, none⟩)) rfl rfl rfl ?_
  refine TL.nc rfl rfl rfl ?_
  refine TL.fa 14 rfl fc_f54_3_14 rfl rfl ?_
  refine TL.ld 0 _ rfl rfl rfl fc_s52 rfl rfl ?_
  refine TL.mv (.int _ _) rfl rfl rfl ?_
  refine TL.iaO rfl ha9 rfl fc_l52_65_5 (by omega) rfl rfl ?_
  refine TL.ldRx 2 [_, _, _, _, _] rfl rfl (own_rowOf ha9) (by omega) rfl fc_a65_5 rfl rfl ?_
  refine TL.alloc 5 (cs := #[.int .i64 0, .int .i64 0, .int .i64 0, .int .i64 0, .bool false]) fc_z65 rfl rfl rfl (fun _ => trivial) (fun bk5 => ?_)
  refine TL.stW 5 5 [_, _, _, _, _] rfl rfl rfl rfl rfl rfl fc_a65_5 rfl rfl trivial ?_
  refine TL.done (TQ.then (TC.seq (TC.seq (TC.region ?_))))
  refine TL.fa 4 rfl fc_f65_4_4 rfl rfl ?_
  refine TL.ld 5 (.bool _) rfl rfl rfl fc_s4 rfl rfl ?_
  rw [ht]
  refine TL.done (TQ.then (TC.condF rfl ?_))
  refine TC.draw [(0, true), (1, true), (2, true), (3, true), (4, true), (5, true), (6, true), (7, false)] [0, 3] fc_m (by kernel_rfl) ?_
  refine TL.mv (.pointer (some ⟨_, _, none⟩)) rfl rfl rfl ?_
  refine TL.nc rfl rfl rfl ?_
  refine TL.fa 4 rfl fc_f54_2_4 rfl rfl ?_
  refine TL.fa 0 rfl fc_f51_0_0 rfl rfl ?_
  refine TL.ldA 0 10 [_, _, _, _, _, _, _, _, _, _] rfl rfl rfl fc_a49_10 rfl rfl ?_
  refine TL.fa 1 rfl fc_f33_1_1 rfl rfl ?_
  refine TL.ld 3 (.int _ _) rfl rfl rfl fc_s3 rfl rfl ?_
  refine TL.callD [1] [1] (apull_all (p := P1) plainM hl h) ⟨rfl, rfl, trivial⟩ ⟨rfl, trivial⟩ fc_c58 rfl rfl rfl rfl rfl (.cons rfl rfl (.cons rfl rfl trivial)) ?_
  refine TL.done (TQ.then (TC.seq ?_))
  refine TC.draw [(0, true), (1, true), (2, true), (3, true), (4, true), (5, true), (6, true), (7, true), (8, true), (9, true), (10, false)] [0, 5] fc_m (by kernel_rfl) ?_
  refine TL.mv (.pointer (some ⟨_, _, none⟩)) rfl rfl rfl ?_
  refine TL.nc rfl rfl rfl ?_
  refine TL.fa 4 rfl fc_f54_2_4 rfl rfl ?_
  refine TL.fa 0 rfl fc_f51_0_0 rfl rfl ?_
  refine TL.fa 6 rfl fc_f49_1_6 rfl rfl ?_
  refine TL.ldA 0 4 [_, _, _, _] rfl rfl rfl fc_a47_4 rfl rfl ?_
  refine TL.fa 1 rfl fc_f65_1_1 rfl rfl ?_
  refine TL.ld 5 (.int _ _) rfl rfl rfl fc_s3 rfl rfl ?_
  refine TL.fa 2 rfl fc_f65_2_2 rfl rfl ?_
  refine TL.ld 5 (.int _ _) rfl rfl rfl fc_s3 rfl rfl ?_
  refine TL.callD [1] [1] (eremove_ok plainM hl) ⟨rfl, rfl, rfl, trivial⟩ ⟨rfl, trivial⟩ fc_c59 rfl rfl rfl rfl rfl (.cons rfl rfl (.cons rfl rfl trivial)) ?_
  refine TL.done (TQ.then ?_)
  have hAa : RowOf (ownA encE 5 65 (.slice (some ⟨g9, 0, none⟩) d.size c9) d) encE 5 g9 0 d.size (fun i => d[i]!) := own_rowOf ha9
  refine TC.draw2 [(0, true), (2, true), (3, true), (4, true), (5, true), (6, true), (7, true), (9, true), (10, true), (11, true), (12, true), (13, true), (14, true), (15, true), (1, false), (8, false), (16, false), (17, true), (18, true)] 19 [] [0] fc_m (by kernel_rfl) ?_
  refine TL.mv (.pointer (some ⟨_, _, none⟩)) rfl rfl rfl ?_
  refine TL.mv (.pointer (some ⟨_, _, none⟩)) rfl rfl rfl ?_
  refine TL.nc rfl rfl rfl ?_
  refine TL.fa 14 rfl fc_f54_3_14 rfl rfl ?_
  refine TL.ld 0 _ rfl rfl rfl fc_s52 rfl rfl ?_
  refine TL.mv (.int _ _) rfl rfl rfl ?_
  refine TL.slHi rfl rfl fc_l52_65_5 (by omega) rfl rfl ?_
  refine TL.mv (.pointer (some ⟨_, _, none⟩)) rfl rfl rfl ?_
  refine TL.nc rfl rfl rfl ?_
  refine TL.fa 14 rfl fc_f54_3_14 rfl rfl ?_
  refine TL.ld 0 _ rfl rfl rfl fc_s52 rfl rfl ?_
  refine TL.mv (.int _ _) rfl rfl rfl ?_
  refine TL.add (((i + 1 : Nat) : Int)) rfl rfl (wrN (by omega)) rfl rfl ?_
  refine TL.slLo rfl rfl fc_l52_65_5 (by omega) rfl rfl ?_
  refine TL.bs0 6 encE fc_l52_65_5 rfl rfl (fun bk6 => ⟨(.cons rfl rfl trivial), ?_⟩)
  obtain ⟨ad0, had0⟩ := slA_some (ad := ⟨g9, 0, none⟩) (i := 0) (size := 5) (cap := c9)
  rw [had0]
  refine TL.appS 6 2 (d2 := rngE (fun j => d[j]!) i) rfl (rngE_size _ _) rfl (fun h => had0.symm.trans (slA_ok (len := d.size) (i := 0) ha9 hc9 (by omega))) rfl rfl ((hAa.take (m := i) (by omega)).congr fun j hj => (rngE_get _ hj).symm) encE_one (by decide) fc_k52_65_5 (by rw [rngE_size]; simp; omega) rfl rfl (fun v7 => ⟨(.cons rfl rfl trivial), ?_⟩)
  obtain ⟨ad, had⟩ := slA_some (ad := ⟨g9, 0, none⟩) (i := i + 1) (size := 5) (cap := c9)
  rw [had]
  refine TL.appS 6 2 (d2 := rngE (fun j => d[i + 1 + j]!) (d.size - (i + 1))) rfl (rngE_size _ _) rfl (fun h => had.symm.trans (slA_ok (len := d.size) ha9 hc9 h)) rfl rfl ((hAa.drop (i + 1) (d.size - (i + 1)) (by omega)).congr fun j hj => (rngE_get (fun j => d[i + 1 + j]!) hj).symm) encE_one (by decide) fc_k52_65_5 (by rw [rngE_size]; simp [rngE_size]; omega) rfl rfl (fun v8 => ⟨(.cons rfl rfl trivial), ?_⟩)
  refine TL.ownW 6 rfl (fun a9 g9 c9 hv9 _ _ => ?_)
  cases hv9
  refine TL.nc rfl rfl rfl ?_
  refine TL.fa 14 rfl fc_f54_3_14 rfl rfl ?_
  refine TL.late ?_
  refine TL.st 0 #[_, _, _, _, _, _, _, _, _, _, _, _, _, _, _] _ rfl rfl rfl rfl rfl rfl fc_s52 rfl rfl trivial ?_
  refine TL.done (TQ.inBlock ?_)
  refine FQ.end0 (Bs := [_, _, _]) [0, 1, 6] rfl rfl ⟨rfl, rfl, rfl, trivial⟩ ?_
  exact ⟨rfl, _, by unfold cutA; simp only [Array.empty_append]; rfl⟩

set_option maxHeartbeats 1000000 in
theorem step_lt {pb ab mb : Nat} {σ : M} {v : Value} {d : Array EdR} {l : Lay} (hl : l.Ok) (hd : d.size ≤ 100) {o : OpR} (hv : ¬ (o.u = o.v ∨ o.u < 0 ∨ l.V ≤ o.u ∨ o.v < 0 ∨ l.V ≤ o.v ∨ o.slot < 0 ∨ l.S ≤ o.slot)) (hk : o.kind = 3) {i : Nat} (e : slotN (fun i => d[i]!) o.slot d.size = (i : Int)) (hi : i < d.size) (hlv : 0 ≤ d[i]!.lv ∧ d[i]!.lv ≤ 50) (hup : d[i]!.lv + 1 < l.lev) {k : Nat} {σ1 : M} (ht : d[i]!.tr = true) (h : treeUp l P1 k σ o.slot = some σ1)  : Go.Eng.Fn Tryz.prog 17 [.pointer (some ⟨pb, 0, none⟩), .agg #[.int .i64 o.kind, .int .i64 o.slot, .int .i64 o.u, .int .i64 o.v]] [pt pb (.cells #[.int .i64 l.V, .int .i64 l.S, .int .i64 l.T, .pointer (some ⟨ab, 0, none⟩), .int .i64 l.V, .int .i64 l.S, .int .i64 l.T, .iface 107 (.agg #[.pointer (some ⟨ab, 0, none⟩)]), .int .i64 1, .int .i64 0, .int .i64 l.V, .int .i64 l.S, .int .i64 l.T, .iface 107 (.agg #[.pointer (some ⟨ab, 0, none⟩)]), v] 54), arenaA ab mb 149 110 (σ), ownA encE 5 65 v d] (fun x Bs => x = .tuple #[] ∧ ∃ v2, Bs = [pt pb (.cells #[.int .i64 l.V, .int .i64 l.S, .int .i64 l.T, .pointer (some ⟨ab, 0, none⟩), .int .i64 l.V, .int .i64 l.S, .int .i64 l.T, .iface 107 (.agg #[.pointer (some ⟨ab, 0, none⟩)]), .int .i64 1, .int .i64 0, .int .i64 l.V, .int .i64 l.S, .int .i64 l.T, .iface 107 (.agg #[.pointer (some ⟨ab, 0, none⟩)]), v2] 54), arenaA ab mb 149 110 (σ1), ownA encE 5 65 v2 (d.setIfInBounds i { d[i]! with lv := d[i]!.lv + 1 })]) := by
  refine Fn.enter (Tryz.func17) rfl rfl (fun w0 R => ?_)
  refine TC.seq (TC.region ?_)
  refine TL.boxA 3 rfl rfl rfl (fun _ => trivial) (fun bk3 => ?_)
  refine TL.done (TQ.then (TC.seq (TC.region ?_)))
  refine TL.mv (.pointer (some ⟨_, _, none⟩)) rfl rfl rfl ?_
  refine TL.nc rfl rfl rfl ?_
  refine TL.fa 0 rfl fc_f54_0_0 rfl rfl ?_
  refine TL.ldA 0 3 [_, _, _] rfl rfl rfl fc_a23_3 rfl rfl ?_
  refine TL.alloc 4 (cs := #[.int .i64 0, .int .i64 0, .int .i64 0]) fc_z23 rfl rfl rfl (fun _ => trivial) (fun bk4 => ?_)
  refine TL.stW 4 3 [_, _, _] rfl rfl rfl rfl rfl rfl fc_a23_3 rfl rfl trivial ?_
  refine TL.done (TQ.then (TC.seq (TC.seq (TC.region ?_))))
  refine TL.fa 2 rfl fc_f33_2_2 rfl rfl ?_
  refine TL.ld 3 (.int _ _) rfl rfl rfl fc_s3 rfl rfl ?_
  refine TL.fa 3 rfl fc_f33_3_3 rfl rfl ?_
  refine TL.ld 3 (.int _ _) rfl rfl rfl fc_s3 rfl rfl ?_
  refine TL.eqlF rfl rfl (by omega) rfl rfl ?_
  refine TL.mv (.bool false) rfl rfl rfl ?_
  refine TL.fa 2 rfl fc_f33_2_2 rfl rfl ?_
  refine TL.ld 3 (.int _ _) rfl rfl rfl fc_s3 rfl rfl ?_
  refine TL.lssF rfl rfl (by omega) rfl rfl ?_
  refine TL.pickF (.bool false) rfl rfl rfl rfl ?_
  refine TL.mv (.bool false) rfl rfl rfl ?_
  refine TL.fa 2 rfl fc_f33_2_2 rfl rfl ?_
  refine TL.ld 3 (.int _ _) rfl rfl rfl fc_s3 rfl rfl ?_
  refine TL.fa 0 rfl fc_f23_0_0 rfl rfl ?_
  refine TL.ld 4 (.int _ _) rfl rfl rfl fc_s3 rfl rfl ?_
  refine TL.geqF rfl rfl (by omega) rfl rfl ?_
  refine TL.pickF (.bool false) rfl rfl rfl rfl ?_
  refine TL.mv (.bool false) rfl rfl rfl ?_
  refine TL.fa 3 rfl fc_f33_3_3 rfl rfl ?_
  refine TL.ld 3 (.int _ _) rfl rfl rfl fc_s3 rfl rfl ?_
  refine TL.lssF rfl rfl (by omega) rfl rfl ?_
  refine TL.pickF (.bool false) rfl rfl rfl rfl ?_
  refine TL.mv (.bool false) rfl rfl rfl ?_
  refine TL.fa 3 rfl fc_f33_3_3 rfl rfl ?_
  refine TL.ld 3 (.int _ _) rfl rfl rfl fc_s3 rfl rfl ?_
  refine TL.fa 0 rfl fc_f23_0_0 rfl rfl ?_
  refine TL.ld 4 (.int _ _) rfl rfl rfl fc_s3 rfl rfl ?_
  refine TL.geqF rfl rfl (by omega) rfl rfl ?_
  refine TL.pickF (.bool false) rfl rfl rfl rfl ?_
  refine TL.mv (.bool false) rfl rfl rfl ?_
  refine TL.fa 1 rfl fc_f33_1_1 rfl rfl ?_
  refine TL.ld 3 (.int _ _) rfl rfl rfl fc_s3 rfl rfl ?_
  refine TL.lssF rfl rfl (by omega) rfl rfl ?_
  refine TL.pickF (.bool false) rfl rfl rfl rfl ?_
  refine TL.mv (.bool false) rfl rfl rfl ?_
  refine TL.fa 1 rfl fc_f33_1_1 rfl rfl ?_
  refine TL.ld 3 (.int _ _) rfl rfl rfl fc_s3 rfl rfl ?_
  refine TL.fa 1 rfl fc_f23_1_1 rfl rfl ?_
  refine TL.ld 4 (.int _ _) rfl rfl rfl fc_s3 rfl rfl ?_
  refine TL.geqF rfl rfl (by omega) rfl rfl ?_
  refine TL.pickF (.bool false) rfl rfl rfl rfl ?_
  refine TL.done (TQ.then (TC.condF rfl (TC.skip (TQ.then (TC.seq (TC.region ?_))))))
  refine TL.mv (.pointer (some ⟨_, _, none⟩)) rfl rfl rfl ?_
  refine TL.fa 1 rfl fc_f33_1_1 rfl rfl ?_
  refine TL.ld 3 (.int _ _) rfl rfl rfl fc_s3 rfl rfl ?_
  refine TL.callD [0, 2] [0, 2] (slot13_ok hl hd) ⟨rfl, rfl, trivial⟩ ⟨rfl, rfl, trivial⟩ fc_c23 rfl rfl rfl rfl rfl trivial ?_
  rw [e]
  refine TL.asg (.int _ _) rfl rfl rfl ?_
  refine TL.done (TQ.then (TC.block (TC.seq (TC.region ?_))))
  refine TL.fa 0 rfl fc_f33_0_0 rfl rfl ?_
  refine TL.ld 3 (.int _ _) rfl rfl rfl fc_s3 rfl rfl ?_
  refine TL.eqlF rfl rfl (by omega) rfl rfl ?_
  refine TL.mv (.bool false) rfl rfl rfl ?_
  refine TL.off rfl rfl ?_
  refine TL.off rfl rfl ?_
  refine TL.pickF (.bool false) rfl rfl rfl rfl ?_
  refine TL.asg (.bool false) rfl rfl rfl ?_
  refine TL.done (TQ.then (TC.condF rfl (TC.seq (TC.region ?_))))
  refine TL.fa 0 rfl fc_f33_0_0 rfl rfl ?_
  refine TL.ld 3 (.int _ _) rfl rfl rfl fc_s3 rfl rfl ?_
  refine TL.eqlF rfl rfl (by omega) rfl rfl ?_
  refine TL.mv (.bool false) rfl rfl rfl ?_
  refine TL.off rfl rfl ?_
  refine TL.off rfl rfl ?_
  refine TL.pickF (.bool false) rfl rfl rfl rfl ?_
  refine TL.asg (.bool false) rfl rfl rfl ?_
  refine TL.done (TQ.then (TC.condF rfl (TC.seq ?_)))
  refine TC.ownW 2 rfl (fun a9 g9 c9 hv9 hc9 ha9 => ?_)
  cases hv9
  obtain rfl := ha9 (by omega)
  refine TC.draw [(0, true), (1, true), (2, true), (3, true), (4, true), (5, true), (6, true), (7, true), (8, true), (9, true), (10, true), (11, true), (12, true), (13, true), (14, true), (15, true), (16, true), (17, true), (18, false), (19, true), (20, true), (21, true)] [0, 2, 3, 4] fc_m (by kernel_rfl) ?_
  refine TL.fa 0 rfl fc_f33_0_0 rfl rfl ?_
  refine TL.ld 3 (.int _ _) rfl rfl rfl fc_s3 rfl rfl ?_
  refine TL.eqlT rfl rfl (by omega) rfl rfl ?_
  refine TL.mv (.bool true) rfl rfl rfl ?_
  refine TL.mv (.int _ _) rfl rfl rfl ?_
  refine TL.geqT rfl rfl (by omega) rfl rfl ?_
  refine TL.pickT (.bool true) rfl rfl rfl rfl ?_
  refine TL.mv (.bool true) rfl rfl rfl ?_
  refine TL.mv (.pointer (some ⟨_, _, none⟩)) rfl rfl rfl ?_
  refine TL.nc rfl rfl rfl ?_
  refine TL.fa 14 rfl fc_f54_3_14 rfl rfl ?_
  refine TL.ld 0 _ rfl rfl rfl fc_s52 rfl rfl ?_
  refine TL.mv (.int _ _) rfl rfl rfl ?_
  refine TL.iaO rfl ha9 rfl fc_l52_65_5 (by omega) rfl rfl ?_
  refine TL.fa 3 rfl fc_f65_3_3 rfl rfl ?_
  refine TL.ldRF 2 (.int _ _) rfl rfl (own_rowOf ha9) (by omega) (encE_ok _).1 rfl fc_s3 rfl rfl ?_
  refine TL.add _ rfl rfl (wr64 (by omega)) rfl rfl ?_
  refine TL.ldA 4 3 [_, _, _] rfl rfl rfl fc_a23_3 rfl rfl ?_
  refine TL.callD [] [] (levels_ok hl) ⟨rfl, trivial⟩ trivial fc_c19 rfl rfl rfl rfl rfl (.cons rfl rfl (.cons rfl rfl (.cons rfl rfl (.cons rfl rfl trivial)))) ?_
  refine TL.lssT rfl rfl (by omega) rfl rfl ?_
  refine TL.pickT (.bool true) rfl rfl rfl rfl ?_
  refine TL.asg (.bool true) rfl rfl rfl ?_
  refine TL.done (TQ.then (TC.condT rfl (TC.seq (TC.seq (TC.region ?_)))))
  refine TL.mv (.pointer (some ⟨_, _, none⟩)) rfl rfl rfl ?_
  refine TL.nc rfl rfl rfl ?_
  refine TL.fa 14 rfl fc_f54_3_14 rfl rfl ?_
  refine TL.ld 0 _ rfl rfl rfl fc_s52 rfl rfl ?_
  refine TL.mv (.int _ _) rfl rfl rfl ?_
  refine TL.iaO rfl ha9 rfl fc_l52_65_5 (by omega) rfl rfl ?_
  refine TL.fa 4 rfl fc_f65_4_4 rfl rfl ?_
  refine TL.ldRF 2 (.bool true) rfl rfl (own_rowOf ha9) (by omega) (encE_ok _).1 (by show some (Value.bool d[i]!.tr) = _; rw [ht]) fc_s4 rfl rfl ?_
  refine TL.done (TQ.then (TC.condT rfl ?_))
  refine TC.draw [(0, true), (1, true), (2, true), (3, true), (4, true), (5, true), (6, false)] [0, 3] fc_m (by kernel_rfl) ?_
  refine TL.mv (.pointer (some ⟨_, _, none⟩)) rfl rfl rfl ?_
  refine TL.nc rfl rfl rfl ?_
  refine TL.fa 4 rfl fc_f54_2_4 rfl rfl ?_
  refine TL.ldA 0 10 [_, _, _, _, _, _, _, _, _, _] rfl rfl rfl fc_a51_10 rfl rfl ?_
  refine TL.fa 1 rfl fc_f33_1_1 rfl rfl ?_
  refine TL.ld 3 (.int _ _) rfl rfl rfl fc_s3 rfl rfl ?_
  refine TL.callD [1] [1] (treeUp_ok (p := P1) plainM hl h) ⟨rfl, rfl, trivial⟩ ⟨rfl, trivial⟩ fc_c27 rfl rfl rfl rfl rfl (.cons rfl rfl (.cons rfl rfl trivial)) ?_
  refine TL.done (TQ.then (TC.region ?_))
  refine TL.mv (.pointer (some ⟨_, _, none⟩)) rfl rfl rfl ?_
  refine TL.nc rfl rfl rfl ?_
  refine TL.fa 14 rfl fc_f54_3_14 rfl rfl ?_
  refine TL.ld 0 _ rfl rfl rfl fc_s52 rfl rfl ?_
  refine TL.mv (.int _ _) rfl rfl rfl ?_
  refine TL.iaO rfl ha9 rfl fc_l52_65_5 (by omega) rfl rfl ?_
  refine TL.fa 3 rfl fc_f65_3_3 rfl rfl ?_
  refine TL.ldRF 2 (.int _ _) rfl rfl (own_rowOf ha9) (by omega) (encE_ok _).1 rfl fc_s3 rfl rfl ?_
  refine TL.add _ rfl rfl (wr64 (by omega)) rfl rfl ?_
  refine TL.iaO rfl ha9 rfl fc_l52_65_5 (by omega) rfl rfl ?_
  refine TL.fa 3 rfl fc_f65_3_3 rfl rfl ?_
  refine TL.stOF 2 (i := i) (cur := d[i]!) (u := { d[i]! with lv := d[i]!.lv + 1 }) (rfl) rfl rfl rfl rfl (by omega) (rfl) ⟨(encE_ok _).1, rfl⟩ rfl fc_s3 rfl rfl trivial ?_
  refine TL.done (TQ.inBlock ?_)
  refine FQ.end0 (Bs := [_, _, _]) [0, 1, 2] rfl rfl ⟨rfl, rfl, rfl, trivial⟩ ?_
  exact ⟨rfl, _, rfl⟩

set_option maxHeartbeats 1000000 in
theorem step_lf {pb ab mb : Nat} {σ : M} {v : Value} {d : Array EdR} {l : Lay} (hl : l.Ok) (hd : d.size ≤ 100) {o : OpR} (hv : ¬ (o.u = o.v ∨ o.u < 0 ∨ l.V ≤ o.u ∨ o.v < 0 ∨ l.V ≤ o.v ∨ o.slot < 0 ∨ l.S ≤ o.slot)) (hk : o.kind = 3) {i : Nat} (e : slotN (fun i => d[i]!) o.slot d.size = (i : Int)) (hi : i < d.size) (hlv : 0 ≤ d[i]!.lv ∧ d[i]!.lv ≤ 50) (hup : d[i]!.lv + 1 < l.lev) {k : Nat} {σ1 : M} (ht : d[i]!.tr = false) (h : plain l k σ o.slot = some σ1)  : Go.Eng.Fn Tryz.prog 17 [.pointer (some ⟨pb, 0, none⟩), .agg #[.int .i64 o.kind, .int .i64 o.slot, .int .i64 o.u, .int .i64 o.v]] [pt pb (.cells #[.int .i64 l.V, .int .i64 l.S, .int .i64 l.T, .pointer (some ⟨ab, 0, none⟩), .int .i64 l.V, .int .i64 l.S, .int .i64 l.T, .iface 107 (.agg #[.pointer (some ⟨ab, 0, none⟩)]), .int .i64 1, .int .i64 0, .int .i64 l.V, .int .i64 l.S, .int .i64 l.T, .iface 107 (.agg #[.pointer (some ⟨ab, 0, none⟩)]), v] 54), arenaA ab mb 149 110 (σ), ownA encE 5 65 v d] (fun x Bs => x = .tuple #[] ∧ ∃ v2, Bs = [pt pb (.cells #[.int .i64 l.V, .int .i64 l.S, .int .i64 l.T, .pointer (some ⟨ab, 0, none⟩), .int .i64 l.V, .int .i64 l.S, .int .i64 l.T, .iface 107 (.agg #[.pointer (some ⟨ab, 0, none⟩)]), .int .i64 1, .int .i64 0, .int .i64 l.V, .int .i64 l.S, .int .i64 l.T, .iface 107 (.agg #[.pointer (some ⟨ab, 0, none⟩)]), v2] 54), arenaA ab mb 149 110 (σ1), ownA encE 5 65 v2 (d.setIfInBounds i { d[i]! with lv := d[i]!.lv + 1 })]) := by
  refine Fn.enter (Tryz.func17) rfl rfl (fun w0 R => ?_)
  refine TC.seq (TC.region ?_)
  refine TL.boxA 3 rfl rfl rfl (fun _ => trivial) (fun bk3 => ?_)
  refine TL.done (TQ.then (TC.seq (TC.region ?_)))
  refine TL.mv (.pointer (some ⟨_, _, none⟩)) rfl rfl rfl ?_
  refine TL.nc rfl rfl rfl ?_
  refine TL.fa 0 rfl fc_f54_0_0 rfl rfl ?_
  refine TL.ldA 0 3 [_, _, _] rfl rfl rfl fc_a23_3 rfl rfl ?_
  refine TL.alloc 4 (cs := #[.int .i64 0, .int .i64 0, .int .i64 0]) fc_z23 rfl rfl rfl (fun _ => trivial) (fun bk4 => ?_)
  refine TL.stW 4 3 [_, _, _] rfl rfl rfl rfl rfl rfl fc_a23_3 rfl rfl trivial ?_
  refine TL.done (TQ.then (TC.seq (TC.seq (TC.region ?_))))
  refine TL.fa 2 rfl fc_f33_2_2 rfl rfl ?_
  refine TL.ld 3 (.int _ _) rfl rfl rfl fc_s3 rfl rfl ?_
  refine TL.fa 3 rfl fc_f33_3_3 rfl rfl ?_
  refine TL.ld 3 (.int _ _) rfl rfl rfl fc_s3 rfl rfl ?_
  refine TL.eqlF rfl rfl (by omega) rfl rfl ?_
  refine TL.mv (.bool false) rfl rfl rfl ?_
  refine TL.fa 2 rfl fc_f33_2_2 rfl rfl ?_
  refine TL.ld 3 (.int _ _) rfl rfl rfl fc_s3 rfl rfl ?_
  refine TL.lssF rfl rfl (by omega) rfl rfl ?_
  refine TL.pickF (.bool false) rfl rfl rfl rfl ?_
  refine TL.mv (.bool false) rfl rfl rfl ?_
  refine TL.fa 2 rfl fc_f33_2_2 rfl rfl ?_
  refine TL.ld 3 (.int _ _) rfl rfl rfl fc_s3 rfl rfl ?_
  refine TL.fa 0 rfl fc_f23_0_0 rfl rfl ?_
  refine TL.ld 4 (.int _ _) rfl rfl rfl fc_s3 rfl rfl ?_
  refine TL.geqF rfl rfl (by omega) rfl rfl ?_
  refine TL.pickF (.bool false) rfl rfl rfl rfl ?_
  refine TL.mv (.bool false) rfl rfl rfl ?_
  refine TL.fa 3 rfl fc_f33_3_3 rfl rfl ?_
  refine TL.ld 3 (.int _ _) rfl rfl rfl fc_s3 rfl rfl ?_
  refine TL.lssF rfl rfl (by omega) rfl rfl ?_
  refine TL.pickF (.bool false) rfl rfl rfl rfl ?_
  refine TL.mv (.bool false) rfl rfl rfl ?_
  refine TL.fa 3 rfl fc_f33_3_3 rfl rfl ?_
  refine TL.ld 3 (.int _ _) rfl rfl rfl fc_s3 rfl rfl ?_
  refine TL.fa 0 rfl fc_f23_0_0 rfl rfl ?_
  refine TL.ld 4 (.int _ _) rfl rfl rfl fc_s3 rfl rfl ?_
  refine TL.geqF rfl rfl (by omega) rfl rfl ?_
  refine TL.pickF (.bool false) rfl rfl rfl rfl ?_
  refine TL.mv (.bool false) rfl rfl rfl ?_
  refine TL.fa 1 rfl fc_f33_1_1 rfl rfl ?_
  refine TL.ld 3 (.int _ _) rfl rfl rfl fc_s3 rfl rfl ?_
  refine TL.lssF rfl rfl (by omega) rfl rfl ?_
  refine TL.pickF (.bool false) rfl rfl rfl rfl ?_
  refine TL.mv (.bool false) rfl rfl rfl ?_
  refine TL.fa 1 rfl fc_f33_1_1 rfl rfl ?_
  refine TL.ld 3 (.int _ _) rfl rfl rfl fc_s3 rfl rfl ?_
  refine TL.fa 1 rfl fc_f23_1_1 rfl rfl ?_
  refine TL.ld 4 (.int _ _) rfl rfl rfl fc_s3 rfl rfl ?_
  refine TL.geqF rfl rfl (by omega) rfl rfl ?_
  refine TL.pickF (.bool false) rfl rfl rfl rfl ?_
  refine TL.done (TQ.then (TC.condF rfl (TC.skip (TQ.then (TC.seq (TC.region ?_))))))
  refine TL.mv (.pointer (some ⟨_, _, none⟩)) rfl rfl rfl ?_
  refine TL.fa 1 rfl fc_f33_1_1 rfl rfl ?_
  refine TL.ld 3 (.int _ _) rfl rfl rfl fc_s3 rfl rfl ?_
  refine TL.callD [0, 2] [0, 2] (slot13_ok hl hd) ⟨rfl, rfl, trivial⟩ ⟨rfl, rfl, trivial⟩ fc_c23 rfl rfl rfl rfl rfl trivial ?_
  rw [e]
  refine TL.asg (.int _ _) rfl rfl rfl ?_
  refine TL.done (TQ.then (TC.block (TC.seq (TC.region ?_))))
  refine TL.fa 0 rfl fc_f33_0_0 rfl rfl ?_
  refine TL.ld 3 (.int _ _) rfl rfl rfl fc_s3 rfl rfl ?_
  refine TL.eqlF rfl rfl (by omega) rfl rfl ?_
  refine TL.mv (.bool false) rfl rfl rfl ?_
  refine TL.off rfl rfl ?_
  refine TL.off rfl rfl ?_
  refine TL.pickF (.bool false) rfl rfl rfl rfl ?_
  refine TL.asg (.bool false) rfl rfl rfl ?_
  refine TL.done (TQ.then (TC.condF rfl (TC.seq (TC.region ?_))))
  refine TL.fa 0 rfl fc_f33_0_0 rfl rfl ?_
  refine TL.ld 3 (.int _ _) rfl rfl rfl fc_s3 rfl rfl ?_
  refine TL.eqlF rfl rfl (by omega) rfl rfl ?_
  refine TL.mv (.bool false) rfl rfl rfl ?_
  refine TL.off rfl rfl ?_
  refine TL.off rfl rfl ?_
  refine TL.pickF (.bool false) rfl rfl rfl rfl ?_
  refine TL.asg (.bool false) rfl rfl rfl ?_
  refine TL.done (TQ.then (TC.condF rfl (TC.seq ?_)))
  refine TC.ownW 2 rfl (fun a9 g9 c9 hv9 hc9 ha9 => ?_)
  cases hv9
  obtain rfl := ha9 (by omega)
  refine TC.draw [(0, true), (1, true), (2, true), (3, true), (4, true), (5, true), (6, true), (7, true), (8, true), (9, true), (10, true), (11, true), (12, true), (13, true), (14, true), (15, true), (16, true), (17, true), (18, false), (19, true), (20, true), (21, true)] [0, 2, 3, 4] fc_m (by kernel_rfl) ?_
  refine TL.fa 0 rfl fc_f33_0_0 rfl rfl ?_
  refine TL.ld 3 (.int _ _) rfl rfl rfl fc_s3 rfl rfl ?_
  refine TL.eqlT rfl rfl (by omega) rfl rfl ?_
  refine TL.mv (.bool true) rfl rfl rfl ?_
  refine TL.mv (.int _ _) rfl rfl rfl ?_
  refine TL.geqT rfl rfl (by omega) rfl rfl ?_
  refine TL.pickT (.bool true) rfl rfl rfl rfl ?_
  refine TL.mv (.bool true) rfl rfl rfl ?_
  refine TL.mv (.pointer (some ⟨_, _, none⟩)) rfl rfl rfl ?_
  refine TL.nc rfl rfl rfl ?_
  refine TL.fa 14 rfl fc_f54_3_14 rfl rfl ?_
  refine TL.ld 0 _ rfl rfl rfl fc_s52 rfl rfl ?_
  refine TL.mv (.int _ _) rfl rfl rfl ?_
  refine TL.iaO rfl ha9 rfl fc_l52_65_5 (by omega) rfl rfl ?_
  refine TL.fa 3 rfl fc_f65_3_3 rfl rfl ?_
  refine TL.ldRF 2 (.int _ _) rfl rfl (own_rowOf ha9) (by omega) (encE_ok _).1 rfl fc_s3 rfl rfl ?_
  refine TL.add _ rfl rfl (wr64 (by omega)) rfl rfl ?_
  refine TL.ldA 4 3 [_, _, _] rfl rfl rfl fc_a23_3 rfl rfl ?_
  refine TL.callD [] [] (levels_ok hl) ⟨rfl, trivial⟩ trivial fc_c19 rfl rfl rfl rfl rfl (.cons rfl rfl (.cons rfl rfl (.cons rfl rfl (.cons rfl rfl trivial)))) ?_
  refine TL.lssT rfl rfl (by omega) rfl rfl ?_
  refine TL.pickT (.bool true) rfl rfl rfl rfl ?_
  refine TL.asg (.bool true) rfl rfl rfl ?_
  refine TL.done (TQ.then (TC.condT rfl (TC.seq (TC.seq (TC.region ?_)))))
  refine TL.mv (.pointer (some ⟨_, _, none⟩)) rfl rfl rfl ?_
  refine TL.nc rfl rfl rfl ?_
  refine TL.fa 14 rfl fc_f54_3_14 rfl rfl ?_
  refine TL.ld 0 _ rfl rfl rfl fc_s52 rfl rfl ?_
  refine TL.mv (.int _ _) rfl rfl rfl ?_
  refine TL.iaO rfl ha9 rfl fc_l52_65_5 (by omega) rfl rfl ?_
  refine TL.fa 4 rfl fc_f65_4_4 rfl rfl ?_
  refine TL.ldRF 2 (.bool false) rfl rfl (own_rowOf ha9) (by omega) (encE_ok _).1 (by show some (Value.bool d[i]!.tr) = _; rw [ht]) fc_s4 rfl rfl ?_
  refine TL.done (TQ.then (TC.condF rfl ?_))
  refine TC.draw [(0, true), (1, true), (2, true), (3, true), (4, true), (5, true), (6, false)] [0, 3] fc_m (by kernel_rfl) ?_
  refine TL.mv (.pointer (some ⟨_, _, none⟩)) rfl rfl rfl ?_
  refine TL.nc rfl rfl rfl ?_
  refine TL.fa 4 rfl fc_f54_2_4 rfl rfl ?_
  refine TL.ldA 0 10 [_, _, _, _, _, _, _, _, _, _] rfl rfl rfl fc_a51_10 rfl rfl ?_
  refine TL.fa 1 rfl fc_f33_1_1 rfl rfl ?_
  refine TL.ld 3 (.int _ _) rfl rfl rfl fc_s3 rfl rfl ?_
  refine TL.callD [1] [1] (plain_ok (p := P1) plainM hl h) ⟨rfl, rfl, trivial⟩ ⟨rfl, trivial⟩ fc_c60 rfl rfl rfl rfl rfl (.cons rfl rfl (.cons rfl rfl trivial)) ?_
  refine TL.done (TQ.then (TC.region ?_))
  refine TL.mv (.pointer (some ⟨_, _, none⟩)) rfl rfl rfl ?_
  refine TL.nc rfl rfl rfl ?_
  refine TL.fa 14 rfl fc_f54_3_14 rfl rfl ?_
  refine TL.ld 0 _ rfl rfl rfl fc_s52 rfl rfl ?_
  refine TL.mv (.int _ _) rfl rfl rfl ?_
  refine TL.iaO rfl ha9 rfl fc_l52_65_5 (by omega) rfl rfl ?_
  refine TL.fa 3 rfl fc_f65_3_3 rfl rfl ?_
  refine TL.ldRF 2 (.int _ _) rfl rfl (own_rowOf ha9) (by omega) (encE_ok _).1 rfl fc_s3 rfl rfl ?_
  refine TL.add _ rfl rfl (wr64 (by omega)) rfl rfl ?_
  refine TL.iaO rfl ha9 rfl fc_l52_65_5 (by omega) rfl rfl ?_
  refine TL.fa 3 rfl fc_f65_3_3 rfl rfl ?_
  refine TL.stOF 2 (i := i) (cur := d[i]!) (u := { d[i]! with lv := d[i]!.lv + 1 }) (rfl) rfl rfl rfl rfl (by omega) (rfl) ⟨(encE_ok _).1, rfl⟩ rfl fc_s3 rfl rfl trivial ?_
  refine TL.done (TQ.inBlock ?_)
  refine FQ.end0 (Bs := [_, _, _]) [0, 1, 2] rfl rfl ⟨rfl, rfl, rfl, trivial⟩ ?_
  exact ⟨rfl, _, rfl⟩

set_option maxHeartbeats 1000000 in
theorem step_n1 {pb ab mb : Nat} {σ : M} {v : Value} {d : Array EdR} {l : Lay} (hl : l.Ok) (hd : d.size ≤ 100) {o : OpR} (hv : ¬ (o.u = o.v ∨ o.u < 0 ∨ l.V ≤ o.u ∨ o.v < 0 ∨ l.V ≤ o.v ∨ o.slot < 0 ∨ l.S ≤ o.slot)) (hk : o.kind = 1) {i : Nat} (e : slotN (fun i => d[i]!) o.slot d.size = (i : Int)) (hi : i < d.size)  : Go.Eng.Fn Tryz.prog 17 [.pointer (some ⟨pb, 0, none⟩), .agg #[.int .i64 o.kind, .int .i64 o.slot, .int .i64 o.u, .int .i64 o.v]] [pt pb (.cells #[.int .i64 l.V, .int .i64 l.S, .int .i64 l.T, .pointer (some ⟨ab, 0, none⟩), .int .i64 l.V, .int .i64 l.S, .int .i64 l.T, .iface 107 (.agg #[.pointer (some ⟨ab, 0, none⟩)]), .int .i64 1, .int .i64 0, .int .i64 l.V, .int .i64 l.S, .int .i64 l.T, .iface 107 (.agg #[.pointer (some ⟨ab, 0, none⟩)]), v] 54), arenaA ab mb 149 110 (σ), ownA encE 5 65 v d] (fun x Bs => x = .tuple #[] ∧ ∃ v2, Bs = [pt pb (.cells #[.int .i64 l.V, .int .i64 l.S, .int .i64 l.T, .pointer (some ⟨ab, 0, none⟩), .int .i64 l.V, .int .i64 l.S, .int .i64 l.T, .iface 107 (.agg #[.pointer (some ⟨ab, 0, none⟩)]), .int .i64 1, .int .i64 0, .int .i64 l.V, .int .i64 l.S, .int .i64 l.T, .iface 107 (.agg #[.pointer (some ⟨ab, 0, none⟩)]), v2] 54), arenaA ab mb 149 110 (σ), ownA encE 5 65 v2 (d)]) := by
  refine Fn.enter (Tryz.func17) rfl rfl (fun w0 R => ?_)
  refine TC.seq (TC.region ?_)
  refine TL.boxA 3 rfl rfl rfl (fun _ => trivial) (fun bk3 => ?_)
  refine TL.done (TQ.then (TC.seq (TC.region ?_)))
  refine TL.mv (.pointer (some ⟨_, _, none⟩)) rfl rfl rfl ?_
  refine TL.nc rfl rfl rfl ?_
  refine TL.fa 0 rfl fc_f54_0_0 rfl rfl ?_
  refine TL.ldA 0 3 [_, _, _] rfl rfl rfl fc_a23_3 rfl rfl ?_
  refine TL.alloc 4 (cs := #[.int .i64 0, .int .i64 0, .int .i64 0]) fc_z23 rfl rfl rfl (fun _ => trivial) (fun bk4 => ?_)
  refine TL.stW 4 3 [_, _, _] rfl rfl rfl rfl rfl rfl fc_a23_3 rfl rfl trivial ?_
  refine TL.done (TQ.then (TC.seq (TC.seq (TC.region ?_))))
  refine TL.fa 2 rfl fc_f33_2_2 rfl rfl ?_
  refine TL.ld 3 (.int _ _) rfl rfl rfl fc_s3 rfl rfl ?_
  refine TL.fa 3 rfl fc_f33_3_3 rfl rfl ?_
  refine TL.ld 3 (.int _ _) rfl rfl rfl fc_s3 rfl rfl ?_
  refine TL.eqlF rfl rfl (by omega) rfl rfl ?_
  refine TL.mv (.bool false) rfl rfl rfl ?_
  refine TL.fa 2 rfl fc_f33_2_2 rfl rfl ?_
  refine TL.ld 3 (.int _ _) rfl rfl rfl fc_s3 rfl rfl ?_
  refine TL.lssF rfl rfl (by omega) rfl rfl ?_
  refine TL.pickF (.bool false) rfl rfl rfl rfl ?_
  refine TL.mv (.bool false) rfl rfl rfl ?_
  refine TL.fa 2 rfl fc_f33_2_2 rfl rfl ?_
  refine TL.ld 3 (.int _ _) rfl rfl rfl fc_s3 rfl rfl ?_
  refine TL.fa 0 rfl fc_f23_0_0 rfl rfl ?_
  refine TL.ld 4 (.int _ _) rfl rfl rfl fc_s3 rfl rfl ?_
  refine TL.geqF rfl rfl (by omega) rfl rfl ?_
  refine TL.pickF (.bool false) rfl rfl rfl rfl ?_
  refine TL.mv (.bool false) rfl rfl rfl ?_
  refine TL.fa 3 rfl fc_f33_3_3 rfl rfl ?_
  refine TL.ld 3 (.int _ _) rfl rfl rfl fc_s3 rfl rfl ?_
  refine TL.lssF rfl rfl (by omega) rfl rfl ?_
  refine TL.pickF (.bool false) rfl rfl rfl rfl ?_
  refine TL.mv (.bool false) rfl rfl rfl ?_
  refine TL.fa 3 rfl fc_f33_3_3 rfl rfl ?_
  refine TL.ld 3 (.int _ _) rfl rfl rfl fc_s3 rfl rfl ?_
  refine TL.fa 0 rfl fc_f23_0_0 rfl rfl ?_
  refine TL.ld 4 (.int _ _) rfl rfl rfl fc_s3 rfl rfl ?_
  refine TL.geqF rfl rfl (by omega) rfl rfl ?_
  refine TL.pickF (.bool false) rfl rfl rfl rfl ?_
  refine TL.mv (.bool false) rfl rfl rfl ?_
  refine TL.fa 1 rfl fc_f33_1_1 rfl rfl ?_
  refine TL.ld 3 (.int _ _) rfl rfl rfl fc_s3 rfl rfl ?_
  refine TL.lssF rfl rfl (by omega) rfl rfl ?_
  refine TL.pickF (.bool false) rfl rfl rfl rfl ?_
  refine TL.mv (.bool false) rfl rfl rfl ?_
  refine TL.fa 1 rfl fc_f33_1_1 rfl rfl ?_
  refine TL.ld 3 (.int _ _) rfl rfl rfl fc_s3 rfl rfl ?_
  refine TL.fa 1 rfl fc_f23_1_1 rfl rfl ?_
  refine TL.ld 4 (.int _ _) rfl rfl rfl fc_s3 rfl rfl ?_
  refine TL.geqF rfl rfl (by omega) rfl rfl ?_
  refine TL.pickF (.bool false) rfl rfl rfl rfl ?_
  refine TL.done (TQ.then (TC.condF rfl (TC.skip (TQ.then (TC.seq (TC.region ?_))))))
  refine TL.mv (.pointer (some ⟨_, _, none⟩)) rfl rfl rfl ?_
  refine TL.fa 1 rfl fc_f33_1_1 rfl rfl ?_
  refine TL.ld 3 (.int _ _) rfl rfl rfl fc_s3 rfl rfl ?_
  refine TL.callD [0, 2] [0, 2] (slot13_ok hl hd) ⟨rfl, rfl, trivial⟩ ⟨rfl, rfl, trivial⟩ fc_c23 rfl rfl rfl rfl rfl trivial ?_
  rw [e]
  refine TL.asg (.int _ _) rfl rfl rfl ?_
  refine TL.done (TQ.then (TC.block (TC.seq (TC.region ?_))))
  refine TL.fa 0 rfl fc_f33_0_0 rfl rfl ?_
  refine TL.ld 3 (.int _ _) rfl rfl rfl fc_s3 rfl rfl ?_
  refine TL.eqlT rfl rfl (by omega) rfl rfl ?_
  refine TL.mv (.bool true) rfl rfl rfl ?_
  refine TL.mv (.int _ _) rfl rfl rfl ?_
  refine TL.lssF rfl rfl (by omega) rfl rfl ?_
  refine TL.pickT (.bool false) rfl rfl rfl rfl ?_
  refine TL.asg (.bool false) rfl rfl rfl ?_
  refine TL.done (TQ.then (TC.condF rfl (TC.seq (TC.region ?_))))
  refine TL.fa 0 rfl fc_f33_0_0 rfl rfl ?_
  refine TL.ld 3 (.int _ _) rfl rfl rfl fc_s3 rfl rfl ?_
  refine TL.eqlF rfl rfl (by omega) rfl rfl ?_
  refine TL.mv (.bool false) rfl rfl rfl ?_
  refine TL.off rfl rfl ?_
  refine TL.off rfl rfl ?_
  refine TL.pickF (.bool false) rfl rfl rfl rfl ?_
  refine TL.asg (.bool false) rfl rfl rfl ?_
  refine TL.done (TQ.then (TC.condF rfl (TC.seq ?_)))
  refine TC.draw [(0, true), (1, true), (2, true), (3, true), (4, true), (5, true), (6, true), (7, true), (8, true), (9, true), (10, true), (11, true), (12, true), (13, true), (14, true), (15, true), (16, true), (17, true), (18, false), (19, true), (20, true), (21, true)] [0, 3, 4] fc_m (by kernel_rfl) ?_
  refine TL.fa 0 rfl fc_f33_0_0 rfl rfl ?_
  refine TL.ld 3 (.int _ _) rfl rfl rfl fc_s3 rfl rfl ?_
  refine TL.eqlF rfl rfl (by omega) rfl rfl ?_
  refine TL.mv (.bool false) rfl rfl rfl ?_
  refine TL.off rfl rfl ?_
  refine TL.off rfl rfl ?_
  refine TL.pickF (.bool false) rfl rfl rfl rfl ?_
  refine TL.mv (.bool false) rfl rfl rfl ?_
  refine TL.off rfl rfl ?_
  refine TL.off rfl rfl ?_
  refine TL.off rfl rfl ?_
  refine TL.off rfl rfl ?_
  refine TL.off rfl rfl ?_
  refine TL.off rfl rfl ?_
  refine TL.off rfl rfl ?_
  refine TL.off rfl rfl ?_
  refine TL.off rfl rfl ?_
  refine TL.off rfl rfl ?_
  refine TL.off rfl rfl ?_
  refine TL.off rfl rfl ?_
  refine TL.pickF (.bool false) rfl rfl rfl rfl ?_
  refine TL.asg (.bool false) rfl rfl rfl ?_
  refine TL.done (TQ.then (TC.condF rfl (TC.skip (TQ.inBlock ?_))))
  refine FQ.end0 (Bs := [_, _, _]) [0, 1, 2] rfl rfl ⟨rfl, rfl, rfl, trivial⟩ ?_
  exact ⟨rfl, _, rfl⟩

set_option maxHeartbeats 1000000 in
theorem step_n2 {pb ab mb : Nat} {σ : M} {v : Value} {d : Array EdR} {l : Lay} (hl : l.Ok) (hd : d.size ≤ 100) {o : OpR} (hv : ¬ (o.u = o.v ∨ o.u < 0 ∨ l.V ≤ o.u ∨ o.v < 0 ∨ l.V ≤ o.v ∨ o.slot < 0 ∨ l.S ≤ o.slot)) (hk : o.kind = 2) (e : slotN (fun i => d[i]!) o.slot d.size = -1)  : Go.Eng.Fn Tryz.prog 17 [.pointer (some ⟨pb, 0, none⟩), .agg #[.int .i64 o.kind, .int .i64 o.slot, .int .i64 o.u, .int .i64 o.v]] [pt pb (.cells #[.int .i64 l.V, .int .i64 l.S, .int .i64 l.T, .pointer (some ⟨ab, 0, none⟩), .int .i64 l.V, .int .i64 l.S, .int .i64 l.T, .iface 107 (.agg #[.pointer (some ⟨ab, 0, none⟩)]), .int .i64 1, .int .i64 0, .int .i64 l.V, .int .i64 l.S, .int .i64 l.T, .iface 107 (.agg #[.pointer (some ⟨ab, 0, none⟩)]), v] 54), arenaA ab mb 149 110 (σ), ownA encE 5 65 v d] (fun x Bs => x = .tuple #[] ∧ ∃ v2, Bs = [pt pb (.cells #[.int .i64 l.V, .int .i64 l.S, .int .i64 l.T, .pointer (some ⟨ab, 0, none⟩), .int .i64 l.V, .int .i64 l.S, .int .i64 l.T, .iface 107 (.agg #[.pointer (some ⟨ab, 0, none⟩)]), .int .i64 1, .int .i64 0, .int .i64 l.V, .int .i64 l.S, .int .i64 l.T, .iface 107 (.agg #[.pointer (some ⟨ab, 0, none⟩)]), v2] 54), arenaA ab mb 149 110 (σ), ownA encE 5 65 v2 (d)]) := by
  refine Fn.enter (Tryz.func17) rfl rfl (fun w0 R => ?_)
  refine TC.seq (TC.region ?_)
  refine TL.boxA 3 rfl rfl rfl (fun _ => trivial) (fun bk3 => ?_)
  refine TL.done (TQ.then (TC.seq (TC.region ?_)))
  refine TL.mv (.pointer (some ⟨_, _, none⟩)) rfl rfl rfl ?_
  refine TL.nc rfl rfl rfl ?_
  refine TL.fa 0 rfl fc_f54_0_0 rfl rfl ?_
  refine TL.ldA 0 3 [_, _, _] rfl rfl rfl fc_a23_3 rfl rfl ?_
  refine TL.alloc 4 (cs := #[.int .i64 0, .int .i64 0, .int .i64 0]) fc_z23 rfl rfl rfl (fun _ => trivial) (fun bk4 => ?_)
  refine TL.stW 4 3 [_, _, _] rfl rfl rfl rfl rfl rfl fc_a23_3 rfl rfl trivial ?_
  refine TL.done (TQ.then (TC.seq (TC.seq (TC.region ?_))))
  refine TL.fa 2 rfl fc_f33_2_2 rfl rfl ?_
  refine TL.ld 3 (.int _ _) rfl rfl rfl fc_s3 rfl rfl ?_
  refine TL.fa 3 rfl fc_f33_3_3 rfl rfl ?_
  refine TL.ld 3 (.int _ _) rfl rfl rfl fc_s3 rfl rfl ?_
  refine TL.eqlF rfl rfl (by omega) rfl rfl ?_
  refine TL.mv (.bool false) rfl rfl rfl ?_
  refine TL.fa 2 rfl fc_f33_2_2 rfl rfl ?_
  refine TL.ld 3 (.int _ _) rfl rfl rfl fc_s3 rfl rfl ?_
  refine TL.lssF rfl rfl (by omega) rfl rfl ?_
  refine TL.pickF (.bool false) rfl rfl rfl rfl ?_
  refine TL.mv (.bool false) rfl rfl rfl ?_
  refine TL.fa 2 rfl fc_f33_2_2 rfl rfl ?_
  refine TL.ld 3 (.int _ _) rfl rfl rfl fc_s3 rfl rfl ?_
  refine TL.fa 0 rfl fc_f23_0_0 rfl rfl ?_
  refine TL.ld 4 (.int _ _) rfl rfl rfl fc_s3 rfl rfl ?_
  refine TL.geqF rfl rfl (by omega) rfl rfl ?_
  refine TL.pickF (.bool false) rfl rfl rfl rfl ?_
  refine TL.mv (.bool false) rfl rfl rfl ?_
  refine TL.fa 3 rfl fc_f33_3_3 rfl rfl ?_
  refine TL.ld 3 (.int _ _) rfl rfl rfl fc_s3 rfl rfl ?_
  refine TL.lssF rfl rfl (by omega) rfl rfl ?_
  refine TL.pickF (.bool false) rfl rfl rfl rfl ?_
  refine TL.mv (.bool false) rfl rfl rfl ?_
  refine TL.fa 3 rfl fc_f33_3_3 rfl rfl ?_
  refine TL.ld 3 (.int _ _) rfl rfl rfl fc_s3 rfl rfl ?_
  refine TL.fa 0 rfl fc_f23_0_0 rfl rfl ?_
  refine TL.ld 4 (.int _ _) rfl rfl rfl fc_s3 rfl rfl ?_
  refine TL.geqF rfl rfl (by omega) rfl rfl ?_
  refine TL.pickF (.bool false) rfl rfl rfl rfl ?_
  refine TL.mv (.bool false) rfl rfl rfl ?_
  refine TL.fa 1 rfl fc_f33_1_1 rfl rfl ?_
  refine TL.ld 3 (.int _ _) rfl rfl rfl fc_s3 rfl rfl ?_
  refine TL.lssF rfl rfl (by omega) rfl rfl ?_
  refine TL.pickF (.bool false) rfl rfl rfl rfl ?_
  refine TL.mv (.bool false) rfl rfl rfl ?_
  refine TL.fa 1 rfl fc_f33_1_1 rfl rfl ?_
  refine TL.ld 3 (.int _ _) rfl rfl rfl fc_s3 rfl rfl ?_
  refine TL.fa 1 rfl fc_f23_1_1 rfl rfl ?_
  refine TL.ld 4 (.int _ _) rfl rfl rfl fc_s3 rfl rfl ?_
  refine TL.geqF rfl rfl (by omega) rfl rfl ?_
  refine TL.pickF (.bool false) rfl rfl rfl rfl ?_
  refine TL.done (TQ.then (TC.condF rfl (TC.skip (TQ.then (TC.seq (TC.region ?_))))))
  refine TL.mv (.pointer (some ⟨_, _, none⟩)) rfl rfl rfl ?_
  refine TL.fa 1 rfl fc_f33_1_1 rfl rfl ?_
  refine TL.ld 3 (.int _ _) rfl rfl rfl fc_s3 rfl rfl ?_
  refine TL.callD [0, 2] [0, 2] (slot13_ok hl hd) ⟨rfl, rfl, trivial⟩ ⟨rfl, rfl, trivial⟩ fc_c23 rfl rfl rfl rfl rfl trivial ?_
  rw [e]
  refine TL.asg (.int _ _) rfl rfl rfl ?_
  refine TL.done (TQ.then (TC.block (TC.seq (TC.region ?_))))
  refine TL.fa 0 rfl fc_f33_0_0 rfl rfl ?_
  refine TL.ld 3 (.int _ _) rfl rfl rfl fc_s3 rfl rfl ?_
  refine TL.eqlF rfl rfl (by omega) rfl rfl ?_
  refine TL.mv (.bool false) rfl rfl rfl ?_
  refine TL.off rfl rfl ?_
  refine TL.off rfl rfl ?_
  refine TL.pickF (.bool false) rfl rfl rfl rfl ?_
  refine TL.asg (.bool false) rfl rfl rfl ?_
  refine TL.done (TQ.then (TC.condF rfl (TC.seq (TC.region ?_))))
  refine TL.fa 0 rfl fc_f33_0_0 rfl rfl ?_
  refine TL.ld 3 (.int _ _) rfl rfl rfl fc_s3 rfl rfl ?_
  refine TL.eqlT rfl rfl (by omega) rfl rfl ?_
  refine TL.mv (.bool true) rfl rfl rfl ?_
  refine TL.mv (.int _ _) rfl rfl rfl ?_
  refine TL.geqF rfl rfl (by omega) rfl rfl ?_
  refine TL.pickT (.bool false) rfl rfl rfl rfl ?_
  refine TL.asg (.bool false) rfl rfl rfl ?_
  refine TL.done (TQ.then (TC.condF rfl (TC.seq ?_)))
  refine TC.draw [(0, true), (1, true), (2, true), (3, true), (4, true), (5, true), (6, true), (7, true), (8, true), (9, true), (10, true), (11, true), (12, true), (13, true), (14, true), (15, true), (16, true), (17, true), (18, false), (19, true), (20, true), (21, true)] [0, 3, 4] fc_m (by kernel_rfl) ?_
  refine TL.fa 0 rfl fc_f33_0_0 rfl rfl ?_
  refine TL.ld 3 (.int _ _) rfl rfl rfl fc_s3 rfl rfl ?_
  refine TL.eqlF rfl rfl (by omega) rfl rfl ?_
  refine TL.mv (.bool false) rfl rfl rfl ?_
  refine TL.off rfl rfl ?_
  refine TL.off rfl rfl ?_
  refine TL.pickF (.bool false) rfl rfl rfl rfl ?_
  refine TL.mv (.bool false) rfl rfl rfl ?_
  refine TL.off rfl rfl ?_
  refine TL.off rfl rfl ?_
  refine TL.off rfl rfl ?_
  refine TL.off rfl rfl ?_
  refine TL.off rfl rfl ?_
  refine TL.off rfl rfl ?_
  refine TL.off rfl rfl ?_
  refine TL.off rfl rfl ?_
  refine TL.off rfl rfl ?_
  refine TL.off rfl rfl ?_
  refine TL.off rfl rfl ?_
  refine TL.off rfl rfl ?_
  refine TL.pickF (.bool false) rfl rfl rfl rfl ?_
  refine TL.asg (.bool false) rfl rfl rfl ?_
  refine TL.done (TQ.then (TC.condF rfl (TC.skip (TQ.inBlock ?_))))
  refine FQ.end0 (Bs := [_, _, _]) [0, 1, 2] rfl rfl ⟨rfl, rfl, rfl, trivial⟩ ?_
  exact ⟨rfl, _, rfl⟩

set_option maxHeartbeats 1000000 in
theorem step_n3 {pb ab mb : Nat} {σ : M} {v : Value} {d : Array EdR} {l : Lay} (hl : l.Ok) (hd : d.size ≤ 100) {o : OpR} (hv : ¬ (o.u = o.v ∨ o.u < 0 ∨ l.V ≤ o.u ∨ o.v < 0 ∨ l.V ≤ o.v ∨ o.slot < 0 ∨ l.S ≤ o.slot)) (hk : o.kind = 3) (e : slotN (fun i => d[i]!) o.slot d.size = -1)  : Go.Eng.Fn Tryz.prog 17 [.pointer (some ⟨pb, 0, none⟩), .agg #[.int .i64 o.kind, .int .i64 o.slot, .int .i64 o.u, .int .i64 o.v]] [pt pb (.cells #[.int .i64 l.V, .int .i64 l.S, .int .i64 l.T, .pointer (some ⟨ab, 0, none⟩), .int .i64 l.V, .int .i64 l.S, .int .i64 l.T, .iface 107 (.agg #[.pointer (some ⟨ab, 0, none⟩)]), .int .i64 1, .int .i64 0, .int .i64 l.V, .int .i64 l.S, .int .i64 l.T, .iface 107 (.agg #[.pointer (some ⟨ab, 0, none⟩)]), v] 54), arenaA ab mb 149 110 (σ), ownA encE 5 65 v d] (fun x Bs => x = .tuple #[] ∧ ∃ v2, Bs = [pt pb (.cells #[.int .i64 l.V, .int .i64 l.S, .int .i64 l.T, .pointer (some ⟨ab, 0, none⟩), .int .i64 l.V, .int .i64 l.S, .int .i64 l.T, .iface 107 (.agg #[.pointer (some ⟨ab, 0, none⟩)]), .int .i64 1, .int .i64 0, .int .i64 l.V, .int .i64 l.S, .int .i64 l.T, .iface 107 (.agg #[.pointer (some ⟨ab, 0, none⟩)]), v2] 54), arenaA ab mb 149 110 (σ), ownA encE 5 65 v2 (d)]) := by
  refine Fn.enter (Tryz.func17) rfl rfl (fun w0 R => ?_)
  refine TC.seq (TC.region ?_)
  refine TL.boxA 3 rfl rfl rfl (fun _ => trivial) (fun bk3 => ?_)
  refine TL.done (TQ.then (TC.seq (TC.region ?_)))
  refine TL.mv (.pointer (some ⟨_, _, none⟩)) rfl rfl rfl ?_
  refine TL.nc rfl rfl rfl ?_
  refine TL.fa 0 rfl fc_f54_0_0 rfl rfl ?_
  refine TL.ldA 0 3 [_, _, _] rfl rfl rfl fc_a23_3 rfl rfl ?_
  refine TL.alloc 4 (cs := #[.int .i64 0, .int .i64 0, .int .i64 0]) fc_z23 rfl rfl rfl (fun _ => trivial) (fun bk4 => ?_)
  refine TL.stW 4 3 [_, _, _] rfl rfl rfl rfl rfl rfl fc_a23_3 rfl rfl trivial ?_
  refine TL.done (TQ.then (TC.seq (TC.seq (TC.region ?_))))
  refine TL.fa 2 rfl fc_f33_2_2 rfl rfl ?_
  refine TL.ld 3 (.int _ _) rfl rfl rfl fc_s3 rfl rfl ?_
  refine TL.fa 3 rfl fc_f33_3_3 rfl rfl ?_
  refine TL.ld 3 (.int _ _) rfl rfl rfl fc_s3 rfl rfl ?_
  refine TL.eqlF rfl rfl (by omega) rfl rfl ?_
  refine TL.mv (.bool false) rfl rfl rfl ?_
  refine TL.fa 2 rfl fc_f33_2_2 rfl rfl ?_
  refine TL.ld 3 (.int _ _) rfl rfl rfl fc_s3 rfl rfl ?_
  refine TL.lssF rfl rfl (by omega) rfl rfl ?_
  refine TL.pickF (.bool false) rfl rfl rfl rfl ?_
  refine TL.mv (.bool false) rfl rfl rfl ?_
  refine TL.fa 2 rfl fc_f33_2_2 rfl rfl ?_
  refine TL.ld 3 (.int _ _) rfl rfl rfl fc_s3 rfl rfl ?_
  refine TL.fa 0 rfl fc_f23_0_0 rfl rfl ?_
  refine TL.ld 4 (.int _ _) rfl rfl rfl fc_s3 rfl rfl ?_
  refine TL.geqF rfl rfl (by omega) rfl rfl ?_
  refine TL.pickF (.bool false) rfl rfl rfl rfl ?_
  refine TL.mv (.bool false) rfl rfl rfl ?_
  refine TL.fa 3 rfl fc_f33_3_3 rfl rfl ?_
  refine TL.ld 3 (.int _ _) rfl rfl rfl fc_s3 rfl rfl ?_
  refine TL.lssF rfl rfl (by omega) rfl rfl ?_
  refine TL.pickF (.bool false) rfl rfl rfl rfl ?_
  refine TL.mv (.bool false) rfl rfl rfl ?_
  refine TL.fa 3 rfl fc_f33_3_3 rfl rfl ?_
  refine TL.ld 3 (.int _ _) rfl rfl rfl fc_s3 rfl rfl ?_
  refine TL.fa 0 rfl fc_f23_0_0 rfl rfl ?_
  refine TL.ld 4 (.int _ _) rfl rfl rfl fc_s3 rfl rfl ?_
  refine TL.geqF rfl rfl (by omega) rfl rfl ?_
  refine TL.pickF (.bool false) rfl rfl rfl rfl ?_
  refine TL.mv (.bool false) rfl rfl rfl ?_
  refine TL.fa 1 rfl fc_f33_1_1 rfl rfl ?_
  refine TL.ld 3 (.int _ _) rfl rfl rfl fc_s3 rfl rfl ?_
  refine TL.lssF rfl rfl (by omega) rfl rfl ?_
  refine TL.pickF (.bool false) rfl rfl rfl rfl ?_
  refine TL.mv (.bool false) rfl rfl rfl ?_
  refine TL.fa 1 rfl fc_f33_1_1 rfl rfl ?_
  refine TL.ld 3 (.int _ _) rfl rfl rfl fc_s3 rfl rfl ?_
  refine TL.fa 1 rfl fc_f23_1_1 rfl rfl ?_
  refine TL.ld 4 (.int _ _) rfl rfl rfl fc_s3 rfl rfl ?_
  refine TL.geqF rfl rfl (by omega) rfl rfl ?_
  refine TL.pickF (.bool false) rfl rfl rfl rfl ?_
  refine TL.done (TQ.then (TC.condF rfl (TC.skip (TQ.then (TC.seq (TC.region ?_))))))
  refine TL.mv (.pointer (some ⟨_, _, none⟩)) rfl rfl rfl ?_
  refine TL.fa 1 rfl fc_f33_1_1 rfl rfl ?_
  refine TL.ld 3 (.int _ _) rfl rfl rfl fc_s3 rfl rfl ?_
  refine TL.callD [0, 2] [0, 2] (slot13_ok hl hd) ⟨rfl, rfl, trivial⟩ ⟨rfl, rfl, trivial⟩ fc_c23 rfl rfl rfl rfl rfl trivial ?_
  rw [e]
  refine TL.asg (.int _ _) rfl rfl rfl ?_
  refine TL.done (TQ.then (TC.block (TC.seq (TC.region ?_))))
  refine TL.fa 0 rfl fc_f33_0_0 rfl rfl ?_
  refine TL.ld 3 (.int _ _) rfl rfl rfl fc_s3 rfl rfl ?_
  refine TL.eqlF rfl rfl (by omega) rfl rfl ?_
  refine TL.mv (.bool false) rfl rfl rfl ?_
  refine TL.off rfl rfl ?_
  refine TL.off rfl rfl ?_
  refine TL.pickF (.bool false) rfl rfl rfl rfl ?_
  refine TL.asg (.bool false) rfl rfl rfl ?_
  refine TL.done (TQ.then (TC.condF rfl (TC.seq (TC.region ?_))))
  refine TL.fa 0 rfl fc_f33_0_0 rfl rfl ?_
  refine TL.ld 3 (.int _ _) rfl rfl rfl fc_s3 rfl rfl ?_
  refine TL.eqlF rfl rfl (by omega) rfl rfl ?_
  refine TL.mv (.bool false) rfl rfl rfl ?_
  refine TL.off rfl rfl ?_
  refine TL.off rfl rfl ?_
  refine TL.pickF (.bool false) rfl rfl rfl rfl ?_
  refine TL.asg (.bool false) rfl rfl rfl ?_
  refine TL.done (TQ.then (TC.condF rfl (TC.seq ?_)))
  refine TC.draw [(0, true), (1, true), (2, true), (3, true), (4, true), (5, true), (6, true), (7, true), (8, true), (9, true), (10, true), (11, true), (12, true), (13, true), (14, true), (15, true), (16, true), (17, true), (18, false), (19, true), (20, true), (21, true)] [0, 3, 4] fc_m (by kernel_rfl) ?_
  refine TL.fa 0 rfl fc_f33_0_0 rfl rfl ?_
  refine TL.ld 3 (.int _ _) rfl rfl rfl fc_s3 rfl rfl ?_
  refine TL.eqlT rfl rfl (by omega) rfl rfl ?_
  refine TL.mv (.bool true) rfl rfl rfl ?_
  refine TL.mv (.int _ _) rfl rfl rfl ?_
  refine TL.geqF rfl rfl (by omega) rfl rfl ?_
  refine TL.pickT (.bool false) rfl rfl rfl rfl ?_
  refine TL.mv (.bool false) rfl rfl rfl ?_
  refine TL.off rfl rfl ?_
  refine TL.off rfl rfl ?_
  refine TL.off rfl rfl ?_
  refine TL.off rfl rfl ?_
  refine TL.off rfl rfl ?_
  refine TL.off rfl rfl ?_
  refine TL.off rfl rfl ?_
  refine TL.off rfl rfl ?_
  refine TL.off rfl rfl ?_
  refine TL.off rfl rfl ?_
  refine TL.off rfl rfl ?_
  refine TL.off rfl rfl ?_
  refine TL.pickF (.bool false) rfl rfl rfl rfl ?_
  refine TL.asg (.bool false) rfl rfl rfl ?_
  refine TL.done (TQ.then (TC.condF rfl (TC.skip (TQ.inBlock ?_))))
  refine FQ.end0 (Bs := [_, _, _]) [0, 1, 2] rfl rfl ⟨rfl, rfl, rfl, trivial⟩ ?_
  exact ⟨rfl, _, rfl⟩

set_option maxHeartbeats 1000000 in
theorem step_n4 {pb ab mb : Nat} {σ : M} {v : Value} {d : Array EdR} {l : Lay} (hl : l.Ok) (hd : d.size ≤ 100) {o : OpR} (hv : ¬ (o.u = o.v ∨ o.u < 0 ∨ l.V ≤ o.u ∨ o.v < 0 ∨ l.V ≤ o.v ∨ o.slot < 0 ∨ l.S ≤ o.slot)) (hk : o.kind = 3) {i : Nat} (e : slotN (fun i => d[i]!) o.slot d.size = (i : Int)) (hi : i < d.size) (hlv : 0 ≤ d[i]!.lv ∧ d[i]!.lv ≤ 50) (hup : ¬ d[i]!.lv + 1 < l.lev)  : Go.Eng.Fn Tryz.prog 17 [.pointer (some ⟨pb, 0, none⟩), .agg #[.int .i64 o.kind, .int .i64 o.slot, .int .i64 o.u, .int .i64 o.v]] [pt pb (.cells #[.int .i64 l.V, .int .i64 l.S, .int .i64 l.T, .pointer (some ⟨ab, 0, none⟩), .int .i64 l.V, .int .i64 l.S, .int .i64 l.T, .iface 107 (.agg #[.pointer (some ⟨ab, 0, none⟩)]), .int .i64 1, .int .i64 0, .int .i64 l.V, .int .i64 l.S, .int .i64 l.T, .iface 107 (.agg #[.pointer (some ⟨ab, 0, none⟩)]), v] 54), arenaA ab mb 149 110 (σ), ownA encE 5 65 v d] (fun x Bs => x = .tuple #[] ∧ ∃ v2, Bs = [pt pb (.cells #[.int .i64 l.V, .int .i64 l.S, .int .i64 l.T, .pointer (some ⟨ab, 0, none⟩), .int .i64 l.V, .int .i64 l.S, .int .i64 l.T, .iface 107 (.agg #[.pointer (some ⟨ab, 0, none⟩)]), .int .i64 1, .int .i64 0, .int .i64 l.V, .int .i64 l.S, .int .i64 l.T, .iface 107 (.agg #[.pointer (some ⟨ab, 0, none⟩)]), v2] 54), arenaA ab mb 149 110 (σ), ownA encE 5 65 v2 (d)]) := by
  refine Fn.enter (Tryz.func17) rfl rfl (fun w0 R => ?_)
  refine TC.seq (TC.region ?_)
  refine TL.boxA 3 rfl rfl rfl (fun _ => trivial) (fun bk3 => ?_)
  refine TL.done (TQ.then (TC.seq (TC.region ?_)))
  refine TL.mv (.pointer (some ⟨_, _, none⟩)) rfl rfl rfl ?_
  refine TL.nc rfl rfl rfl ?_
  refine TL.fa 0 rfl fc_f54_0_0 rfl rfl ?_
  refine TL.ldA 0 3 [_, _, _] rfl rfl rfl fc_a23_3 rfl rfl ?_
  refine TL.alloc 4 (cs := #[.int .i64 0, .int .i64 0, .int .i64 0]) fc_z23 rfl rfl rfl (fun _ => trivial) (fun bk4 => ?_)
  refine TL.stW 4 3 [_, _, _] rfl rfl rfl rfl rfl rfl fc_a23_3 rfl rfl trivial ?_
  refine TL.done (TQ.then (TC.seq (TC.seq (TC.region ?_))))
  refine TL.fa 2 rfl fc_f33_2_2 rfl rfl ?_
  refine TL.ld 3 (.int _ _) rfl rfl rfl fc_s3 rfl rfl ?_
  refine TL.fa 3 rfl fc_f33_3_3 rfl rfl ?_
  refine TL.ld 3 (.int _ _) rfl rfl rfl fc_s3 rfl rfl ?_
  refine TL.eqlF rfl rfl (by omega) rfl rfl ?_
  refine TL.mv (.bool false) rfl rfl rfl ?_
  refine TL.fa 2 rfl fc_f33_2_2 rfl rfl ?_
  refine TL.ld 3 (.int _ _) rfl rfl rfl fc_s3 rfl rfl ?_
  refine TL.lssF rfl rfl (by omega) rfl rfl ?_
  refine TL.pickF (.bool false) rfl rfl rfl rfl ?_
  refine TL.mv (.bool false) rfl rfl rfl ?_
  refine TL.fa 2 rfl fc_f33_2_2 rfl rfl ?_
  refine TL.ld 3 (.int _ _) rfl rfl rfl fc_s3 rfl rfl ?_
  refine TL.fa 0 rfl fc_f23_0_0 rfl rfl ?_
  refine TL.ld 4 (.int _ _) rfl rfl rfl fc_s3 rfl rfl ?_
  refine TL.geqF rfl rfl (by omega) rfl rfl ?_
  refine TL.pickF (.bool false) rfl rfl rfl rfl ?_
  refine TL.mv (.bool false) rfl rfl rfl ?_
  refine TL.fa 3 rfl fc_f33_3_3 rfl rfl ?_
  refine TL.ld 3 (.int _ _) rfl rfl rfl fc_s3 rfl rfl ?_
  refine TL.lssF rfl rfl (by omega) rfl rfl ?_
  refine TL.pickF (.bool false) rfl rfl rfl rfl ?_
  refine TL.mv (.bool false) rfl rfl rfl ?_
  refine TL.fa 3 rfl fc_f33_3_3 rfl rfl ?_
  refine TL.ld 3 (.int _ _) rfl rfl rfl fc_s3 rfl rfl ?_
  refine TL.fa 0 rfl fc_f23_0_0 rfl rfl ?_
  refine TL.ld 4 (.int _ _) rfl rfl rfl fc_s3 rfl rfl ?_
  refine TL.geqF rfl rfl (by omega) rfl rfl ?_
  refine TL.pickF (.bool false) rfl rfl rfl rfl ?_
  refine TL.mv (.bool false) rfl rfl rfl ?_
  refine TL.fa 1 rfl fc_f33_1_1 rfl rfl ?_
  refine TL.ld 3 (.int _ _) rfl rfl rfl fc_s3 rfl rfl ?_
  refine TL.lssF rfl rfl (by omega) rfl rfl ?_
  refine TL.pickF (.bool false) rfl rfl rfl rfl ?_
  refine TL.mv (.bool false) rfl rfl rfl ?_
  refine TL.fa 1 rfl fc_f33_1_1 rfl rfl ?_
  refine TL.ld 3 (.int _ _) rfl rfl rfl fc_s3 rfl rfl ?_
  refine TL.fa 1 rfl fc_f23_1_1 rfl rfl ?_
  refine TL.ld 4 (.int _ _) rfl rfl rfl fc_s3 rfl rfl ?_
  refine TL.geqF rfl rfl (by omega) rfl rfl ?_
  refine TL.pickF (.bool false) rfl rfl rfl rfl ?_
  refine TL.done (TQ.then (TC.condF rfl (TC.skip (TQ.then (TC.seq (TC.region ?_))))))
  refine TL.mv (.pointer (some ⟨_, _, none⟩)) rfl rfl rfl ?_
  refine TL.fa 1 rfl fc_f33_1_1 rfl rfl ?_
  refine TL.ld 3 (.int _ _) rfl rfl rfl fc_s3 rfl rfl ?_
  refine TL.callD [0, 2] [0, 2] (slot13_ok hl hd) ⟨rfl, rfl, trivial⟩ ⟨rfl, rfl, trivial⟩ fc_c23 rfl rfl rfl rfl rfl trivial ?_
  rw [e]
  refine TL.asg (.int _ _) rfl rfl rfl ?_
  refine TL.done (TQ.then (TC.block (TC.seq (TC.region ?_))))
  refine TL.fa 0 rfl fc_f33_0_0 rfl rfl ?_
  refine TL.ld 3 (.int _ _) rfl rfl rfl fc_s3 rfl rfl ?_
  refine TL.eqlF rfl rfl (by omega) rfl rfl ?_
  refine TL.mv (.bool false) rfl rfl rfl ?_
  refine TL.off rfl rfl ?_
  refine TL.off rfl rfl ?_
  refine TL.pickF (.bool false) rfl rfl rfl rfl ?_
  refine TL.asg (.bool false) rfl rfl rfl ?_
  refine TL.done (TQ.then (TC.condF rfl (TC.seq (TC.region ?_))))
  refine TL.fa 0 rfl fc_f33_0_0 rfl rfl ?_
  refine TL.ld 3 (.int _ _) rfl rfl rfl fc_s3 rfl rfl ?_
  refine TL.eqlF rfl rfl (by omega) rfl rfl ?_
  refine TL.mv (.bool false) rfl rfl rfl ?_
  refine TL.off rfl rfl ?_
  refine TL.off rfl rfl ?_
  refine TL.pickF (.bool false) rfl rfl rfl rfl ?_
  refine TL.asg (.bool false) rfl rfl rfl ?_
  refine TL.done (TQ.then (TC.condF rfl (TC.seq ?_)))
  refine TC.ownW 2 rfl (fun a9 g9 c9 hv9 hc9 ha9 => ?_)
  cases hv9
  obtain rfl := ha9 (by omega)
  refine TC.draw [(0, true), (1, true), (2, true), (3, true), (4, true), (5, true), (6, true), (7, true), (8, true), (9, true), (10, true), (11, true), (12, true), (13, true), (14, true), (15, true), (16, true), (17, true), (18, false), (19, true), (20, true), (21, true)] [0, 2, 3, 4] fc_m (by kernel_rfl) ?_
  refine TL.fa 0 rfl fc_f33_0_0 rfl rfl ?_
  refine TL.ld 3 (.int _ _) rfl rfl rfl fc_s3 rfl rfl ?_
  refine TL.eqlT rfl rfl (by omega) rfl rfl ?_
  refine TL.mv (.bool true) rfl rfl rfl ?_
  refine TL.mv (.int _ _) rfl rfl rfl ?_
  refine TL.geqT rfl rfl (by omega) rfl rfl ?_
  refine TL.pickT (.bool true) rfl rfl rfl rfl ?_
  refine TL.mv (.bool true) rfl rfl rfl ?_
  refine TL.mv (.pointer (some ⟨_, _, none⟩)) rfl rfl rfl ?_
  refine TL.nc rfl rfl rfl ?_
  refine TL.fa 14 rfl fc_f54_3_14 rfl rfl ?_
  refine TL.ld 0 _ rfl rfl rfl fc_s52 rfl rfl ?_
  refine TL.mv (.int _ _) rfl rfl rfl ?_
  refine TL.iaO rfl ha9 rfl fc_l52_65_5 (by omega) rfl rfl ?_
  refine TL.fa 3 rfl fc_f65_3_3 rfl rfl ?_
  refine TL.ldRF 2 (.int _ _) rfl rfl (own_rowOf ha9) (by omega) (encE_ok _).1 rfl fc_s3 rfl rfl ?_
  refine TL.add _ rfl rfl (wr64 (by omega)) rfl rfl ?_
  refine TL.ldA 4 3 [_, _, _] rfl rfl rfl fc_a23_3 rfl rfl ?_
  refine TL.callD [] [] (levels_ok hl) ⟨rfl, trivial⟩ trivial fc_c19 rfl rfl rfl rfl rfl (.cons rfl rfl (.cons rfl rfl (.cons rfl rfl (.cons rfl rfl trivial)))) ?_
  refine TL.lssF rfl rfl (by omega) rfl rfl ?_
  refine TL.pickT (.bool false) rfl rfl rfl rfl ?_
  refine TL.asg (.bool false) rfl rfl rfl ?_
  refine TL.done (TQ.then (TC.condF rfl (TC.skip (TQ.inBlock ?_))))
  refine FQ.end0 (Bs := [_, _, _]) [0, 1, 2] rfl rfl ⟨rfl, rfl, rfl, trivial⟩ ?_
  exact ⟨rfl, _, rfl⟩

set_option maxHeartbeats 1000000 in
theorem step_n5 {pb ab mb : Nat} {σ : M} {v : Value} {d : Array EdR} {l : Lay} (hl : l.Ok) (hd : d.size ≤ 100) {o : OpR} (hv : ¬ (o.u = o.v ∨ o.u < 0 ∨ l.V ≤ o.u ∨ o.v < 0 ∨ l.V ≤ o.v ∨ o.slot < 0 ∨ l.S ≤ o.slot)) (hk : ¬ (o.kind = 1 ∨ o.kind = 2 ∨ o.kind = 3))  : Go.Eng.Fn Tryz.prog 17 [.pointer (some ⟨pb, 0, none⟩), .agg #[.int .i64 o.kind, .int .i64 o.slot, .int .i64 o.u, .int .i64 o.v]] [pt pb (.cells #[.int .i64 l.V, .int .i64 l.S, .int .i64 l.T, .pointer (some ⟨ab, 0, none⟩), .int .i64 l.V, .int .i64 l.S, .int .i64 l.T, .iface 107 (.agg #[.pointer (some ⟨ab, 0, none⟩)]), .int .i64 1, .int .i64 0, .int .i64 l.V, .int .i64 l.S, .int .i64 l.T, .iface 107 (.agg #[.pointer (some ⟨ab, 0, none⟩)]), v] 54), arenaA ab mb 149 110 (σ), ownA encE 5 65 v d] (fun x Bs => x = .tuple #[] ∧ ∃ v2, Bs = [pt pb (.cells #[.int .i64 l.V, .int .i64 l.S, .int .i64 l.T, .pointer (some ⟨ab, 0, none⟩), .int .i64 l.V, .int .i64 l.S, .int .i64 l.T, .iface 107 (.agg #[.pointer (some ⟨ab, 0, none⟩)]), .int .i64 1, .int .i64 0, .int .i64 l.V, .int .i64 l.S, .int .i64 l.T, .iface 107 (.agg #[.pointer (some ⟨ab, 0, none⟩)]), v2] 54), arenaA ab mb 149 110 (σ), ownA encE 5 65 v2 (d)]) := by
  refine Fn.enter (Tryz.func17) rfl rfl (fun w0 R => ?_)
  refine TC.seq (TC.region ?_)
  refine TL.boxA 3 rfl rfl rfl (fun _ => trivial) (fun bk3 => ?_)
  refine TL.done (TQ.then (TC.seq (TC.region ?_)))
  refine TL.mv (.pointer (some ⟨_, _, none⟩)) rfl rfl rfl ?_
  refine TL.nc rfl rfl rfl ?_
  refine TL.fa 0 rfl fc_f54_0_0 rfl rfl ?_
  refine TL.ldA 0 3 [_, _, _] rfl rfl rfl fc_a23_3 rfl rfl ?_
  refine TL.alloc 4 (cs := #[.int .i64 0, .int .i64 0, .int .i64 0]) fc_z23 rfl rfl rfl (fun _ => trivial) (fun bk4 => ?_)
  refine TL.stW 4 3 [_, _, _] rfl rfl rfl rfl rfl rfl fc_a23_3 rfl rfl trivial ?_
  refine TL.done (TQ.then (TC.seq (TC.seq (TC.region ?_))))
  refine TL.fa 2 rfl fc_f33_2_2 rfl rfl ?_
  refine TL.ld 3 (.int _ _) rfl rfl rfl fc_s3 rfl rfl ?_
  refine TL.fa 3 rfl fc_f33_3_3 rfl rfl ?_
  refine TL.ld 3 (.int _ _) rfl rfl rfl fc_s3 rfl rfl ?_
  refine TL.eqlF rfl rfl (by omega) rfl rfl ?_
  refine TL.mv (.bool false) rfl rfl rfl ?_
  refine TL.fa 2 rfl fc_f33_2_2 rfl rfl ?_
  refine TL.ld 3 (.int _ _) rfl rfl rfl fc_s3 rfl rfl ?_
  refine TL.lssF rfl rfl (by omega) rfl rfl ?_
  refine TL.pickF (.bool false) rfl rfl rfl rfl ?_
  refine TL.mv (.bool false) rfl rfl rfl ?_
  refine TL.fa 2 rfl fc_f33_2_2 rfl rfl ?_
  refine TL.ld 3 (.int _ _) rfl rfl rfl fc_s3 rfl rfl ?_
  refine TL.fa 0 rfl fc_f23_0_0 rfl rfl ?_
  refine TL.ld 4 (.int _ _) rfl rfl rfl fc_s3 rfl rfl ?_
  refine TL.geqF rfl rfl (by omega) rfl rfl ?_
  refine TL.pickF (.bool false) rfl rfl rfl rfl ?_
  refine TL.mv (.bool false) rfl rfl rfl ?_
  refine TL.fa 3 rfl fc_f33_3_3 rfl rfl ?_
  refine TL.ld 3 (.int _ _) rfl rfl rfl fc_s3 rfl rfl ?_
  refine TL.lssF rfl rfl (by omega) rfl rfl ?_
  refine TL.pickF (.bool false) rfl rfl rfl rfl ?_
  refine TL.mv (.bool false) rfl rfl rfl ?_
  refine TL.fa 3 rfl fc_f33_3_3 rfl rfl ?_
  refine TL.ld 3 (.int _ _) rfl rfl rfl fc_s3 rfl rfl ?_
  refine TL.fa 0 rfl fc_f23_0_0 rfl rfl ?_
  refine TL.ld 4 (.int _ _) rfl rfl rfl fc_s3 rfl rfl ?_
  refine TL.geqF rfl rfl (by omega) rfl rfl ?_
  refine TL.pickF (.bool false) rfl rfl rfl rfl ?_
  refine TL.mv (.bool false) rfl rfl rfl ?_
  refine TL.fa 1 rfl fc_f33_1_1 rfl rfl ?_
  refine TL.ld 3 (.int _ _) rfl rfl rfl fc_s3 rfl rfl ?_
  refine TL.lssF rfl rfl (by omega) rfl rfl ?_
  refine TL.pickF (.bool false) rfl rfl rfl rfl ?_
  refine TL.mv (.bool false) rfl rfl rfl ?_
  refine TL.fa 1 rfl fc_f33_1_1 rfl rfl ?_
  refine TL.ld 3 (.int _ _) rfl rfl rfl fc_s3 rfl rfl ?_
  refine TL.fa 1 rfl fc_f23_1_1 rfl rfl ?_
  refine TL.ld 4 (.int _ _) rfl rfl rfl fc_s3 rfl rfl ?_
  refine TL.geqF rfl rfl (by omega) rfl rfl ?_
  refine TL.pickF (.bool false) rfl rfl rfl rfl ?_
  refine TL.done (TQ.then (TC.condF rfl (TC.skip (TQ.then (TC.seq (TC.region ?_))))))
  refine TL.mv (.pointer (some ⟨_, _, none⟩)) rfl rfl rfl ?_
  refine TL.fa 1 rfl fc_f33_1_1 rfl rfl ?_
  refine TL.ld 3 (.int _ _) rfl rfl rfl fc_s3 rfl rfl ?_
  refine TL.callD [0, 2] [0, 2] (slot13_ok hl hd) ⟨rfl, rfl, trivial⟩ ⟨rfl, rfl, trivial⟩ fc_c23 rfl rfl rfl rfl rfl trivial ?_
  refine TL.asg (.int _ _) rfl rfl rfl ?_
  refine TL.done (TQ.then (TC.block (TC.seq (TC.region ?_))))
  refine TL.fa 0 rfl fc_f33_0_0 rfl rfl ?_
  refine TL.ld 3 (.int _ _) rfl rfl rfl fc_s3 rfl rfl ?_
  refine TL.eqlF rfl rfl (by omega) rfl rfl ?_
  refine TL.mv (.bool false) rfl rfl rfl ?_
  refine TL.off rfl rfl ?_
  refine TL.off rfl rfl ?_
  refine TL.pickF (.bool false) rfl rfl rfl rfl ?_
  refine TL.asg (.bool false) rfl rfl rfl ?_
  refine TL.done (TQ.then (TC.condF rfl (TC.seq (TC.region ?_))))
  refine TL.fa 0 rfl fc_f33_0_0 rfl rfl ?_
  refine TL.ld 3 (.int _ _) rfl rfl rfl fc_s3 rfl rfl ?_
  refine TL.eqlF rfl rfl (by omega) rfl rfl ?_
  refine TL.mv (.bool false) rfl rfl rfl ?_
  refine TL.off rfl rfl ?_
  refine TL.off rfl rfl ?_
  refine TL.pickF (.bool false) rfl rfl rfl rfl ?_
  refine TL.asg (.bool false) rfl rfl rfl ?_
  refine TL.done (TQ.then (TC.condF rfl (TC.seq ?_)))
  refine TC.draw [(0, true), (1, true), (2, true), (3, true), (4, true), (5, true), (6, true), (7, true), (8, true), (9, true), (10, true), (11, true), (12, true), (13, true), (14, true), (15, true), (16, true), (17, true), (18, false), (19, true), (20, true), (21, true)] [0, 3, 4] fc_m (by kernel_rfl) ?_
  refine TL.fa 0 rfl fc_f33_0_0 rfl rfl ?_
  refine TL.ld 3 (.int _ _) rfl rfl rfl fc_s3 rfl rfl ?_
  refine TL.eqlF rfl rfl (by omega) rfl rfl ?_
  refine TL.mv (.bool false) rfl rfl rfl ?_
  refine TL.off rfl rfl ?_
  refine TL.off rfl rfl ?_
  refine TL.pickF (.bool false) rfl rfl rfl rfl ?_
  refine TL.mv (.bool false) rfl rfl rfl ?_
  refine TL.off rfl rfl ?_
  refine TL.off rfl rfl ?_
  refine TL.off rfl rfl ?_
  refine TL.off rfl rfl ?_
  refine TL.off rfl rfl ?_
  refine TL.off rfl rfl ?_
  refine TL.off rfl rfl ?_
  refine TL.off rfl rfl ?_
  refine TL.off rfl rfl ?_
  refine TL.off rfl rfl ?_
  refine TL.off rfl rfl ?_
  refine TL.off rfl rfl ?_
  refine TL.pickF (.bool false) rfl rfl rfl rfl ?_
  refine TL.asg (.bool false) rfl rfl rfl ?_
  refine TL.done (TQ.then (TC.condF rfl (TC.skip (TQ.inBlock ?_))))
  refine FQ.end0 (Bs := [_, _, _]) [0, 1, 2] rfl rfl ⟨rfl, rfl, rfl, trivial⟩ ?_
  exact ⟨rfl, _, rfl⟩

theorem begun13_ok {l : Lay} (hl : l.Ok) {da oa : Option Addr} {dn dc on oc : Nat} {Ad : Assn} {bd offd : Nat} {fd : Nat → Int} (hda : 0 < dn → da = some ⟨bd, offd, none⟩) (hAd : RowOf Ad encU 1 bd offd dn fd) (hfd : ∀ i, i < dn → 0 ≤ fd i ∧ fd i < 18446744073709551616) (hdn : dn ≤ 1000)  : Go.Eng.Fn Tryz.prog 16 [.agg #[.int .i64 l.V, .int .i64 l.S, .int .i64 l.T, .slice da dn dc, .slice oa on oc]] [Ad] (fun x Bs => ∃ pb ab mb, x = .pointer (some ⟨pb, 0, none⟩) ∧ Bs = [Ad, pt pb (.cells #[.int .i64 l.V, .int .i64 l.S, .int .i64 l.T, .pointer (some ⟨ab, 0, none⟩), .int .i64 l.V, .int .i64 l.S, .int .i64 l.T, .iface 107 (.agg #[.pointer (some ⟨ab, 0, none⟩)]), .int .i64 1, .int .i64 0, .int .i64 l.V, .int .i64 l.S, .int .i64 l.T, .iface 107 (.agg #[.pointer (some ⟨ab, 0, none⟩)]), .slice none 0 0] 54), arenaA ab mb 149 110 (bornF l dn fd l.nodes.toNat (Array.replicate l.cells.toNat 0)), ownA encE 5 65 (.slice none 0 0) #[]]) := by
  obtain ⟨N, hN⟩ : ∃ N : Nat, l.cells = (N : Int) := ⟨l.cells.toNat, by have := cells_b hl; have := nodes_b hl; have := lay_b hl; have := ord_b hl; omega⟩
  have hN2 : l.cells.toNat = N := by omega
  have hcb := cells_b hl
  have hnb := nodes_b hl
  refine Fn.enter (Tryz.func16) rfl rfl (fun w0 R => ?_)
  refine TC.seq (TC.region ?_)
  refine TL.boxA 1 rfl rfl rfl (fun _ => trivial) (fun bk1 => ?_)
  refine TL.asg (.pointer none) rfl rfl rfl ?_
  refine TL.done (TQ.then (TC.seq (TC.region ?_)))
  refine TL.fa 0 rfl fc_f27_0_0 rfl rfl ?_
  refine TL.ldA 1 3 [_, _, _] rfl rfl rfl fc_a23_3 rfl rfl ?_
  refine TL.alloc 2 (cs := #[.int .i64 0, .int .i64 0, .int .i64 0]) fc_z23 rfl rfl rfl (fun _ => trivial) (fun bk2 => ?_)
  refine TL.stW 2 3 [_, _, _] rfl rfl rfl rfl rfl rfl fc_a23_3 rfl rfl trivial ?_
  refine TL.done (TQ.then (TC.seq (TC.region ?_)))
  refine TL.ldA 2 3 [_, _, _] rfl rfl rfl fc_a23_3 rfl rfl ?_
  refine TL.callD [] [] (cells_ok hl) ⟨rfl, trivial⟩ trivial fc_c51 rfl rfl rfl rfl rfl trivial ?_
  rw [hN]
  refine TL.call [] [3] (anew_ok (by omega)) ⟨rfl, trivial⟩ trivial fc_c50 rfl rfl rfl rfl ?_
  rintro v Bs ⟨ab, mb, rfl, rfl⟩
  refine ⟨rfl, trivial, ?_⟩
  rw [← hN2]
  refine TL.mv (.tuple _) rfl rfl rfl ?_
  refine TL.ext (.pointer (some ⟨_, _, none⟩)) rfl rfl rfl rfl ?_
  refine TL.ext (.int _ _) rfl rfl rfl rfl ?_
  refine TL.asg (.pointer (some ⟨_, _, none⟩)) rfl rfl rfl ?_
  refine TL.asg (.int _ _) rfl rfl rfl ?_
  refine TL.done (TQ.then (TC.seq (TC.seq (TC.region ?_))))
  refine TL.mv (.int _ _) rfl rfl rfl ?_
  refine TL.neqF rfl rfl (by omega) rfl rfl ?_
  refine TL.mv (.bool false) rfl rfl rfl ?_
  refine TL.mv (.pointer (some ⟨_, _, none⟩)) rfl rfl rfl ?_
  refine TL.nilP false rfl rfl fc_p37 rfl rfl rfl ?_
  refine TL.pickF (.bool false) rfl rfl rfl rfl ?_
  refine TL.done (TQ.then (TC.condF rfl (TC.skip (TQ.then (TC.seq ?_)))))
  refine TC.drawB [0, 1, 4] 2 6 [(3, true), (5, true), (6, false), (7, false)] [(2, false), (3, true), (5, true), (7, false)] [2] fc_m (by kernel_rfl) ?_
  refine TL.ldA 2 3 [_, _, _] rfl rfl rfl fc_a23_3 rfl rfl ?_
  refine TL.mv (.pointer (some ⟨_, _, none⟩)) rfl rfl rfl ?_
  refine TL.bld [.int .i64 0, .int .i64 0] [(.int _ _)] [_, _] fc_z41 fc_q41 ⟨rfl, trivial⟩ ⟨rfl, rfl⟩ rfl rfl ?_
  refine TL.branch ?_ ?_
  refine TL.callD [] [] memof_ok ⟨rfl, trivial⟩ trivial fc_c52 rfl rfl rfl rfl rfl (.cons rfl rfl trivial) ?_
  refine TL.miN (v := (.agg _)) rfl fc_n107 rfl rfl ?_
  refine TL.bld [.int .i64 0, .int .i64 0, .int .i64 0, .nilIface, .int .i64 0, .int .i64 0] [(.agg _), (.iface _ _), (.agg _)] [_, _, _, _, _, _] fc_z43 fc_q43 ⟨rfl, rfl, rfl, trivial⟩ ⟨rfl, rfl⟩ rfl rfl ?_
  refine TL.alloc 4 (cs := #[.int .i64 0, .int .i64 0, .int .i64 0, .nilIface, .int .i64 0, .int .i64 0]) fc_z43 rfl rfl rfl (fun _ => (.cons rfl rfl trivial)) (fun bk4 => ?_)
  refine TL.stW 4 6 [_, _, _, _, _, _] rfl rfl rfl rfl rfl rfl fc_a43_6 rfl rfl (.cons rfl rfl trivial) ?_
  refine TL.done (TQ.then (TC.seq (TC.seq (TC.region ?_))))
  refine TL.asg (.int _ _) rfl rfl rfl ?_
  refine TL.done (TQ.then (TC.block ?_))
  refine TC.loopK (X := Nat) [1, 2, 3, 4, 6] [0, 1, 2, 4] (fun x => [(7, .int .i64 ((x + 1 : Nat) : Int))]) (fun x => [(3, arenaA ab mb 149 110 (bornF l dn fd x (Array.replicate l.cells.toNat 0)))]) (fun x => (x : Int) ≤ l.nodes) (fun x => l.nodes.toNat - x) (0) (by omega) ⟨rfl, trivial⟩ ⟨rfl, trivial⟩ (fun x hI => ?_)
  refine TC.sub (env' := [(7, _), (1, _), (2, _), (3, _), (4, _), (6, _)]) (L' := [(3, _), (0, _), (1, _), (2, _), (4, _)]) ⟨rfl, rfl, rfl, rfl, rfl, rfl, trivial⟩ ⟨rfl, rfl, rfl, rfl, rfl, trivial⟩ ?_
  refine TC.seq (TC.seq (TC.region ?_))
  refine TL.mv (.int _ _) rfl rfl rfl ?_
  refine TL.ldA 2 3 [_, _, _] rfl rfl rfl fc_a23_3 rfl rfl ?_
  refine TL.callD [] [] (nodes_ok hl) ⟨rfl, trivial⟩ trivial fc_c53 rfl rfl rfl rfl rfl trivial ?_
  refine TL.leq rfl rfl rfl rfl (fun q1 => ?_) (fun q1 => ?_)
  refine TL.done (TQ.then (TC.condT rfl (TC.skip (TQ.then (TC.seq (TC.block (TC.seq ?_)))))))
  refine TC.seq (TC.region ?_)
  refine TL.fa 3 rfl fc_f27_1_3 rfl rfl ?_
  refine TL.ld 1 (.slice _ _ _) rfl rfl rfl fc_s24 rfl rfl ?_
  refine TL.lenS rfl fc_l24_110_1 rfl rfl ?_
  refine TL.gtr rfl rfl rfl rfl (fun q2 => ?_) (fun q2 => ?_)
  refine TL.done (TQ.then (TC.condT rfl ?_))
  refine TC.draw [(0, true), (1, true), (2, true), (4, true), (5, true), (6, true), (7, true), (8, true), (9, true), (10, true), (11, true), (12, true), (3, false), (13, false)] [0, 1, 2] fc_m (by kernel_rfl) ?_
  refine TL.mv (.pointer (some ⟨_, _, none⟩)) rfl rfl rfl ?_
  refine TL.ldA 2 3 [_, _, _] rfl rfl rfl fc_a23_3 rfl rfl ?_
  refine TL.mv (.int _ _) rfl rfl rfl ?_
  refine TL.fa 3 rfl fc_f27_1_3 rfl rfl ?_
  refine TL.ld 1 (.slice _ _ _) rfl rfl rfl fc_s24 rfl rfl ?_
  refine TL.mv (.int _ _) rfl rfl rfl ?_
  refine TL.fa 3 rfl fc_f27_1_3 rfl rfl ?_
  refine TL.ld 1 (.slice _ _ _) rfl rfl rfl fc_s24 rfl rfl ?_
  refine TL.lenS rfl fc_l24_110_1 rfl rfl ?_
  refine TL.rem ((((x + 1) % dn : Nat) : Int)) rfl rfl (by omega) (by rw [Int.tmod_eq_emod_of_nonneg (by omega)]; exact (Int.natCast_emod (x + 1) dn).symm) rfl rfl ?_
  refine TL.iaO rfl hda rfl fc_l24_110_1 (Nat.mod_lt _ (by omega)) rfl rfl ?_
  refine TL.ldRS 0 (.int _ _) rfl rfl hAd (Nat.mod_lt _ (by omega)) rfl fc_s110 rfl rfl ?_
  refine TL.callD [] [] (field_ok hl) ⟨rfl, rfl, rfl, trivial⟩ trivial fc_c55 rfl rfl rfl rfl rfl (.cons rfl rfl (.cons rfl rfl (.cons rfl rfl trivial))) ?_
  refine TL.callD [3] [3] (astore_ok (hfd _ (Nat.mod_lt _ (by omega)))) ⟨rfl, rfl, rfl, trivial⟩ ⟨rfl, trivial⟩ fc_c54 rfl rfl rfl rfl rfl (.cons rfl rfl (.cons rfl rfl (.cons rfl rfl trivial))) ?_
  refine TL.done (TQ.then (TC.region ?_))
  refine TL.ldA 4 6 [_, _, _, _, _, _] rfl rfl rfl fc_a43_6 rfl rfl ?_
  refine TL.mv (.int _ _) rfl rfl rfl ?_
  refine TL.callD [3] [3] (alone_ok (p := P1) plainM hl) ⟨rfl, rfl, trivial⟩ ⟨rfl, trivial⟩ fc_c56 rfl rfl rfl rfl rfl trivial ?_
  refine TL.done (TQ.inBlock (TQ.then (TC.region ?_)))
  refine TL.mv (.int _ _) rfl rfl rfl ?_
  refine TL.add (((x + 2 : Nat) : Int)) rfl rfl (wrN (by omega)) rfl rfl ?_
  refine TL.asg (.int _ _) rfl rfl rfl ?_
  refine TL.done ?_
  refine TQ.roundK (x + 1) ⟨(by omega), (by omega)⟩ ⟨rfl, trivial⟩ ⟨congrArg (fun z => some (arenaA ab mb 149 110 (z))) (bornF_pos (by omega)), trivial⟩ (.cons rfl rfl (.cons rfl rfl (.cons rfl rfl (.cons rfl rfl (.cons rfl rfl trivial))))) (.cons rfl rfl (.cons rfl rfl (.cons rfl rfl (.cons rfl rfl trivial))))
  refine TL.done (TQ.then (TC.condF rfl (TC.skip (TQ.then (TC.region ?_)))))
  refine TL.ldA 4 6 [_, _, _, _, _, _] rfl rfl rfl fc_a43_6 rfl rfl ?_
  refine TL.mv (.int _ _) rfl rfl rfl ?_
  refine TL.callD [3] [3] (alone_ok (p := P1) plainM hl) ⟨rfl, rfl, trivial⟩ ⟨rfl, trivial⟩ fc_c56 rfl rfl rfl rfl rfl trivial ?_
  refine TL.done (TQ.inBlock (TQ.then (TC.region ?_)))
  refine TL.mv (.int _ _) rfl rfl rfl ?_
  refine TL.add (((x + 2 : Nat) : Int)) rfl rfl (wrN (by omega)) rfl rfl ?_
  refine TL.asg (.int _ _) rfl rfl rfl ?_
  refine TL.done ?_
  refine TQ.roundK (x + 1) ⟨(by omega), (by omega)⟩ ⟨rfl, trivial⟩ ⟨congrArg (fun z => some (arenaA ab mb 149 110 (z))) (bornF_zero (by omega)), trivial⟩ (.cons rfl rfl (.cons rfl rfl (.cons rfl rfl (.cons rfl rfl (.cons rfl rfl trivial))))) (.cons rfl rfl (.cons rfl rfl (.cons rfl rfl (.cons rfl rfl trivial))))
  refine TL.done (TQ.then (TC.condF rfl (TC.exit (TQ.thenExit (TQ.thenExit (TQ.blockHere (TQ.then ?_)))))))
  refine TC.seq ?_
  obtain rfl : x = l.nodes.toNat := by omega
  refine TC.nilA 5 (A := ownA encE 5 65 (.slice none 0 0) #[]) (.inl ⟨rfl, rfl⟩) ?_
  refine TC.draw [(0, true), (1, true), (2, true), (3, true), (4, true), (5, true), (6, false), (7, true), (8, true), (9, true), (10, true), (11, true), (12, false), (13, true)] [2, 4] fc_m (by kernel_rfl) ?_
  refine TL.ldA 2 3 [_, _, _] rfl rfl rfl fc_a23_3 rfl rfl ?_
  refine TL.mv (.pointer (some ⟨_, _, none⟩)) rfl rfl rfl ?_
  refine TL.ldA 4 6 [_, _, _, _, _, _] rfl rfl rfl fc_a43_6 rfl rfl ?_
  refine TL.bld [.int .i64 0, .int .i64 0, .int .i64 0, .nilIface, .int .i64 0, .int .i64 0] [(.agg _)] [_, _, _, _, _, _] fc_z45 fc_q45 ⟨rfl, trivial⟩ ⟨rfl, rfl⟩ rfl rfl ?_
  refine TL.ldA 2 3 [_, _, _] rfl rfl rfl fc_a23_3 rfl rfl ?_
  refine TL.mv (.pointer (some ⟨_, _, none⟩)) rfl rfl rfl ?_
  refine TL.callD [] [] memof_ok ⟨rfl, trivial⟩ trivial fc_c52 rfl rfl rfl rfl rfl (.cons rfl rfl (.cons rfl rfl trivial)) ?_
  refine TL.miN (v := (.agg _)) rfl fc_n107 rfl rfl ?_
  refine TL.bld [.int .i64 0, .int .i64 0, .int .i64 0, .nilIface] [(.agg _), (.iface _ _)] [_, _, _, _] fc_z47 fc_q47 ⟨rfl, rfl, trivial⟩ ⟨rfl, rfl⟩ rfl rfl ?_
  refine TL.bld [.int .i64 0, .int .i64 0, .int .i64 0, .nilIface, .int .i64 0, .int .i64 0, .int .i64 0, .int .i64 0, .int .i64 0, .nilIface] [(.agg _), (.agg _)] [_, _, _, _, _, _, _, _, _, _] fc_z49 fc_q49 ⟨rfl, rfl, trivial⟩ ⟨rfl, rfl⟩ rfl rfl ?_
  refine TL.bld [.int .i64 0, .int .i64 0, .int .i64 0, .nilIface, .int .i64 0, .int .i64 0, .int .i64 0, .int .i64 0, .int .i64 0, .nilIface] [(.agg _)] [_, _, _, _, _, _, _, _, _, _] fc_z51 fc_q51 ⟨rfl, trivial⟩ ⟨rfl, rfl⟩ rfl rfl ?_
  refine TL.bld [.int .i64 0, .int .i64 0, .int .i64 0, .pointer none, .int .i64 0, .int .i64 0, .int .i64 0, .nilIface, .int .i64 0, .int .i64 0, .int .i64 0, .int .i64 0, .int .i64 0, .nilIface, .slice none 0 0] [(.agg _), (.pointer (some ⟨_, _, none⟩)), (.agg _)] [_, _, _, _, _, _, _, _, _, _, _, _, _, _, _] fc_z54 fc_q54 ⟨rfl, rfl, rfl, trivial⟩ ⟨rfl, rfl⟩ rfl rfl ?_
  refine TL.boxA 6 rfl rfl rfl (fun _ => (.cons rfl rfl (.cons rfl rfl trivial))) (fun bk6 => ?_)
  refine TL.asg (.pointer (some ⟨_, _, none⟩)) rfl rfl rfl ?_
  refine TL.done (TQ.then (TC.ret ?_))
  refine FQ.ret1 (v := (.pointer (some ⟨_, _, none⟩))) (Bs := [_, _, _, _]) [0, 6, 3, 5] rfl rfl rfl ⟨rfl, rfl, rfl, rfl, trivial⟩ ?_
  exact ⟨_, _, _, rfl, rfl⟩
  refine TL.alloc 7 (cs := #[.int .i64 0, .int .i64 0, .int .i64 0, .nilIface, .int .i64 0, .int .i64 0]) fc_z43 rfl rfl rfl (fun _ => (.cons rfl rfl trivial)) (fun bk7 => ?_)
  refine TL.callD [] [] memof_ok ⟨rfl, trivial⟩ trivial fc_c52 rfl rfl rfl rfl rfl (.cons rfl rfl trivial) ?_
  refine TL.miN (v := (.agg _)) rfl fc_n107 rfl rfl ?_
  refine TL.bld [.int .i64 0, .int .i64 0, .int .i64 0, .nilIface, .int .i64 0, .int .i64 0] [(.agg _), (.iface _ _), (.agg _)] [_, _, _, _, _, _] fc_z43 fc_q43 ⟨rfl, rfl, rfl, trivial⟩ ⟨rfl, rfl⟩ rfl rfl ?_
  refine TL.stW 7 6 [_, _, _, _, _, _] rfl rfl rfl rfl rfl rfl fc_a43_6 rfl rfl (.cons rfl rfl trivial) ?_
  refine TL.done (TQ.then (TC.seq (TC.seq (TC.region ?_))))
  refine TL.asg (.int _ _) rfl rfl rfl ?_
  refine TL.done (TQ.then (TC.block ?_))
  refine TC.loopK (X := Nat) [1, 2, 3, 4, 6] [0, 1, 2, 7] (fun x => [(7, .int .i64 ((x + 1 : Nat) : Int))]) (fun x => [(3, arenaA ab mb 149 110 (bornF l dn fd x (Array.replicate l.cells.toNat 0)))]) (fun x => (x : Int) ≤ l.nodes) (fun x => l.nodes.toNat - x) (0) (by omega) ⟨rfl, trivial⟩ ⟨rfl, trivial⟩ (fun x hI => ?_)
  refine TC.sub (env' := [(7, _), (1, _), (2, _), (3, _), (4, _), (6, _)]) (L' := [(3, _), (0, _), (1, _), (2, _), (7, _)]) ⟨rfl, rfl, rfl, rfl, rfl, rfl, trivial⟩ ⟨rfl, rfl, rfl, rfl, rfl, trivial⟩ ?_
  refine TC.seq (TC.seq (TC.region ?_))
  refine TL.mv (.int _ _) rfl rfl rfl ?_
  refine TL.ldA 2 3 [_, _, _] rfl rfl rfl fc_a23_3 rfl rfl ?_
  refine TL.callD [] [] (nodes_ok hl) ⟨rfl, trivial⟩ trivial fc_c53 rfl rfl rfl rfl rfl trivial ?_
  refine TL.leq rfl rfl rfl rfl (fun q1 => ?_) (fun q1 => ?_)
  refine TL.done (TQ.then (TC.condT rfl (TC.skip (TQ.then (TC.seq (TC.block (TC.seq ?_)))))))
  refine TC.seq (TC.region ?_)
  refine TL.fa 3 rfl fc_f27_1_3 rfl rfl ?_
  refine TL.ld 1 (.slice _ _ _) rfl rfl rfl fc_s24 rfl rfl ?_
  refine TL.lenS rfl fc_l24_110_1 rfl rfl ?_
  refine TL.gtr rfl rfl rfl rfl (fun q2 => ?_) (fun q2 => ?_)
  refine TL.done (TQ.then (TC.condT rfl ?_))
  refine TC.draw [(0, true), (1, true), (2, true), (4, true), (5, true), (6, true), (7, true), (8, true), (9, true), (10, true), (11, true), (12, true), (3, false), (13, false)] [0, 1, 2] fc_m (by kernel_rfl) ?_
  refine TL.mv (.pointer (some ⟨_, _, none⟩)) rfl rfl rfl ?_
  refine TL.ldA 2 3 [_, _, _] rfl rfl rfl fc_a23_3 rfl rfl ?_
  refine TL.mv (.int _ _) rfl rfl rfl ?_
  refine TL.fa 3 rfl fc_f27_1_3 rfl rfl ?_
  refine TL.ld 1 (.slice _ _ _) rfl rfl rfl fc_s24 rfl rfl ?_
  refine TL.mv (.int _ _) rfl rfl rfl ?_
  refine TL.fa 3 rfl fc_f27_1_3 rfl rfl ?_
  refine TL.ld 1 (.slice _ _ _) rfl rfl rfl fc_s24 rfl rfl ?_
  refine TL.lenS rfl fc_l24_110_1 rfl rfl ?_
  refine TL.rem ((((x + 1) % dn : Nat) : Int)) rfl rfl (by omega) (by rw [Int.tmod_eq_emod_of_nonneg (by omega)]; exact (Int.natCast_emod (x + 1) dn).symm) rfl rfl ?_
  refine TL.iaO rfl hda rfl fc_l24_110_1 (Nat.mod_lt _ (by omega)) rfl rfl ?_
  refine TL.ldRS 0 (.int _ _) rfl rfl hAd (Nat.mod_lt _ (by omega)) rfl fc_s110 rfl rfl ?_
  refine TL.callD [] [] (field_ok hl) ⟨rfl, rfl, rfl, trivial⟩ trivial fc_c55 rfl rfl rfl rfl rfl (.cons rfl rfl (.cons rfl rfl (.cons rfl rfl trivial))) ?_
  refine TL.callD [3] [3] (astore_ok (hfd _ (Nat.mod_lt _ (by omega)))) ⟨rfl, rfl, rfl, trivial⟩ ⟨rfl, trivial⟩ fc_c54 rfl rfl rfl rfl rfl (.cons rfl rfl (.cons rfl rfl (.cons rfl rfl trivial))) ?_
  refine TL.done (TQ.then (TC.region ?_))
  refine TL.ldA 7 6 [_, _, _, _, _, _] rfl rfl rfl fc_a43_6 rfl rfl ?_
  refine TL.mv (.int _ _) rfl rfl rfl ?_
  refine TL.callD [3] [3] (alone_ok (p := P1) plainM hl) ⟨rfl, rfl, trivial⟩ ⟨rfl, trivial⟩ fc_c56 rfl rfl rfl rfl rfl trivial ?_
  refine TL.done (TQ.inBlock (TQ.then (TC.region ?_)))
  refine TL.mv (.int _ _) rfl rfl rfl ?_
  refine TL.add (((x + 2 : Nat) : Int)) rfl rfl (wrN (by omega)) rfl rfl ?_
  refine TL.asg (.int _ _) rfl rfl rfl ?_
  refine TL.done ?_
  refine TQ.roundK (x + 1) ⟨(by omega), (by omega)⟩ ⟨rfl, trivial⟩ ⟨congrArg (fun z => some (arenaA ab mb 149 110 (z))) (bornF_pos (by omega)), trivial⟩ (.cons rfl rfl (.cons rfl rfl (.cons rfl rfl (.cons rfl rfl (.cons rfl rfl trivial))))) (.cons rfl rfl (.cons rfl rfl (.cons rfl rfl (.cons rfl rfl trivial))))
  refine TL.done (TQ.then (TC.condF rfl (TC.skip (TQ.then (TC.region ?_)))))
  refine TL.ldA 7 6 [_, _, _, _, _, _] rfl rfl rfl fc_a43_6 rfl rfl ?_
  refine TL.mv (.int _ _) rfl rfl rfl ?_
  refine TL.callD [3] [3] (alone_ok (p := P1) plainM hl) ⟨rfl, rfl, trivial⟩ ⟨rfl, trivial⟩ fc_c56 rfl rfl rfl rfl rfl trivial ?_
  refine TL.done (TQ.inBlock (TQ.then (TC.region ?_)))
  refine TL.mv (.int _ _) rfl rfl rfl ?_
  refine TL.add (((x + 2 : Nat) : Int)) rfl rfl (wrN (by omega)) rfl rfl ?_
  refine TL.asg (.int _ _) rfl rfl rfl ?_
  refine TL.done ?_
  refine TQ.roundK (x + 1) ⟨(by omega), (by omega)⟩ ⟨rfl, trivial⟩ ⟨congrArg (fun z => some (arenaA ab mb 149 110 (z))) (bornF_zero (by omega)), trivial⟩ (.cons rfl rfl (.cons rfl rfl (.cons rfl rfl (.cons rfl rfl (.cons rfl rfl trivial))))) (.cons rfl rfl (.cons rfl rfl (.cons rfl rfl (.cons rfl rfl trivial))))
  refine TL.done (TQ.then (TC.condF rfl (TC.exit (TQ.thenExit (TQ.thenExit (TQ.blockHere (TQ.then ?_)))))))
  refine TC.seq ?_
  obtain rfl : x = l.nodes.toNat := by omega
  refine TC.nilA 8 (A := ownA encE 5 65 (.slice none 0 0) #[]) (.inl ⟨rfl, rfl⟩) ?_
  refine TC.draw [(0, true), (1, true), (2, true), (3, true), (4, true), (5, true), (6, false), (7, true), (8, true), (9, true), (10, true), (11, true), (12, false), (13, true)] [2, 7] fc_m (by kernel_rfl) ?_
  refine TL.ldA 2 3 [_, _, _] rfl rfl rfl fc_a23_3 rfl rfl ?_
  refine TL.mv (.pointer (some ⟨_, _, none⟩)) rfl rfl rfl ?_
  refine TL.ldA 7 6 [_, _, _, _, _, _] rfl rfl rfl fc_a43_6 rfl rfl ?_
  refine TL.bld [.int .i64 0, .int .i64 0, .int .i64 0, .nilIface, .int .i64 0, .int .i64 0] [(.agg _)] [_, _, _, _, _, _] fc_z45 fc_q45 ⟨rfl, trivial⟩ ⟨rfl, rfl⟩ rfl rfl ?_
  refine TL.ldA 2 3 [_, _, _] rfl rfl rfl fc_a23_3 rfl rfl ?_
  refine TL.mv (.pointer (some ⟨_, _, none⟩)) rfl rfl rfl ?_
  refine TL.callD [] [] memof_ok ⟨rfl, trivial⟩ trivial fc_c52 rfl rfl rfl rfl rfl (.cons rfl rfl (.cons rfl rfl trivial)) ?_
  refine TL.miN (v := (.agg _)) rfl fc_n107 rfl rfl ?_
  refine TL.bld [.int .i64 0, .int .i64 0, .int .i64 0, .nilIface] [(.agg _), (.iface _ _)] [_, _, _, _] fc_z47 fc_q47 ⟨rfl, rfl, trivial⟩ ⟨rfl, rfl⟩ rfl rfl ?_
  refine TL.bld [.int .i64 0, .int .i64 0, .int .i64 0, .nilIface, .int .i64 0, .int .i64 0, .int .i64 0, .int .i64 0, .int .i64 0, .nilIface] [(.agg _), (.agg _)] [_, _, _, _, _, _, _, _, _, _] fc_z49 fc_q49 ⟨rfl, rfl, trivial⟩ ⟨rfl, rfl⟩ rfl rfl ?_
  refine TL.bld [.int .i64 0, .int .i64 0, .int .i64 0, .nilIface, .int .i64 0, .int .i64 0, .int .i64 0, .int .i64 0, .int .i64 0, .nilIface] [(.agg _)] [_, _, _, _, _, _, _, _, _, _] fc_z51 fc_q51 ⟨rfl, trivial⟩ ⟨rfl, rfl⟩ rfl rfl ?_
  refine TL.bld [.int .i64 0, .int .i64 0, .int .i64 0, .pointer none, .int .i64 0, .int .i64 0, .int .i64 0, .nilIface, .int .i64 0, .int .i64 0, .int .i64 0, .int .i64 0, .int .i64 0, .nilIface, .slice none 0 0] [(.agg _), (.pointer (some ⟨_, _, none⟩)), (.agg _)] [_, _, _, _, _, _, _, _, _, _, _, _, _, _, _] fc_z54 fc_q54 ⟨rfl, rfl, rfl, trivial⟩ ⟨rfl, rfl⟩ rfl rfl ?_
  refine TL.boxA 9 rfl rfl rfl (fun _ => (.cons rfl rfl (.cons rfl rfl trivial))) (fun bk9 => ?_)
  refine TL.asg (.pointer (some ⟨_, _, none⟩)) rfl rfl rfl ?_
  refine TL.done (TQ.then (TC.ret ?_))
  refine FQ.ret1 (v := (.pointer (some ⟨_, _, none⟩))) (Bs := [_, _, _, _]) [0, 9, 3, 8] rfl rfl rfl ⟨rfl, rfl, rfl, rfl, trivial⟩ ?_
  exact ⟨_, _, _, rfl, rfl⟩

theorem step13_ok {pb ab mb : Nat} {σ : M} {v : Value} {d : Array EdR} {l : Lay} (hl : l.Ok) {pr : Int → Int} {o : OpR} (hR : Rel l pr σ d) : Go.Eng.Fn Tryz.prog 17 [.pointer (some ⟨pb, 0, none⟩), .agg #[.int .i64 o.kind, .int .i64 o.slot, .int .i64 o.u, .int .i64 o.v]] [pt pb (.cells #[.int .i64 l.V, .int .i64 l.S, .int .i64 l.T, .pointer (some ⟨ab, 0, none⟩), .int .i64 l.V, .int .i64 l.S, .int .i64 l.T, .iface 107 (.agg #[.pointer (some ⟨ab, 0, none⟩)]), .int .i64 1, .int .i64 0, .int .i64 l.V, .int .i64 l.S, .int .i64 l.T, .iface 107 (.agg #[.pointer (some ⟨ab, 0, none⟩)]), v] 54), arenaA ab mb 149 110 (σ), ownA encE 5 65 v d] (fun x Bs => x = .tuple #[] ∧ ∃ σ2 v2 d2, Bs = [pt pb (.cells #[.int .i64 l.V, .int .i64 l.S, .int .i64 l.T, .pointer (some ⟨ab, 0, none⟩), .int .i64 l.V, .int .i64 l.S, .int .i64 l.T, .iface 107 (.agg #[.pointer (some ⟨ab, 0, none⟩)]), .int .i64 1, .int .i64 0, .int .i64 l.V, .int .i64 l.S, .int .i64 l.T, .iface 107 (.agg #[.pointer (some ⟨ab, 0, none⟩)]), v2] 54), arenaA ab mb 149 110 (σ2), ownA encE 5 65 v2 d2] ∧ Rel l pr σ2 d2) := by
  have hsz := hR.size hl
  have hd : d.size ≤ 100 := by have := hl.2.2.1; omega
  have lb := lev_b hl
  have nop : ∀ {x : Value} {Bs : List Assn}, (x = .tuple #[] ∧ ∃ v2, Bs = [pt pb (.cells #[.int .i64 l.V, .int .i64 l.S, .int .i64 l.T, .pointer (some ⟨ab, 0, none⟩), .int .i64 l.V, .int .i64 l.S, .int .i64 l.T, .iface 107 (.agg #[.pointer (some ⟨ab, 0, none⟩)]), .int .i64 1, .int .i64 0, .int .i64 l.V, .int .i64 l.S, .int .i64 l.T, .iface 107 (.agg #[.pointer (some ⟨ab, 0, none⟩)]), v2] 54), arenaA ab mb 149 110 (σ), ownA encE 5 65 v2 d]) → x = .tuple #[] ∧ ∃ σ2 v2 d2, Bs = [pt pb (.cells #[.int .i64 l.V, .int .i64 l.S, .int .i64 l.T, .pointer (some ⟨ab, 0, none⟩), .int .i64 l.V, .int .i64 l.S, .int .i64 l.T, .iface 107 (.agg #[.pointer (some ⟨ab, 0, none⟩)]), .int .i64 1, .int .i64 0, .int .i64 l.V, .int .i64 l.S, .int .i64 l.T, .iface 107 (.agg #[.pointer (some ⟨ab, 0, none⟩)]), v2] 54), arenaA ab mb 149 110 (σ2), ownA encE 5 65 v2 d2] ∧ Rel l pr σ2 d2 := fun ⟨h1, v2, h2⟩ => ⟨h1, σ, v2, d, h2, hR⟩
  by_cases n0 : o.u = o.v
  · exact (step_x0 hl hd n0).mono fun _ _ => nop
  by_cases n1 : o.u < 0
  · exact (step_x1 hl hd n0 n1).mono fun _ _ => nop
  by_cases n2 : l.V ≤ o.u
  · exact (step_x2 hl hd n0 n1 n2).mono fun _ _ => nop
  by_cases n3 : o.v < 0
  · exact (step_x3 hl hd n0 n1 n2 n3).mono fun _ _ => nop
  by_cases n4 : l.V ≤ o.v
  · exact (step_x4 hl hd n0 n1 n2 n3 n4).mono fun _ _ => nop
  by_cases n5 : o.slot < 0
  · exact (step_x5 hl hd n0 n1 n2 n3 n4 n5).mono fun _ _ => nop
  by_cases n6 : l.S ≤ o.slot
  · exact (step_x6 hl hd n0 n1 n2 n3 n4 n5 n6).mono fun _ _ => nop
  have hv : ¬ (o.u = o.v ∨ o.u < 0 ∨ l.V ≤ o.u ∨ o.v < 0 ∨ l.V ≤ o.v ∨ o.slot < 0 ∨ l.S ≤ o.slot) := by omega
  by_cases hk : ¬ (o.kind = 1 ∨ o.kind = 2 ∨ o.kind = 3)
  · exact (step_n5 hl hd hv hk).mono fun _ _ => nop
  replace hk := Decidable.not_not.1 hk
  rcases slotN_cases (f := fun i => d[i]!) (s := o.slot) (n := d.size) with ⟨e, _⟩ | ⟨i, hi, e, hs⟩
  · rcases hk with hk | hk | hk
    · obtain ⟨σ2, d2, h, hR2⟩ := hR.put hl hv e
      exact (step_p hl hd hv hk e h).mono fun _ _ ⟨h1, v2, h2⟩ => ⟨h1, σ2, v2, d2, h2, hR2⟩
    · exact (step_n2 hl hd hv hk e).mono fun _ _ => nop
    · exact (step_n3 hl hd hv hk e).mono fun _ _ => nop
  · have hr := hR.rng hl hi
    have hlv : 0 ≤ d[i]!.lv ∧ d[i]!.lv ≤ 50 := by omega
    rcases hk with hk | hk | hk
    · exact (step_n1 hl hd hv hk e hi).mono fun _ _ => nop
    · cases ht : d[i]!.tr with
      | true =>
        obtain ⟨σ1, h, hR2⟩ := hR.fell hl hi ht
        rw [hs] at h
        exact (step_dt hl hd hv hk e hi ht h).mono fun _ _ ⟨h1, v2, h2⟩ => ⟨h1, _, v2, _, h2, hR2⟩
      | false =>
        obtain ⟨σ1, h, hR2⟩ := hR.remove hl hi ht
        rw [hs] at h
        exact (step_df hl hd hv hk e hi ht h).mono fun _ _ ⟨h1, v2, h2⟩ => ⟨h1, _, v2, _, h2, hR2⟩
    · by_cases hup : d[i]!.lv + 1 < l.lev
      · cases ht : d[i]!.tr with
        | true =>
          obtain ⟨σ1, h, hR2⟩ := hR.treeUp hl hi ht hup
          rw [hs] at h
          exact (step_lt hl hd hv hk e hi hlv hup ht h).mono fun _ _ ⟨h1, v2, h2⟩ => ⟨h1, _, v2, _, h2, hR2⟩
        | false =>
          obtain ⟨σ1, h, hR2⟩ := hR.plain hl hi ht hup
          rw [hs] at h
          exact (step_lf hl hd hv hk e hi hlv hup ht h).mono fun _ _ ⟨h1, v2, h2⟩ => ⟨h1, _, v2, _, h2, hR2⟩
      · exact (step_n4 hl hd hv hk e hi hlv hup).mono fun _ _ => nop

theorem refRight_ok {V S T : Int} : FnD Tryz.prog 48 [.agg #[.int .i64 V, .int .i64 S, .int .i64 T]] [] (.bool (decide (okL V S T))) [] := by
  refine Fn.enter (Tryz.func48) rfl rfl (fun w0 R => ?_)
  refine TC.seq (TC.region ?_)
  refine TL.boxA 0 rfl rfl rfl (fun _ => trivial) (fun bk0 => ?_)
  refine TL.asg (.bool false) rfl rfl rfl ?_
  refine TL.done (TQ.then (TC.seq (TC.region ?_)))
  refine TL.fa 0 rfl fc_f57_0_0 rfl rfl ?_
  refine TL.ld 0 (.int _ _) rfl rfl rfl fc_s3 rfl rfl ?_
  refine TL.geq rfl rfl rfl rfl (fun q1 => ?_) (fun q1 => ?_)
  refine TL.mv (.bool true) rfl rfl rfl ?_
  refine TL.fa 0 rfl fc_f57_0_0 rfl rfl ?_
  refine TL.ld 0 (.int _ _) rfl rfl rfl fc_s3 rfl rfl ?_
  refine TL.leq rfl rfl rfl rfl (fun q2 => ?_) (fun q2 => ?_)
  refine TL.pickT (.bool true) rfl rfl rfl rfl ?_
  refine TL.mv (.bool true) rfl rfl rfl ?_
  refine TL.fa 1 rfl fc_f57_1_1 rfl rfl ?_
  refine TL.ld 0 (.int _ _) rfl rfl rfl fc_s3 rfl rfl ?_
  refine TL.geq rfl rfl rfl rfl (fun q3 => ?_) (fun q3 => ?_)
  refine TL.pickT (.bool true) rfl rfl rfl rfl ?_
  refine TL.mv (.bool true) rfl rfl rfl ?_
  refine TL.fa 1 rfl fc_f57_1_1 rfl rfl ?_
  refine TL.ld 0 (.int _ _) rfl rfl rfl fc_s3 rfl rfl ?_
  refine TL.leq rfl rfl rfl rfl (fun q4 => ?_) (fun q4 => ?_)
  refine TL.pickT (.bool true) rfl rfl rfl rfl ?_
  refine TL.mv (.bool true) rfl rfl rfl ?_
  refine TL.fa 2 rfl fc_f57_2_2 rfl rfl ?_
  refine TL.ld 0 (.int _ _) rfl rfl rfl fc_s3 rfl rfl ?_
  refine TL.geq rfl rfl rfl rfl (fun q5 => ?_) (fun q5 => ?_)
  refine TL.pickT (.bool true) rfl rfl rfl rfl ?_
  refine TL.mv (.bool true) rfl rfl rfl ?_
  refine TL.fa 2 rfl fc_f57_2_2 rfl rfl ?_
  refine TL.ld 0 (.int _ _) rfl rfl rfl fc_s3 rfl rfl ?_
  refine TL.leqV rfl rfl rfl rfl ?_
  refine TL.pickT (.bool _) rfl rfl rfl rfl ?_
  refine TL.asg (.bool _) rfl rfl rfl ?_
  refine TL.done (TQ.then (TC.ret ?_))
  refine FQ.ret1 (v := (.bool _)) (Bs := []) [] rfl rfl rfl trivial ?_
  first | exact ⟨congrArg Value.bool (by unfold okL; first | (simp [*]; done) | (simp [*]; omega) | (rw [eq_comm, decide_eq_false_iff_not]; omega) | (rw [eq_comm, decide_eq_true_iff]; omega) | (rw [decide_eq_decide]; omega)), rfl⟩
  refine TL.pickT (.bool false) rfl rfl rfl rfl ?_
  refine TL.mv (.bool false) rfl rfl rfl ?_
  refine TL.off rfl rfl ?_
  refine TL.off rfl rfl ?_
  refine TL.off rfl rfl ?_
  refine TL.pickF (.bool false) rfl rfl rfl rfl ?_
  refine TL.asg (.bool false) rfl rfl rfl ?_
  refine TL.done (TQ.then (TC.ret ?_))
  refine FQ.ret1 (v := (.bool false)) (Bs := []) [] rfl rfl rfl trivial ?_
  first | exact ⟨congrArg Value.bool (by unfold okL; first | (simp [*]; done) | (simp [*]; omega) | (rw [eq_comm, decide_eq_false_iff_not]; omega) | (rw [eq_comm, decide_eq_true_iff]; omega) | (rw [decide_eq_decide]; omega)), rfl⟩
  refine TL.pickT (.bool false) rfl rfl rfl rfl ?_
  refine TL.mv (.bool false) rfl rfl rfl ?_
  refine TL.off rfl rfl ?_
  refine TL.off rfl rfl ?_
  refine TL.off rfl rfl ?_
  refine TL.pickF (.bool false) rfl rfl rfl rfl ?_
  refine TL.mv (.bool false) rfl rfl rfl ?_
  refine TL.off rfl rfl ?_
  refine TL.off rfl rfl ?_
  refine TL.off rfl rfl ?_
  refine TL.pickF (.bool false) rfl rfl rfl rfl ?_
  refine TL.asg (.bool false) rfl rfl rfl ?_
  refine TL.done (TQ.then (TC.ret ?_))
  refine FQ.ret1 (v := (.bool false)) (Bs := []) [] rfl rfl rfl trivial ?_
  first | exact ⟨congrArg Value.bool (by unfold okL; first | (simp [*]; done) | (simp [*]; omega) | (rw [eq_comm, decide_eq_false_iff_not]; omega) | (rw [eq_comm, decide_eq_true_iff]; omega) | (rw [decide_eq_decide]; omega)), rfl⟩
  refine TL.pickT (.bool false) rfl rfl rfl rfl ?_
  refine TL.mv (.bool false) rfl rfl rfl ?_
  refine TL.off rfl rfl ?_
  refine TL.off rfl rfl ?_
  refine TL.off rfl rfl ?_
  refine TL.pickF (.bool false) rfl rfl rfl rfl ?_
  refine TL.mv (.bool false) rfl rfl rfl ?_
  refine TL.off rfl rfl ?_
  refine TL.off rfl rfl ?_
  refine TL.off rfl rfl ?_
  refine TL.pickF (.bool false) rfl rfl rfl rfl ?_
  refine TL.mv (.bool false) rfl rfl rfl ?_
  refine TL.off rfl rfl ?_
  refine TL.off rfl rfl ?_
  refine TL.off rfl rfl ?_
  refine TL.pickF (.bool false) rfl rfl rfl rfl ?_
  refine TL.asg (.bool false) rfl rfl rfl ?_
  refine TL.done (TQ.then (TC.ret ?_))
  refine FQ.ret1 (v := (.bool false)) (Bs := []) [] rfl rfl rfl trivial ?_
  first | exact ⟨congrArg Value.bool (by unfold okL; first | (simp [*]; done) | (simp [*]; omega) | (rw [eq_comm, decide_eq_false_iff_not]; omega) | (rw [eq_comm, decide_eq_true_iff]; omega) | (rw [decide_eq_decide]; omega)), rfl⟩
  refine TL.pickT (.bool false) rfl rfl rfl rfl ?_
  refine TL.mv (.bool false) rfl rfl rfl ?_
  refine TL.off rfl rfl ?_
  refine TL.off rfl rfl ?_
  refine TL.off rfl rfl ?_
  refine TL.pickF (.bool false) rfl rfl rfl rfl ?_
  refine TL.mv (.bool false) rfl rfl rfl ?_
  refine TL.off rfl rfl ?_
  refine TL.off rfl rfl ?_
  refine TL.off rfl rfl ?_
  refine TL.pickF (.bool false) rfl rfl rfl rfl ?_
  refine TL.mv (.bool false) rfl rfl rfl ?_
  refine TL.off rfl rfl ?_
  refine TL.off rfl rfl ?_
  refine TL.off rfl rfl ?_
  refine TL.pickF (.bool false) rfl rfl rfl rfl ?_
  refine TL.mv (.bool false) rfl rfl rfl ?_
  refine TL.off rfl rfl ?_
  refine TL.off rfl rfl ?_
  refine TL.off rfl rfl ?_
  refine TL.pickF (.bool false) rfl rfl rfl rfl ?_
  refine TL.asg (.bool false) rfl rfl rfl ?_
  refine TL.done (TQ.then (TC.ret ?_))
  refine FQ.ret1 (v := (.bool false)) (Bs := []) [] rfl rfl rfl trivial ?_
  first | exact ⟨congrArg Value.bool (by unfold okL; first | (simp [*]; done) | (simp [*]; omega) | (rw [eq_comm, decide_eq_false_iff_not]; omega) | (rw [eq_comm, decide_eq_true_iff]; omega) | (rw [decide_eq_decide]; omega)), rfl⟩
  refine TL.mv (.bool false) rfl rfl rfl ?_
  refine TL.off rfl rfl ?_
  refine TL.off rfl rfl ?_
  refine TL.off rfl rfl ?_
  refine TL.pickF (.bool false) rfl rfl rfl rfl ?_
  refine TL.mv (.bool false) rfl rfl rfl ?_
  refine TL.off rfl rfl ?_
  refine TL.off rfl rfl ?_
  refine TL.off rfl rfl ?_
  refine TL.pickF (.bool false) rfl rfl rfl rfl ?_
  refine TL.mv (.bool false) rfl rfl rfl ?_
  refine TL.off rfl rfl ?_
  refine TL.off rfl rfl ?_
  refine TL.off rfl rfl ?_
  refine TL.pickF (.bool false) rfl rfl rfl rfl ?_
  refine TL.mv (.bool false) rfl rfl rfl ?_
  refine TL.off rfl rfl ?_
  refine TL.off rfl rfl ?_
  refine TL.off rfl rfl ?_
  refine TL.pickF (.bool false) rfl rfl rfl rfl ?_
  refine TL.mv (.bool false) rfl rfl rfl ?_
  refine TL.off rfl rfl ?_
  refine TL.off rfl rfl ?_
  refine TL.off rfl rfl ?_
  refine TL.pickF (.bool false) rfl rfl rfl rfl ?_
  refine TL.asg (.bool false) rfl rfl rfl ?_
  refine TL.done (TQ.then (TC.ret ?_))
  refine FQ.ret1 (v := (.bool false)) (Bs := []) [] rfl rfl rfl trivial ?_
  first | exact ⟨congrArg Value.bool (by unfold okL; first | (simp [*]; done) | (simp [*]; omega) | (rw [eq_comm, decide_eq_false_iff_not]; omega) | (rw [eq_comm, decide_eq_true_iff]; omega) | (rw [decide_eq_decide]; omega)), rfl⟩

theorem ref13_ok {V S T : Int} : FnD Tryz.prog 49 [.agg #[.int .i64 V, .int .i64 S, .int .i64 T]] [] (.agg #[.int .i64 V, .int .i64 S, .int .i64 T]) [] := by
  refine Fn.enter (Tryz.func49) rfl rfl (fun w0 R => ?_)
  refine TC.seq (TC.region ?_)
  refine TL.boxA 0 rfl rfl rfl (fun _ => trivial) (fun bk0 => ?_)
  refine TL.alloc 1 (cs := #[.int .i64 0, .int .i64 0, .int .i64 0]) fc_z57 rfl rfl rfl (fun _ => trivial) (fun bk1 => ?_)
  refine TL.done (TQ.then (TC.seq (TC.region ?_)))
  refine TL.fa 0 rfl fc_f23_0_0 rfl rfl ?_
  refine TL.ld 0 (.int _ _) rfl rfl rfl fc_s3 rfl rfl ?_
  refine TL.fa 1 rfl fc_f23_1_1 rfl rfl ?_
  refine TL.ld 0 (.int _ _) rfl rfl rfl fc_s3 rfl rfl ?_
  refine TL.fa 2 rfl fc_f23_2_2 rfl rfl ?_
  refine TL.ld 0 (.int _ _) rfl rfl rfl fc_s3 rfl rfl ?_
  refine TL.bld [.int .i64 0, .int .i64 0, .int .i64 0] [(.int _ _), (.int _ _), (.int _ _)] [_, _, _] fc_z57 fc_q57 ⟨rfl, rfl, rfl, trivial⟩ ⟨rfl, rfl⟩ rfl rfl ?_
  refine TL.stW 1 3 [_, _, _] rfl rfl rfl rfl rfl rfl fc_a57_3 rfl rfl trivial ?_
  refine TL.done (TQ.then (TC.ret ?_))
  refine FQ.retG (rs := [.cell 2 57]) [(.agg _)] (Bs := []) [] rfl ⟨⟨_, _, _, _, _, 1, rfl, rfl, .inr ⟨3, [_, _, _], fc_a57_3, rfl, rfl⟩⟩, trivial⟩ rfl rfl trivial ?_
  exact ⟨rfl, rfl⟩

theorem right13_ok {V S T : Int} {da oa : Option Addr} {dn dc on oc : Nat} : FnD Tryz.prog 14 [.agg #[.int .i64 V, .int .i64 S, .int .i64 T, .slice da dn dc, .slice oa on oc]] [] (.bool (decide (okL V S T ∧ V ≤ 6 ∧ S ≤ 8 ∧ dn ≤ 60 ∧ on ≤ 40))) [] := by
  refine Fn.enter (Tryz.func14) rfl rfl (fun w0 R => ?_)
  refine TC.seq (TC.region ?_)
  refine TL.boxA 0 rfl rfl rfl (fun _ => trivial) (fun bk0 => ?_)
  refine TL.asg (.bool false) rfl rfl rfl ?_
  refine TL.done (TQ.then (TC.seq (TC.region ?_)))
  refine TL.fa 0 rfl fc_f27_0_0 rfl rfl ?_
  refine TL.ldA 0 3 [_, _, _] rfl rfl rfl fc_a23_3 rfl rfl ?_
  refine TL.callD [] [] ref13_ok ⟨rfl, trivial⟩ trivial fc_c49 rfl rfl rfl rfl rfl trivial ?_
  refine TL.callD [] [] refRight_ok ⟨rfl, trivial⟩ trivial fc_c48 rfl rfl rfl rfl rfl trivial ?_
  refine TL.casesP rfl (fun q1 => ?_) (fun q1 => ?_)
  refine TL.mv (.bool true) rfl rfl rfl ?_
  refine TL.fa 0 rfl fc_f27_0_0 rfl rfl ?_
  refine TL.fa 0 rfl fc_f23_0_0 rfl rfl ?_
  refine TL.ld 0 (.int _ _) rfl rfl rfl fc_s3 rfl rfl ?_
  refine TL.leq rfl rfl rfl rfl (fun q2 => ?_) (fun q2 => ?_)
  refine TL.pickT (.bool true) rfl rfl rfl rfl ?_
  refine TL.mv (.bool true) rfl rfl rfl ?_
  refine TL.fa 0 rfl fc_f27_0_0 rfl rfl ?_
  refine TL.fa 1 rfl fc_f23_1_1 rfl rfl ?_
  refine TL.ld 0 (.int _ _) rfl rfl rfl fc_s3 rfl rfl ?_
  refine TL.leq rfl rfl rfl rfl (fun q3 => ?_) (fun q3 => ?_)
  refine TL.pickT (.bool true) rfl rfl rfl rfl ?_
  refine TL.mv (.bool true) rfl rfl rfl ?_
  refine TL.fa 3 rfl fc_f27_1_3 rfl rfl ?_
  refine TL.ld 0 (.slice _ _ _) rfl rfl rfl fc_s24 rfl rfl ?_
  refine TL.lenS rfl fc_l24_110_1 rfl rfl ?_
  refine TL.leq rfl rfl rfl rfl (fun q4 => ?_) (fun q4 => ?_)
  refine TL.pickT (.bool true) rfl rfl rfl rfl ?_
  refine TL.mv (.bool true) rfl rfl rfl ?_
  refine TL.fa 4 rfl fc_f27_2_4 rfl rfl ?_
  refine TL.ld 0 (.slice _ _ _) rfl rfl rfl fc_s25 rfl rfl ?_
  refine TL.lenS rfl fc_l25_33_4 rfl rfl ?_
  refine TL.leqV rfl rfl rfl rfl ?_
  refine TL.pickT (.bool _) rfl rfl rfl rfl ?_
  refine TL.asg (.bool _) rfl rfl rfl ?_
  refine TL.done (TQ.then (TC.ret ?_))
  refine FQ.ret1 (v := (.bool _)) (Bs := []) [] rfl rfl rfl trivial ?_
  exact ⟨congrArg Value.bool (by first | (simp [*]; done) | (simp [*]; omega) | (rw [eq_comm, decide_eq_false_iff_not]; intro hc; obtain ⟨c1, c2, c3, c4, c5⟩ := hc; first | omega | (simp_all; done)) | (rw [eq_comm, decide_eq_true_iff]; refine ⟨by simp_all, ?_⟩; omega) | (rw [decide_eq_decide]; constructor <;> intro hc <;> first | omega | exact ⟨by simp_all, by omega⟩)), rfl⟩
  refine TL.pickT (.bool false) rfl rfl rfl rfl ?_
  refine TL.mv (.bool false) rfl rfl rfl ?_
  refine TL.off rfl rfl ?_
  refine TL.off rfl rfl ?_
  refine TL.off rfl rfl ?_
  refine TL.off rfl rfl ?_
  refine TL.pickF (.bool false) rfl rfl rfl rfl ?_
  refine TL.asg (.bool false) rfl rfl rfl ?_
  refine TL.done (TQ.then (TC.ret ?_))
  refine FQ.ret1 (v := (.bool false)) (Bs := []) [] rfl rfl rfl trivial ?_
  exact ⟨congrArg Value.bool (by first | (simp [*]; done) | (simp [*]; omega) | (rw [eq_comm, decide_eq_false_iff_not]; intro hc; obtain ⟨c1, c2, c3, c4, c5⟩ := hc; first | omega | (simp_all; done)) | (rw [eq_comm, decide_eq_true_iff]; refine ⟨by simp_all, ?_⟩; omega) | (rw [decide_eq_decide]; constructor <;> intro hc <;> first | omega | exact ⟨by simp_all, by omega⟩)), rfl⟩
  refine TL.pickT (.bool false) rfl rfl rfl rfl ?_
  refine TL.mv (.bool false) rfl rfl rfl ?_
  refine TL.off rfl rfl ?_
  refine TL.off rfl rfl ?_
  refine TL.off rfl rfl ?_
  refine TL.off rfl rfl ?_
  refine TL.pickF (.bool false) rfl rfl rfl rfl ?_
  refine TL.mv (.bool false) rfl rfl rfl ?_
  refine TL.off rfl rfl ?_
  refine TL.off rfl rfl ?_
  refine TL.off rfl rfl ?_
  refine TL.off rfl rfl ?_
  refine TL.pickF (.bool false) rfl rfl rfl rfl ?_
  refine TL.asg (.bool false) rfl rfl rfl ?_
  refine TL.done (TQ.then (TC.ret ?_))
  refine FQ.ret1 (v := (.bool false)) (Bs := []) [] rfl rfl rfl trivial ?_
  exact ⟨congrArg Value.bool (by first | (simp [*]; done) | (simp [*]; omega) | (rw [eq_comm, decide_eq_false_iff_not]; intro hc; obtain ⟨c1, c2, c3, c4, c5⟩ := hc; first | omega | (simp_all; done)) | (rw [eq_comm, decide_eq_true_iff]; refine ⟨by simp_all, ?_⟩; omega) | (rw [decide_eq_decide]; constructor <;> intro hc <;> first | omega | exact ⟨by simp_all, by omega⟩)), rfl⟩
  refine TL.pickT (.bool false) rfl rfl rfl rfl ?_
  refine TL.mv (.bool false) rfl rfl rfl ?_
  refine TL.off rfl rfl ?_
  refine TL.off rfl rfl ?_
  refine TL.off rfl rfl ?_
  refine TL.off rfl rfl ?_
  refine TL.pickF (.bool false) rfl rfl rfl rfl ?_
  refine TL.mv (.bool false) rfl rfl rfl ?_
  refine TL.off rfl rfl ?_
  refine TL.off rfl rfl ?_
  refine TL.off rfl rfl ?_
  refine TL.off rfl rfl ?_
  refine TL.pickF (.bool false) rfl rfl rfl rfl ?_
  refine TL.mv (.bool false) rfl rfl rfl ?_
  refine TL.off rfl rfl ?_
  refine TL.off rfl rfl ?_
  refine TL.off rfl rfl ?_
  refine TL.off rfl rfl ?_
  refine TL.pickF (.bool false) rfl rfl rfl rfl ?_
  refine TL.asg (.bool false) rfl rfl rfl ?_
  refine TL.done (TQ.then (TC.ret ?_))
  refine FQ.ret1 (v := (.bool false)) (Bs := []) [] rfl rfl rfl trivial ?_
  exact ⟨congrArg Value.bool (by first | (simp [*]; done) | (simp [*]; omega) | (rw [eq_comm, decide_eq_false_iff_not]; intro hc; obtain ⟨c1, c2, c3, c4, c5⟩ := hc; first | omega | (simp_all; done)) | (rw [eq_comm, decide_eq_true_iff]; refine ⟨by simp_all, ?_⟩; omega) | (rw [decide_eq_decide]; constructor <;> intro hc <;> first | omega | exact ⟨by simp_all, by omega⟩)), rfl⟩
  refine TL.mv (.bool false) rfl rfl rfl ?_
  refine TL.off rfl rfl ?_
  refine TL.off rfl rfl ?_
  refine TL.off rfl rfl ?_
  refine TL.off rfl rfl ?_
  refine TL.pickF (.bool false) rfl rfl rfl rfl ?_
  refine TL.mv (.bool false) rfl rfl rfl ?_
  refine TL.off rfl rfl ?_
  refine TL.off rfl rfl ?_
  refine TL.off rfl rfl ?_
  refine TL.off rfl rfl ?_
  refine TL.pickF (.bool false) rfl rfl rfl rfl ?_
  refine TL.mv (.bool false) rfl rfl rfl ?_
  refine TL.off rfl rfl ?_
  refine TL.off rfl rfl ?_
  refine TL.off rfl rfl ?_
  refine TL.off rfl rfl ?_
  refine TL.pickF (.bool false) rfl rfl rfl rfl ?_
  refine TL.mv (.bool false) rfl rfl rfl ?_
  refine TL.off rfl rfl ?_
  refine TL.off rfl rfl ?_
  refine TL.off rfl rfl ?_
  refine TL.off rfl rfl ?_
  refine TL.pickF (.bool false) rfl rfl rfl rfl ?_
  refine TL.asg (.bool false) rfl rfl rfl ?_
  refine TL.done (TQ.then (TC.ret ?_))
  refine FQ.ret1 (v := (.bool false)) (Bs := []) [] rfl rfl rfl trivial ?_
  exact ⟨congrArg Value.bool (by first | (simp [*]; done) | (simp [*]; omega) | (rw [eq_comm, decide_eq_false_iff_not]; intro hc; obtain ⟨c1, c2, c3, c4, c5⟩ := hc; first | omega | (simp_all; done)) | (rw [eq_comm, decide_eq_true_iff]; refine ⟨by simp_all, ?_⟩; omega) | (rw [decide_eq_decide]; constructor <;> intro hc <;> first | omega | exact ⟨by simp_all, by omega⟩)), rfl⟩

theorem awake13_ok  : FnD Tryz.prog 15 [] [] (.bool true) [] := by
  obtain ⟨a1, a2, a3, a4, a5, a6, a7, a8, a9, a10, h1, h2, h3, h4, h5, h6, h7, h8, h9, h10⟩ := aw13_run
  refine Fn.enter (Tryz.func15) rfl rfl (fun w0 R => ?_)
  refine TC.seq ?_
  refine TC.nilA 0 (A := fun _ => True) trivial ?_
  refine TC.region ?_
  refine TL.asg (.bool false) rfl rfl rfl ?_
  refine TL.done (TQ.then (TC.seq (TC.region ?_)))
  refine TL.bld [.int .i64 0, .int .i64 0, .int .i64 0] [(.int _ _), (.int _ _), (.int _ _)] [_, _, _] fc_z23 fc_q23 ⟨rfl, rfl, rfl, trivial⟩ ⟨rfl, rfl⟩ rfl rfl ?_
  refine TL.alloc 1 (cs := #[.int .i64 0, .int .i64 0, .int .i64 0]) fc_z23 rfl rfl rfl (fun _ => trivial) (fun bk1 => ?_)
  refine TL.stW 1 3 [_, _, _] rfl rfl rfl rfl rfl rfl fc_a23_3 rfl rfl trivial ?_
  refine TL.done (TQ.then (TC.seq (TC.region ?_)))
  refine TL.ldA 1 3 [_, _, _] rfl rfl rfl fc_a23_3 rfl rfl ?_
  refine TL.bld [.int .i64 0, .int .i64 0, .int .i64 0, .slice none 0 0, .slice none 0 0] [(.agg _)] [_, _, _, _, _] fc_z27 fc_q27 ⟨rfl, trivial⟩ ⟨rfl, rfl⟩ rfl rfl ?_
  refine TL.call [0] [0, 2, 3, 4] (begun13_ok (l := l13) (da := none) (oa := none) (dn := 0) (dc := 0) (on := 0) (oc := 0) (Ad := fun _ => True) (bd := 0) (offd := 0) (fd := fun _ => 0) l13_ok (fun h => absurd h (Nat.lt_irrefl 0)) (fun _ _ i hi => absurd hi (Nat.not_lt_zero i)) (fun i hi => absurd hi (Nat.not_lt_zero i)) (by decide)) ⟨rfl, trivial⟩ ⟨rfl, trivial⟩ fc_c16 rfl rfl rfl rfl ?_
  rintro x Bs ⟨pb, ab, mb, rfl, rfl⟩
  refine ⟨rfl, trivial, ?_⟩
  refine TL.asg (.pointer (some ⟨_, _, none⟩)) rfl rfl rfl ?_
  refine TL.done (TQ.then (TC.seq (TC.seq (TC.region ?_))))
  refine TL.mv (.pointer (some ⟨_, _, none⟩)) rfl rfl rfl ?_
  refine TL.nilP false rfl rfl fc_p30 rfl rfl rfl ?_
  refine TL.done (TQ.then (TC.condF rfl (TC.skip (TQ.then (TC.seq (TC.region ?_))))))
  refine TL.mv (.pointer (some ⟨_, _, none⟩)) rfl rfl rfl ?_
  refine TL.bld [.int .i64 0, .int .i64 0, .int .i64 0, .int .i64 0] [(.int _ _), (.int _ _), (.int _ _), (.int _ _)] [_, _, _, _] fc_z33 fc_q33 ⟨rfl, rfl, rfl, rfl, trivial⟩ ⟨rfl, rfl⟩ rfl rfl ?_
  refine TL.call [2, 3, 4] [2, 3, 4] (step_p (l := l13) (o := ⟨1, 0, 0, 1⟩) l13_ok (by decide) (by decide) (by decide) (by decide) h1) ⟨rfl, rfl, trivial⟩ ⟨rfl, rfl, rfl, trivial⟩ fc_c17 rfl rfl rfl rfl ?_
  rintro x Bs ⟨rfl, v2, rfl⟩
  refine ⟨rfl, trivial, ?_⟩
  refine TL.done (TQ.then (TC.seq (TC.region ?_)))
  refine TL.mv (.pointer (some ⟨_, _, none⟩)) rfl rfl rfl ?_
  refine TL.bld [.int .i64 0, .int .i64 0, .int .i64 0, .int .i64 0] [(.int _ _), (.int _ _), (.int _ _), (.int _ _)] [_, _, _, _] fc_z33 fc_q33 ⟨rfl, rfl, rfl, rfl, trivial⟩ ⟨rfl, rfl⟩ rfl rfl ?_
  refine TL.call [2, 3, 4] [2, 3, 4] (step_p (l := l13) (o := ⟨1, 1, 1, 2⟩) l13_ok (by decide) (by decide) (by decide) (by decide) h2) ⟨rfl, rfl, trivial⟩ ⟨rfl, rfl, rfl, trivial⟩ fc_c17 rfl rfl rfl rfl ?_
  rintro x Bs ⟨rfl, v2, rfl⟩
  refine ⟨rfl, trivial, ?_⟩
  refine TL.done (TQ.then (TC.seq (TC.region ?_)))
  refine TL.mv (.pointer (some ⟨_, _, none⟩)) rfl rfl rfl ?_
  refine TL.bld [.int .i64 0, .int .i64 0, .int .i64 0, .int .i64 0] [(.int _ _), (.int _ _), (.int _ _), (.int _ _)] [_, _, _, _] fc_z33 fc_q33 ⟨rfl, rfl, rfl, rfl, trivial⟩ ⟨rfl, rfl⟩ rfl rfl ?_
  refine TL.call [2, 3, 4] [2, 3, 4] (step_p (l := l13) (o := ⟨1, 2, 0, 2⟩) l13_ok (by decide) (by decide) (by decide) (by decide) h3) ⟨rfl, rfl, trivial⟩ ⟨rfl, rfl, rfl, trivial⟩ fc_c17 rfl rfl rfl rfl ?_
  rintro x Bs ⟨rfl, v2, rfl⟩
  refine ⟨rfl, trivial, ?_⟩
  refine TL.done (TQ.then (TC.seq (TC.region ?_)))
  refine TL.mv (.pointer (some ⟨_, _, none⟩)) rfl rfl rfl ?_
  refine TL.nc rfl rfl rfl ?_
  refine TL.fa 4 rfl fc_f54_2_4 rfl rfl ?_
  refine TL.ldA 2 10 [_, _, _, _, _, _, _, _, _, _] rfl rfl rfl fc_a51_10 rfl rfl ?_
  refine TL.callD [3] [3] (smaller_ok (p := P1) plainM l13_ok h4) ⟨rfl, rfl, rfl, rfl, trivial⟩ ⟨rfl, trivial⟩ fc_c26 rfl rfl rfl rfl rfl trivial ?_
  refine TL.asg (.int _ _) rfl rfl rfl ?_
  refine TL.done (TQ.then (TC.seq (TC.region ?_)))
  refine TL.mv (.pointer (some ⟨_, _, none⟩)) rfl rfl rfl ?_
  refine TL.nc rfl rfl rfl ?_
  refine TL.fa 4 rfl fc_f54_2_4 rfl rfl ?_
  refine TL.ldA 2 10 [_, _, _, _, _, _, _, _, _, _] rfl rfl rfl fc_a51_10 rfl rfl ?_
  refine TL.callD [3] [3] (treeUp_ok (p := P1) plainM l13_ok h5) ⟨rfl, rfl, trivial⟩ ⟨rfl, trivial⟩ fc_c27 rfl rfl rfl rfl rfl trivial ?_
  refine TL.done (TQ.then (TC.seq (TC.region ?_)))
  refine TL.mv (.pointer (some ⟨_, _, none⟩)) rfl rfl rfl ?_
  refine TL.nc rfl rfl rfl ?_
  refine TL.fa 4 rfl fc_f54_2_4 rfl rfl ?_
  refine TL.fa 0 rfl fc_f51_0_0 rfl rfl ?_
  refine TL.fa 0 rfl fc_f49_0_0 rfl rfl ?_
  refine TL.ldA 2 6 [_, _, _, _, _, _] rfl rfl rfl fc_a45_6 rfl rfl ?_
  refine TL.callD [3] [3] (linked_ok (p := P1) plainM l13_ok h6) ⟨rfl, rfl, rfl, trivial⟩ ⟨rfl, trivial⟩ fc_c29 rfl rfl rfl rfl rfl trivial ?_
  refine TL.asg (.bool true) rfl rfl rfl ?_
  refine TL.done (TQ.then (TC.seq (TC.region ?_)))
  refine TL.mv (.pointer (some ⟨_, _, none⟩)) rfl rfl rfl ?_
  refine TL.nc rfl rfl rfl ?_
  refine TL.fa 4 rfl fc_f54_2_4 rfl rfl ?_
  refine TL.ldA 2 10 [_, _, _, _, _, _, _, _, _, _] rfl rfl rfl fc_a51_10 rfl rfl ?_
  refine TL.callD [3] [3] (fell_ok (p := P1) plainM l13_ok h7) ⟨rfl, rfl, trivial⟩ ⟨rfl, trivial⟩ fc_c28 rfl rfl rfl rfl rfl trivial ?_
  refine TL.done (TQ.then (TC.seq (TC.region ?_)))
  refine TL.mv (.pointer (some ⟨_, _, none⟩)) rfl rfl rfl ?_
  refine TL.nc rfl rfl rfl ?_
  refine TL.fa 4 rfl fc_f54_2_4 rfl rfl ?_
  refine TL.ldA 2 10 [_, _, _, _, _, _, _, _, _, _] rfl rfl rfl fc_a51_10 rfl rfl ?_
  refine TL.callD [3] [3] (seek_ok (p := P1) plainM l13_ok h8) ⟨rfl, rfl, rfl, trivial⟩ ⟨rfl, trivial⟩ fc_c20 rfl rfl rfl rfl rfl trivial ?_
  refine TL.mv (.tuple _) rfl rfl rfl ?_
  refine TL.ext (.int _ _) rfl rfl rfl rfl ?_
  refine TL.ext (.bool true) rfl rfl rfl rfl ?_
  refine TL.asg (.int _ _) rfl rfl rfl ?_
  refine TL.asg (.bool true) rfl rfl rfl ?_
  refine TL.done (TQ.then (TC.seq (TC.region ?_)))
  refine TL.mv (.int _ _) rfl rfl rfl ?_
  refine TL.eqlT rfl rfl rfl rfl rfl ?_
  refine TL.mv (.bool true) rfl rfl rfl ?_
  refine TL.mv (.bool true) rfl rfl rfl ?_
  refine TL.pickT (.bool true) rfl rfl rfl rfl ?_
  refine TL.mv (.bool true) rfl rfl rfl ?_
  refine TL.mv (.pointer (some ⟨_, _, none⟩)) rfl rfl rfl ?_
  refine TL.nc rfl rfl rfl ?_
  refine TL.fa 4 rfl fc_f54_2_4 rfl rfl ?_
  refine TL.fa 0 rfl fc_f51_0_0 rfl rfl ?_
  refine TL.fa 0 rfl fc_f49_0_0 rfl rfl ?_
  refine TL.ldA 2 6 [_, _, _, _, _, _] rfl rfl rfl fc_a45_6 rfl rfl ?_
  refine TL.callD [3] [3] (linked_ok (p := P1) plainM l13_ok h9) ⟨rfl, rfl, rfl, trivial⟩ ⟨rfl, trivial⟩ fc_c29 rfl rfl rfl rfl rfl trivial ?_
  refine TL.not false true rfl rfl rfl rfl ?_
  refine TL.pickT (.bool true) rfl rfl rfl rfl ?_
  refine TL.mv (.bool true) rfl rfl rfl ?_
  refine TL.mv (.int _ _) rfl rfl rfl ?_
  refine TL.eqlT rfl rfl rfl rfl rfl ?_
  refine TL.pickT (.bool true) rfl rfl rfl rfl ?_
  refine TL.mv (.bool true) rfl rfl rfl ?_
  refine TL.mv (.bool true) rfl rfl rfl ?_
  refine TL.pickT (.bool true) rfl rfl rfl rfl ?_
  refine TL.mv (.bool true) rfl rfl rfl ?_
  refine TL.mv (.pointer (some ⟨_, _, none⟩)) rfl rfl rfl ?_
  refine TL.nc rfl rfl rfl ?_
  refine TL.fa 4 rfl fc_f54_2_4 rfl rfl ?_
  refine TL.fa 0 rfl fc_f51_0_0 rfl rfl ?_
  refine TL.fa 0 rfl fc_f49_0_0 rfl rfl ?_
  refine TL.ldA 2 6 [_, _, _, _, _, _] rfl rfl rfl fc_a45_6 rfl rfl ?_
  refine TL.callD [3] [3] (same_ok (p := P1) plainM l13_ok h10) ⟨rfl, rfl, rfl, rfl, trivial⟩ ⟨rfl, trivial⟩ fc_c30 rfl rfl rfl rfl rfl trivial ?_
  refine TL.pickT (.bool true) rfl rfl rfl rfl ?_
  refine TL.asg (.bool true) rfl rfl rfl ?_
  refine TL.done (TQ.then (TC.ret ?_))
  refine FQ.ret1 (v := (.bool true)) (Bs := []) [] rfl rfl rfl trivial ?_
  exact ⟨rfl, rfl⟩

theorem smallerL_w {V S T : Int} {da oa : Option Addr} {dn dc on oc : Nat} {lv u v : Int} (hno : ¬ (okL V S T ∧ V ≤ 6 ∧ S ≤ 8 ∧ dn ≤ 60 ∧ on ≤ 40)) : FnD Tryz.prog 5 [.agg #[.int .i64 V, .int .i64 S, .int .i64 T, .slice da dn dc, .slice oa on oc], .int .i64 lv, .agg #[.int .i64 u, .int .i64 v]] [] (.bool true) [] := by
  refine Fn.enter (Tryz.func5) rfl rfl (fun w0 R => ?_)
  refine TC.seq (TC.region ?_)
  refine TL.boxA 0 rfl rfl rfl (fun _ => trivial) (fun bk0 => ?_)
  refine TL.boxA 1 rfl rfl rfl (fun _ => trivial) (fun bk1 => ?_)
  refine TL.asg (.bool false) rfl rfl rfl ?_
  refine TL.done (TQ.then (TC.seq ?_))
  refine TC.draw [(0, true), (1, true), (2, true), (3, true), (4, true), (5, true)] [1] fc_m (by kernel_rfl) ?_
  refine TL.iaA (_ + 0) rfl rfl fc_r70_2_3_1 (by decide) (by decide) rfl rfl rfl ?_
  refine TL.ld 1 (.int _ _) rfl rfl rfl fc_s3 rfl rfl ?_
  refine TL.iaA (_ + 1) rfl rfl fc_r70_2_3_1 (by decide) (by decide) rfl rfl rfl ?_
  refine TL.ld 1 (.int _ _) rfl rfl rfl fc_s3 rfl rfl ?_
  refine TL.asg (.int _ _) rfl rfl rfl ?_
  refine TL.asg (.int _ _) rfl rfl rfl ?_
  refine TL.done (TQ.then (TC.seq (TC.seq (TC.region ?_))))
  refine TL.ldA 0 5 [_, _, _, _, _] rfl rfl rfl fc_a27_5 rfl rfl ?_
  refine TL.callD [] [] right13_ok ⟨rfl, trivial⟩ trivial fc_c14 rfl rfl rfl rfl rfl trivial ?_
  rw [decide_eq_false hno]
  refine TL.not false true rfl rfl rfl rfl ?_
  refine TL.mv (.bool true) rfl rfl rfl ?_
  refine TL.off rfl rfl ?_
  refine TL.off rfl rfl ?_
  refine TL.pickT (.bool true) rfl rfl rfl rfl ?_
  refine TL.mv (.bool true) rfl rfl rfl ?_
  refine TL.off rfl rfl ?_
  refine TL.off rfl rfl ?_
  refine TL.off rfl rfl ?_
  refine TL.off rfl rfl ?_
  refine TL.off rfl rfl ?_
  refine TL.pickT (.bool true) rfl rfl rfl rfl ?_
  refine TL.mv (.bool true) rfl rfl rfl ?_
  refine TL.off rfl rfl ?_
  refine TL.off rfl rfl ?_
  refine TL.pickT (.bool true) rfl rfl rfl rfl ?_
  refine TL.mv (.bool true) rfl rfl rfl ?_
  refine TL.off rfl rfl ?_
  refine TL.off rfl rfl ?_
  refine TL.off rfl rfl ?_
  refine TL.off rfl rfl ?_
  refine TL.off rfl rfl ?_
  refine TL.pickT (.bool true) rfl rfl rfl rfl ?_
  refine TL.mv (.bool true) rfl rfl rfl ?_
  refine TL.off rfl rfl ?_
  refine TL.off rfl rfl ?_
  refine TL.pickT (.bool true) rfl rfl rfl rfl ?_
  refine TL.mv (.bool true) rfl rfl rfl ?_
  refine TL.off rfl rfl ?_
  refine TL.off rfl rfl ?_
  refine TL.off rfl rfl ?_
  refine TL.off rfl rfl ?_
  refine TL.off rfl rfl ?_
  refine TL.pickT (.bool true) rfl rfl rfl rfl ?_
  refine TL.done (TQ.then (TC.condT rfl (TC.seq (TC.region ?_))))
  refine TL.callD [] [] awake13_ok trivial trivial fc_c15 rfl rfl rfl rfl rfl trivial ?_
  refine TL.asg (.bool true) rfl rfl rfl ?_
  refine TL.done (TQ.then (TC.ret (TQ.thenRet ?_)))
  refine FQ.ret1 (v := (.bool true)) (Bs := []) [] rfl rfl rfl trivial ?_
  exact ⟨rfl, rfl⟩

theorem smallerL_r {l : Lay} (hl : l.Ok) {da oa : Option Addr} {dn dc on oc : Nat} {Ad : Assn} {bd offd : Nat} {fd : Nat → Int} (hda : 0 < dn → da = some ⟨bd, offd, none⟩) (hAd : RowOf Ad encU 1 bd offd dn fd) (hfd : ∀ i, i < dn → 0 ≤ fd i ∧ fd i < 18446744073709551616) {bo offo : Nat} {fo : Nat → OpR} (hoa : 0 < on → oa = some ⟨bo, offo, none⟩) (hAo : RowOf Ad encO 4 bo offo on fo) {lv u v : Int} (hok : (okL l.V l.S l.T ∧ (l.V : Int) ≤ 6 ∧ (l.S : Int) ≤ 8 ∧ dn ≤ 60 ∧ on ≤ 40)) : FnD Tryz.prog 5 [.agg #[.int .i64 l.V, .int .i64 l.S, .int .i64 l.T, .slice da dn dc, .slice oa on oc], .int .i64 lv, .agg #[.int .i64 u, .int .i64 v]] [Ad] (.bool true) [Ad] := by
  obtain ⟨hk1, hk2, hk3, hk4, hk5⟩ := hok
  have hok : (okL l.V l.S l.T ∧ (l.V : Int) ≤ 6 ∧ (l.S : Int) ≤ 8 ∧ dn ≤ 60 ∧ on ≤ 40) := ⟨hk1, hk2, hk3, hk4, hk5⟩
  refine Fn.enter (Tryz.func5) rfl rfl (fun w0 R => ?_)
  refine TC.seq (TC.region ?_)
  refine TL.boxA 1 rfl rfl rfl (fun _ => trivial) (fun bk1 => ?_)
  refine TL.boxA 2 rfl rfl rfl (fun _ => trivial) (fun bk2 => ?_)
  refine TL.asg (.bool false) rfl rfl rfl ?_
  refine TL.done (TQ.then (TC.seq ?_))
  refine TC.draw [(0, true), (1, true), (2, true), (3, true), (4, true), (5, true)] [2] fc_m (by kernel_rfl) ?_
  refine TL.iaA (_ + 0) rfl rfl fc_r70_2_3_1 (by decide) (by decide) rfl rfl rfl ?_
  refine TL.ld 2 (.int _ _) rfl rfl rfl fc_s3 rfl rfl ?_
  refine TL.iaA (_ + 1) rfl rfl fc_r70_2_3_1 (by decide) (by decide) rfl rfl rfl ?_
  refine TL.ld 2 (.int _ _) rfl rfl rfl fc_s3 rfl rfl ?_
  refine TL.asg (.int _ _) rfl rfl rfl ?_
  refine TL.asg (.int _ _) rfl rfl rfl ?_
  refine TL.done (TQ.then (TC.seq (TC.seq (TC.region ?_))))
  refine TL.ldA 1 5 [_, _, _, _, _] rfl rfl rfl fc_a27_5 rfl rfl ?_
  refine TL.callD [] [] right13_ok ⟨rfl, trivial⟩ trivial fc_c14 rfl rfl rfl rfl rfl trivial ?_
  rw [decide_eq_true hok]
  refine TL.not true false rfl rfl rfl rfl ?_
  refine TL.mv (.bool false) rfl rfl rfl ?_
  refine TL.mv (.int _ _) rfl rfl rfl ?_
  refine TL.lss rfl rfl rfl rfl (fun q1 => ?_) (fun q1 => ?_)
  refine TL.pickF (.bool true) rfl rfl rfl rfl ?_
  refine TL.mv (.bool true) rfl rfl rfl ?_
  refine TL.off rfl rfl ?_
  refine TL.off rfl rfl ?_
  refine TL.off rfl rfl ?_
  refine TL.off rfl rfl ?_
  refine TL.off rfl rfl ?_
  refine TL.pickT (.bool true) rfl rfl rfl rfl ?_
  refine TL.mv (.bool true) rfl rfl rfl ?_
  refine TL.off rfl rfl ?_
  refine TL.off rfl rfl ?_
  refine TL.pickT (.bool true) rfl rfl rfl rfl ?_
  refine TL.mv (.bool true) rfl rfl rfl ?_
  refine TL.off rfl rfl ?_
  refine TL.off rfl rfl ?_
  refine TL.off rfl rfl ?_
  refine TL.off rfl rfl ?_
  refine TL.off rfl rfl ?_
  refine TL.pickT (.bool true) rfl rfl rfl rfl ?_
  refine TL.mv (.bool true) rfl rfl rfl ?_
  refine TL.off rfl rfl ?_
  refine TL.off rfl rfl ?_
  refine TL.pickT (.bool true) rfl rfl rfl rfl ?_
  refine TL.mv (.bool true) rfl rfl rfl ?_
  refine TL.off rfl rfl ?_
  refine TL.off rfl rfl ?_
  refine TL.off rfl rfl ?_
  refine TL.off rfl rfl ?_
  refine TL.off rfl rfl ?_
  refine TL.pickT (.bool true) rfl rfl rfl rfl ?_
  refine TL.done (TQ.then (TC.condT rfl (TC.seq (TC.region ?_))))
  refine TL.callD [] [] awake13_ok trivial trivial fc_c15 rfl rfl rfl rfl rfl trivial ?_
  refine TL.asg (.bool true) rfl rfl rfl ?_
  refine TL.done (TQ.then (TC.ret (TQ.thenRet ?_)))
  refine FQ.ret1 (v := (.bool true)) (Bs := [_]) [0] rfl rfl rfl ⟨rfl, trivial⟩ ?_
  exact ⟨rfl, rfl⟩
  refine TL.pickF (.bool false) rfl rfl rfl rfl ?_
  refine TL.mv (.bool false) rfl rfl rfl ?_
  refine TL.mv (.int _ _) rfl rfl rfl ?_
  refine TL.fa 0 rfl fc_f27_0_0 rfl rfl ?_
  refine TL.fa 0 rfl fc_f23_0_0 rfl rfl ?_
  refine TL.ld 1 (.int _ _) rfl rfl rfl fc_s3 rfl rfl ?_
  refine TL.geq rfl rfl rfl rfl (fun q2 => ?_) (fun q2 => ?_)
  refine TL.pickF (.bool true) rfl rfl rfl rfl ?_
  refine TL.mv (.bool true) rfl rfl rfl ?_
  refine TL.off rfl rfl ?_
  refine TL.off rfl rfl ?_
  refine TL.pickT (.bool true) rfl rfl rfl rfl ?_
  refine TL.mv (.bool true) rfl rfl rfl ?_
  refine TL.off rfl rfl ?_
  refine TL.off rfl rfl ?_
  refine TL.off rfl rfl ?_
  refine TL.off rfl rfl ?_
  refine TL.off rfl rfl ?_
  refine TL.pickT (.bool true) rfl rfl rfl rfl ?_
  refine TL.mv (.bool true) rfl rfl rfl ?_
  refine TL.off rfl rfl ?_
  refine TL.off rfl rfl ?_
  refine TL.pickT (.bool true) rfl rfl rfl rfl ?_
  refine TL.mv (.bool true) rfl rfl rfl ?_
  refine TL.off rfl rfl ?_
  refine TL.off rfl rfl ?_
  refine TL.off rfl rfl ?_
  refine TL.off rfl rfl ?_
  refine TL.off rfl rfl ?_
  refine TL.pickT (.bool true) rfl rfl rfl rfl ?_
  refine TL.done (TQ.then (TC.condT rfl (TC.seq (TC.region ?_))))
  refine TL.callD [] [] awake13_ok trivial trivial fc_c15 rfl rfl rfl rfl rfl trivial ?_
  refine TL.asg (.bool true) rfl rfl rfl ?_
  refine TL.done (TQ.then (TC.ret (TQ.thenRet ?_)))
  refine FQ.ret1 (v := (.bool true)) (Bs := [_]) [0] rfl rfl rfl ⟨rfl, trivial⟩ ?_
  exact ⟨rfl, rfl⟩
  refine TL.pickF (.bool false) rfl rfl rfl rfl ?_
  refine TL.mv (.bool false) rfl rfl rfl ?_
  refine TL.mv (.int _ _) rfl rfl rfl ?_
  refine TL.lss rfl rfl rfl rfl (fun q3 => ?_) (fun q3 => ?_)
  refine TL.pickF (.bool true) rfl rfl rfl rfl ?_
  refine TL.mv (.bool true) rfl rfl rfl ?_
  refine TL.off rfl rfl ?_
  refine TL.off rfl rfl ?_
  refine TL.off rfl rfl ?_
  refine TL.off rfl rfl ?_
  refine TL.off rfl rfl ?_
  refine TL.pickT (.bool true) rfl rfl rfl rfl ?_
  refine TL.mv (.bool true) rfl rfl rfl ?_
  refine TL.off rfl rfl ?_
  refine TL.off rfl rfl ?_
  refine TL.pickT (.bool true) rfl rfl rfl rfl ?_
  refine TL.mv (.bool true) rfl rfl rfl ?_
  refine TL.off rfl rfl ?_
  refine TL.off rfl rfl ?_
  refine TL.off rfl rfl ?_
  refine TL.off rfl rfl ?_
  refine TL.off rfl rfl ?_
  refine TL.pickT (.bool true) rfl rfl rfl rfl ?_
  refine TL.done (TQ.then (TC.condT rfl (TC.seq (TC.region ?_))))
  refine TL.callD [] [] awake13_ok trivial trivial fc_c15 rfl rfl rfl rfl rfl trivial ?_
  refine TL.asg (.bool true) rfl rfl rfl ?_
  refine TL.done (TQ.then (TC.ret (TQ.thenRet ?_)))
  refine FQ.ret1 (v := (.bool true)) (Bs := [_]) [0] rfl rfl rfl ⟨rfl, trivial⟩ ?_
  exact ⟨rfl, rfl⟩
  refine TL.pickF (.bool false) rfl rfl rfl rfl ?_
  refine TL.mv (.bool false) rfl rfl rfl ?_
  refine TL.mv (.int _ _) rfl rfl rfl ?_
  refine TL.fa 0 rfl fc_f27_0_0 rfl rfl ?_
  refine TL.fa 0 rfl fc_f23_0_0 rfl rfl ?_
  refine TL.ld 1 (.int _ _) rfl rfl rfl fc_s3 rfl rfl ?_
  refine TL.geq rfl rfl rfl rfl (fun q4 => ?_) (fun q4 => ?_)
  refine TL.pickF (.bool true) rfl rfl rfl rfl ?_
  refine TL.mv (.bool true) rfl rfl rfl ?_
  refine TL.off rfl rfl ?_
  refine TL.off rfl rfl ?_
  refine TL.pickT (.bool true) rfl rfl rfl rfl ?_
  refine TL.mv (.bool true) rfl rfl rfl ?_
  refine TL.off rfl rfl ?_
  refine TL.off rfl rfl ?_
  refine TL.off rfl rfl ?_
  refine TL.off rfl rfl ?_
  refine TL.off rfl rfl ?_
  refine TL.pickT (.bool true) rfl rfl rfl rfl ?_
  refine TL.done (TQ.then (TC.condT rfl (TC.seq (TC.region ?_))))
  refine TL.callD [] [] awake13_ok trivial trivial fc_c15 rfl rfl rfl rfl rfl trivial ?_
  refine TL.asg (.bool true) rfl rfl rfl ?_
  refine TL.done (TQ.then (TC.ret (TQ.thenRet ?_)))
  refine FQ.ret1 (v := (.bool true)) (Bs := [_]) [0] rfl rfl rfl ⟨rfl, trivial⟩ ?_
  exact ⟨rfl, rfl⟩
  refine TL.pickF (.bool false) rfl rfl rfl rfl ?_
  refine TL.mv (.bool false) rfl rfl rfl ?_
  refine TL.mv (.int _ _) rfl rfl rfl ?_
  refine TL.lss rfl rfl rfl rfl (fun q5 => ?_) (fun q5 => ?_)
  refine TL.pickF (.bool true) rfl rfl rfl rfl ?_
  refine TL.mv (.bool true) rfl rfl rfl ?_
  refine TL.off rfl rfl ?_
  refine TL.off rfl rfl ?_
  refine TL.off rfl rfl ?_
  refine TL.off rfl rfl ?_
  refine TL.off rfl rfl ?_
  refine TL.pickT (.bool true) rfl rfl rfl rfl ?_
  refine TL.done (TQ.then (TC.condT rfl (TC.seq (TC.region ?_))))
  refine TL.callD [] [] awake13_ok trivial trivial fc_c15 rfl rfl rfl rfl rfl trivial ?_
  refine TL.asg (.bool true) rfl rfl rfl ?_
  refine TL.done (TQ.then (TC.ret (TQ.thenRet ?_)))
  refine FQ.ret1 (v := (.bool true)) (Bs := [_]) [0] rfl rfl rfl ⟨rfl, trivial⟩ ?_
  exact ⟨rfl, rfl⟩
  refine TL.pickF (.bool false) rfl rfl rfl rfl ?_
  refine TL.mv (.bool false) rfl rfl rfl ?_
  refine TL.mv (.int _ _) rfl rfl rfl ?_
  refine TL.fa 0 rfl fc_f27_0_0 rfl rfl ?_
  refine TL.ldA 1 3 [_, _, _] rfl rfl rfl fc_a23_3 rfl rfl ?_
  refine TL.callD [] [] (levels_ok hl) ⟨rfl, trivial⟩ trivial fc_c19 rfl rfl rfl rfl rfl trivial ?_
  refine TL.geq rfl rfl rfl rfl (fun q6 => ?_) (fun q6 => ?_)
  refine TL.pickF (.bool true) rfl rfl rfl rfl ?_
  refine TL.done (TQ.then (TC.condT rfl (TC.seq (TC.region ?_))))
  refine TL.callD [] [] awake13_ok trivial trivial fc_c15 rfl rfl rfl rfl rfl trivial ?_
  refine TL.asg (.bool true) rfl rfl rfl ?_
  refine TL.done (TQ.then (TC.ret (TQ.thenRet ?_)))
  refine FQ.ret1 (v := (.bool true)) (Bs := [_]) [0] rfl rfl rfl ⟨rfl, trivial⟩ ?_
  exact ⟨rfl, rfl⟩
  refine TL.pickF (.bool false) rfl rfl rfl rfl ?_
  refine TL.done (TQ.then (TC.condF rfl (TC.skip (TQ.then (TC.seq (TC.region ?_))))))
  refine TL.ldA 1 5 [_, _, _, _, _] rfl rfl rfl fc_a27_5 rfl rfl ?_
  refine TL.call [0] [0, 3, 4, 5] (begun13_ok hl hda hAd hfd (by omega)) ⟨rfl, trivial⟩ ⟨rfl, trivial⟩ fc_c16 rfl rfl rfl rfl ?_
  rintro x Bs ⟨pb, ab, mb, rfl, rfl⟩
  refine ⟨rfl, trivial, ?_⟩
  refine TL.asg (.pointer (some ⟨_, _, none⟩)) rfl rfl rfl ?_
  refine TL.done (TQ.then (TC.seq (TC.seq (TC.region ?_))))
  refine TL.mv (.pointer (some ⟨_, _, none⟩)) rfl rfl rfl ?_
  refine TL.nilP false rfl rfl fc_p30 rfl rfl rfl ?_
  refine TL.done (TQ.then (TC.condF rfl (TC.skip (TQ.then (TC.seq (TC.seq (TC.region ?_)))))))
  refine TL.fa 4 rfl fc_f27_2_4 rfl rfl ?_
  refine TL.ld 1 (.slice _ _ _) rfl rfl rfl fc_s25 rfl rfl ?_
  refine TL.lenS rfl fc_l25_33_4 rfl rfl ?_
  refine TL.mv (.int _ _) rfl rfl rfl ?_
  refine TL.done (TQ.then (TC.block ?_))
  refine TC.loopK (X := Nat × M × Value × Array EdR) [1, 3, 6, 7, 8, 9, 62, 63] [0, 1, 2] (fun ⟨i, σ, sv, d⟩ => [(64, .int .i64 ((i : Nat) : Int))]) (fun ⟨i, σ, sv, d⟩ => [(3, pt pb (.cells #[.int .i64 l.V, .int .i64 l.S, .int .i64 l.T, .pointer (some ⟨ab, 0, none⟩), .int .i64 l.V, .int .i64 l.S, .int .i64 l.T, .iface 107 (.agg #[.pointer (some ⟨ab, 0, none⟩)]), .int .i64 1, .int .i64 0, .int .i64 l.V, .int .i64 l.S, .int .i64 l.T, .iface 107 (.agg #[.pointer (some ⟨ab, 0, none⟩)]), sv] 54)), (4, arenaA ab mb 149 110 (σ)), (5, ownA encE 5 65 sv d)]) (fun ⟨i, σ, sv, d⟩ => i ≤ on ∧ Rel l (fun x => if dn = 0 then 0 else fd (x.toNat % dn)) σ d) (fun ⟨i, σ, sv, d⟩ => on - i) ((0, _, _, #[])) ⟨Nat.zero_le _, Rel.born hl hfd (by have := cells_b hl; have := nodes_b hl; have := ord_b hl; omega)⟩ ⟨rfl, trivial⟩ ⟨rfl, rfl, rfl, trivial⟩ (fun y hI => ?_)
  obtain ⟨i, σ, sv, d⟩ := y
  obtain ⟨hi, hR⟩ := hI
  replace hi : i ≤ on := hi
  replace hR : Rel l (fun x => if dn = 0 then 0 else fd (x.toNat % dn)) σ d := hR
  refine TC.sub (env' := [(64, _), (1, _), (3, _), (6, _), (7, _), (8, _), (9, _), (62, _), (63, _)]) (L' := [(3, _), (4, _), (5, _), (0, _), (1, _), (2, _)]) ⟨rfl, rfl, rfl, rfl, rfl, rfl, rfl, rfl, rfl, trivial⟩ ⟨rfl, rfl, rfl, rfl, rfl, rfl, trivial⟩ ?_
  refine TC.seq (TC.region ?_)
  refine TL.lss rfl rfl rfl rfl (fun q7 => ?_) (fun q7 => ?_)
  refine TL.done (TQ.then (TC.seq (TC.condT rfl (TC.skip (TQ.then (TC.seq (TC.block ?_)))))))
  refine TC.seq (TC.region ?_)
  refine TL.iaO rfl hoa rfl fc_l25_33_4 (by omega) rfl rfl ?_
  refine TL.ldRx 0 [_, _, _, _] rfl rfl hAo (by omega) rfl fc_a33_4 rfl rfl ?_
  refine TL.alloc 6 (cs := #[.int .i64 0, .int .i64 0, .int .i64 0, .int .i64 0]) fc_z33 rfl rfl rfl (fun _ => trivial) (fun bk6 => ?_)
  refine TL.stW 6 4 [_, _, _, _] rfl rfl rfl rfl rfl rfl fc_a33_4 rfl rfl trivial ?_
  refine TL.done (TQ.then (TC.region ?_))
  refine TL.mv (.pointer (some ⟨_, _, none⟩)) rfl rfl rfl ?_
  refine TL.ldA 6 4 [_, _, _, _] rfl rfl rfl fc_a33_4 rfl rfl ?_
  refine TL.call [3, 4, 5] [3, 4, 5] (step13_ok hl hR) ⟨rfl, rfl, trivial⟩ ⟨rfl, rfl, rfl, trivial⟩ fc_c17 rfl rfl rfl rfl ?_
  rintro x Bs ⟨rfl, σ2, v2, d2, rfl, hR2⟩
  refine ⟨rfl, trivial, ?_⟩
  refine TL.done (TQ.inBlock (TQ.then (TC.region ?_)))
  refine TL.add (((i + 1 : Nat) : Int)) rfl rfl (wrN (by omega)) rfl rfl ?_
  refine TL.mv (.int _ _) rfl rfl rfl ?_
  refine TL.done ?_
  refine TQ.roundK ((i + 1, _, _, _)) ⟨⟨(show i + 1 ≤ on by omega), hR2⟩, (show on - (i + 1) < on - i by omega)⟩ ⟨rfl, trivial⟩ ⟨rfl, rfl, rfl, trivial⟩ (.cons rfl rfl (.cons rfl rfl (.cons rfl rfl (.cons rfl rfl (.cons rfl rfl (.cons rfl rfl (.cons rfl rfl (.cons rfl rfl trivial)))))))) (.cons rfl rfl (.cons rfl rfl (.cons rfl rfl trivial)))
  refine TL.done (TQ.then (TC.seq (TC.condF rfl (TC.exit (TQ.thenExit (TQ.thenExit (TQ.blockHere ?_)))))))
  refine TQ.then (TC.seq ?_)
  have hsz := hR.size hl
  refine TC.region ?_
  refine TL.asg (.int _ _) rfl rfl rfl ?_
  refine TL.asg (.int _ _) rfl rfl rfl ?_
  refine TL.done (TQ.then (TC.seq (TC.seq (TC.region ?_))))
  refine TL.fa 0 rfl fc_f27_0_0 rfl rfl ?_
  refine TL.fa 0 rfl fc_f23_0_0 rfl rfl ?_
  refine TL.ld 1 (.int _ _) rfl rfl rfl fc_s3 rfl rfl ?_
  refine TL.mv (.int _ _) rfl rfl rfl ?_
  refine TL.done (TQ.then (TC.block ?_))
  have hV16 := hl.2.1
  refine TC.loopK (X := Nat) [1, 6, 7, 8, 9, 74] [0, 1, 2, 3, 4, 5] (fun k => [(75, .int .i64 ((k : Nat) : Int)), (12, .int .i64 ((cntF d lv u k : Nat) : Int)), (13, .int .i64 ((cntF d lv v k : Nat) : Int))]) (fun k => []) (fun k => k ≤ l.V) (fun k => l.V - k) (0) (Nat.zero_le _) ⟨rfl, rfl, rfl, trivial⟩ trivial (fun k hI => ?_)
  have hc1 := cntF_le (d := d) (lv := lv) (u := u) (k := k)
  have hc2 := cntF_le (d := d) (lv := lv) (u := v) (k := k)
  replace hI : k ≤ l.V := hI
  refine TC.sub (env' := [(75, _), (12, _), (13, _), (1, _), (6, _), (7, _), (8, _), (9, _), (74, _)]) (L' := [(0, _), (1, _), (2, _), (3, _), (4, _), (5, _)]) ⟨rfl, rfl, rfl, rfl, rfl, rfl, rfl, rfl, rfl, trivial⟩ ⟨rfl, rfl, rfl, rfl, rfl, rfl, trivial⟩ ?_
  refine TC.seq (TC.region ?_)
  refine TL.lss rfl rfl rfl rfl (fun q8 => ?_) (fun q8 => ?_)
  refine TL.done (TQ.then (TC.seq (TC.condT rfl (TC.skip (TQ.then (TC.seq (TC.block ?_)))))))
  refine TC.seq (TC.region ?_)
  refine TL.mv (.int _ _) rfl rfl rfl ?_
  refine TL.asg (.int _ _) rfl rfl rfl ?_
  refine TL.done (TQ.then (TC.seq (TC.seq (TC.region ?_))))
  refine TL.mv (.pointer (some ⟨_, _, none⟩)) rfl rfl rfl ?_
  refine TL.mv (.int _ _) rfl rfl rfl ?_
  refine TL.mv (.int _ _) rfl rfl rfl ?_
  refine TL.mv (.int _ _) rfl rfl rfl ?_
  refine TL.callD [3, 5] [3, 5] (forest13_ok hl (by have := hl.2.2.1; omega)) ⟨rfl, rfl, rfl, rfl, trivial⟩ ⟨rfl, rfl, trivial⟩ fc_c24 rfl rfl rfl rfl rfl trivial ?_
  refine TL.cases rfl (fun q9 => ?_) (fun q9 => ?_)
  refine TL.done (TQ.then (TC.condT rfl (TC.region ?_)))
  refine TL.mv (.int _ _) rfl rfl rfl ?_
  refine TL.add (((cntF d lv u k + 1 : Nat) : Int)) rfl rfl (wrN (by omega)) rfl rfl ?_
  refine TL.asg (.int _ _) rfl rfl rfl ?_
  refine TL.done (TQ.then (TC.seq (TC.region ?_)))
  refine TL.mv (.pointer (some ⟨_, _, none⟩)) rfl rfl rfl ?_
  refine TL.mv (.int _ _) rfl rfl rfl ?_
  refine TL.mv (.int _ _) rfl rfl rfl ?_
  refine TL.mv (.int _ _) rfl rfl rfl ?_
  refine TL.callD [3, 5] [3, 5] (forest13_ok hl (by have := hl.2.2.1; omega)) ⟨rfl, rfl, rfl, rfl, trivial⟩ ⟨rfl, rfl, trivial⟩ fc_c24 rfl rfl rfl rfl rfl trivial ?_
  refine TL.cases rfl (fun q10 => ?_) (fun q10 => ?_)
  refine TL.done (TQ.then (TC.condT rfl (TC.region ?_)))
  refine TL.mv (.int _ _) rfl rfl rfl ?_
  refine TL.add (((cntF d lv v k + 1 : Nat) : Int)) rfl rfl (wrN (by omega)) rfl rfl ?_
  refine TL.asg (.int _ _) rfl rfl rfl ?_
  refine TL.done (TQ.inBlock (TQ.then (TC.region ?_)))
  refine TL.add (((k + 1 : Nat) : Int)) rfl rfl (wrN (by omega)) rfl rfl ?_
  refine TL.mv (.int _ _) rfl rfl rfl ?_
  refine TL.done ?_
  refine TQ.roundK (k + 1) ⟨(by omega), (by omega)⟩ ⟨rfl, congrArg (fun z : Nat => some (Value.int .i64 (z : Int))) (cntF_T (by assumption)), congrArg (fun z : Nat => some (Value.int .i64 (z : Int))) (cntF_T (by assumption)), trivial⟩ trivial (.cons rfl rfl (.cons rfl rfl (.cons rfl rfl (.cons rfl rfl (.cons rfl rfl (.cons rfl rfl trivial)))))) (.cons rfl rfl (.cons rfl rfl (.cons rfl rfl (.cons rfl rfl (.cons rfl rfl (.cons rfl rfl trivial))))))
  refine TL.done (TQ.then (TC.condF rfl (TC.skip (TQ.inBlock (TQ.then (TC.region ?_))))))
  refine TL.add (((k + 1 : Nat) : Int)) rfl rfl (wrN (by omega)) rfl rfl ?_
  refine TL.mv (.int _ _) rfl rfl rfl ?_
  refine TL.done ?_
  refine TQ.roundK (k + 1) ⟨(by omega), (by omega)⟩ ⟨rfl, congrArg (fun z : Nat => some (Value.int .i64 (z : Int))) (cntF_T (by assumption)), congrArg (fun z : Nat => some (Value.int .i64 (z : Int))) (cntF_F (by assumption)), trivial⟩ trivial (.cons rfl rfl (.cons rfl rfl (.cons rfl rfl (.cons rfl rfl (.cons rfl rfl (.cons rfl rfl trivial)))))) (.cons rfl rfl (.cons rfl rfl (.cons rfl rfl (.cons rfl rfl (.cons rfl rfl (.cons rfl rfl trivial))))))
  refine TL.done (TQ.then (TC.condF rfl (TC.skip (TQ.then (TC.seq (TC.region ?_))))))
  refine TL.mv (.pointer (some ⟨_, _, none⟩)) rfl rfl rfl ?_
  refine TL.mv (.int _ _) rfl rfl rfl ?_
  refine TL.mv (.int _ _) rfl rfl rfl ?_
  refine TL.mv (.int _ _) rfl rfl rfl ?_
  refine TL.callD [3, 5] [3, 5] (forest13_ok hl (by have := hl.2.2.1; omega)) ⟨rfl, rfl, rfl, rfl, trivial⟩ ⟨rfl, rfl, trivial⟩ fc_c24 rfl rfl rfl rfl rfl trivial ?_
  refine TL.cases rfl (fun q10 => ?_) (fun q10 => ?_)
  refine TL.done (TQ.then (TC.condT rfl (TC.region ?_)))
  refine TL.mv (.int _ _) rfl rfl rfl ?_
  refine TL.add (((cntF d lv v k + 1 : Nat) : Int)) rfl rfl (wrN (by omega)) rfl rfl ?_
  refine TL.asg (.int _ _) rfl rfl rfl ?_
  refine TL.done (TQ.inBlock (TQ.then (TC.region ?_)))
  refine TL.add (((k + 1 : Nat) : Int)) rfl rfl (wrN (by omega)) rfl rfl ?_
  refine TL.mv (.int _ _) rfl rfl rfl ?_
  refine TL.done ?_
  refine TQ.roundK (k + 1) ⟨(by omega), (by omega)⟩ ⟨rfl, congrArg (fun z : Nat => some (Value.int .i64 (z : Int))) (cntF_F (by assumption)), congrArg (fun z : Nat => some (Value.int .i64 (z : Int))) (cntF_T (by assumption)), trivial⟩ trivial (.cons rfl rfl (.cons rfl rfl (.cons rfl rfl (.cons rfl rfl (.cons rfl rfl (.cons rfl rfl trivial)))))) (.cons rfl rfl (.cons rfl rfl (.cons rfl rfl (.cons rfl rfl (.cons rfl rfl (.cons rfl rfl trivial))))))
  refine TL.done (TQ.then (TC.condF rfl (TC.skip (TQ.inBlock (TQ.then (TC.region ?_))))))
  refine TL.add (((k + 1 : Nat) : Int)) rfl rfl (wrN (by omega)) rfl rfl ?_
  refine TL.mv (.int _ _) rfl rfl rfl ?_
  refine TL.done ?_
  refine TQ.roundK (k + 1) ⟨(by omega), (by omega)⟩ ⟨rfl, congrArg (fun z : Nat => some (Value.int .i64 (z : Int))) (cntF_F (by assumption)), congrArg (fun z : Nat => some (Value.int .i64 (z : Int))) (cntF_F (by assumption)), trivial⟩ trivial (.cons rfl rfl (.cons rfl rfl (.cons rfl rfl (.cons rfl rfl (.cons rfl rfl (.cons rfl rfl trivial)))))) (.cons rfl rfl (.cons rfl rfl (.cons rfl rfl (.cons rfl rfl (.cons rfl rfl (.cons rfl rfl trivial))))))
  refine TL.done (TQ.then (TC.seq (TC.condF rfl (TC.exit (TQ.thenExit (TQ.thenExit (TQ.blockHere ?_)))))))
  refine TQ.then (TC.seq (TC.region ?_))
  refine TL.mv (.int _ _) rfl rfl rfl ?_
  refine TL.asg (.int _ _) rfl rfl rfl ?_
  refine TL.done (TQ.then (TC.seq (TC.seq (TC.region ?_))))
  refine TL.mv (.int _ _) rfl rfl rfl ?_
  refine TL.mv (.int _ _) rfl rfl rfl ?_
  refine TL.lss rfl rfl rfl rfl (fun q9 => ?_) (fun q9 => ?_)
  refine TL.done (TQ.then (TC.condT rfl (TC.region ?_)))
  refine TL.mv (.int _ _) rfl rfl rfl ?_
  refine TL.asg (.int _ _) rfl rfl rfl ?_
  refine TL.done (TQ.then (TC.seq (TC.region ?_)))
  refine TL.mv (.pointer (some ⟨_, _, none⟩)) rfl rfl rfl ?_
  refine TL.nc rfl rfl rfl ?_
  refine TL.fa 4 rfl fc_f54_2_4 rfl rfl ?_
  refine TL.ldA 3 10 [_, _, _, _, _, _, _, _, _, _] rfl rfl rfl fc_a51_10 rfl rfl ?_
  refine TL.mv (.int _ _) rfl rfl rfl ?_
  refine TL.mv (.int _ _) rfl rfl rfl ?_
  refine TL.mv (.int _ _) rfl rfl rfl ?_
  refine TL.callD [4] [4] (smaller_ok (p := P1) plainM hl (hR.smaller hl (i := lv) (u := u) (v := v) ⟨⟨by omega, by omega⟩, by omega, by omega⟩ ⟨⟨by omega, by omega⟩, by omega, by omega⟩)) ⟨rfl, rfl, rfl, rfl, trivial⟩ ⟨rfl, trivial⟩ fc_c26 rfl rfl rfl rfl rfl trivial ?_
  refine TL.mv (.int _ _) rfl rfl rfl ?_
  refine TL.eqlT rfl rfl (by obtain rfl : k = l.V := (by omega) ; first | exact if_pos (by omega) | exact if_neg (by omega)) rfl rfl ?_
  refine TL.mv (.bool true) rfl rfl rfl ?_
  refine TL.callD [] [] awake13_ok trivial trivial fc_c15 rfl rfl rfl rfl rfl trivial ?_
  refine TL.pickT (.bool true) rfl rfl rfl rfl ?_
  refine TL.asg (.bool true) rfl rfl rfl ?_
  refine TL.done (TQ.then (TC.ret ?_))
  refine FQ.ret1 (v := (.bool true)) (Bs := [_]) [0] rfl rfl rfl ⟨rfl, trivial⟩ ?_
  exact ⟨rfl, rfl⟩
  refine TL.done (TQ.then (TC.condF rfl (TC.skip (TQ.then (TC.seq (TC.region ?_))))))
  refine TL.mv (.pointer (some ⟨_, _, none⟩)) rfl rfl rfl ?_
  refine TL.nc rfl rfl rfl ?_
  refine TL.fa 4 rfl fc_f54_2_4 rfl rfl ?_
  refine TL.ldA 3 10 [_, _, _, _, _, _, _, _, _, _] rfl rfl rfl fc_a51_10 rfl rfl ?_
  refine TL.mv (.int _ _) rfl rfl rfl ?_
  refine TL.mv (.int _ _) rfl rfl rfl ?_
  refine TL.mv (.int _ _) rfl rfl rfl ?_
  refine TL.callD [4] [4] (smaller_ok (p := P1) plainM hl (hR.smaller hl (i := lv) (u := u) (v := v) ⟨⟨by omega, by omega⟩, by omega, by omega⟩ ⟨⟨by omega, by omega⟩, by omega, by omega⟩)) ⟨rfl, rfl, rfl, rfl, trivial⟩ ⟨rfl, trivial⟩ fc_c26 rfl rfl rfl rfl rfl trivial ?_
  refine TL.mv (.int _ _) rfl rfl rfl ?_
  refine TL.eqlT rfl rfl (by obtain rfl : k = l.V := (by omega) ; first | exact if_pos (by omega) | exact if_neg (by omega)) rfl rfl ?_
  refine TL.mv (.bool true) rfl rfl rfl ?_
  refine TL.callD [] [] awake13_ok trivial trivial fc_c15 rfl rfl rfl rfl rfl trivial ?_
  refine TL.pickT (.bool true) rfl rfl rfl rfl ?_
  refine TL.asg (.bool true) rfl rfl rfl ?_
  refine TL.done (TQ.then (TC.ret ?_))
  refine FQ.ret1 (v := (.bool true)) (Bs := [_]) [0] rfl rfl rfl ⟨rfl, trivial⟩ ?_
  exact ⟨rfl, rfl⟩



end Go.Proofs.YtfmjfdbmpkcndaaGreat
