import Derived.Test.YtfogkdaomfmbcaaGreatConA
set_option linter.unusedVariables false
set_option linter.unusedSimpArgs false
set_option maxRecDepth 20000
namespace Go.Proofs.YtfogkdaomfmbcaaGreat
open Go.Eng Go.Tm
theorem anew_ok {N : Nat} (hN : N ≤ 16384) : Go.Eng.Fn Tryz.prog 9 [.int .i64 ((N : Nat) : Int)] [] (fun v Bs => ∃ ab mb, v = .tuple #[.pointer (some ⟨ab, 0, none⟩), .int .i64 0] ∧ Bs = [arenaA ab mb 75 33 (Array.replicate N 0)]) := by
  refine Fn.enter (Tryz.func9) rfl rfl (fun w0 R => ?_)
  refine TC.seq ?_
  refine TC.region ?_
  refine TL.asg (.pointer none) rfl rfl rfl ?_
  refine TL.asg (.int _ _) rfl rfl rfl ?_
  refine TL.done ?_
  refine TQ.then ?_
  refine TC.seq ?_
  refine TC.seq ?_
  refine TC.region ?_
  refine TL.mv (.int _ _) rfl rfl rfl ?_
  refine TL.lssF rfl rfl (by omega) rfl rfl ?_
  refine TL.mv (.bool false) rfl rfl rfl ?_
  refine TL.mv (.int _ _) rfl rfl rfl ?_
  refine TL.gtrF rfl rfl (by omega) rfl rfl ?_
  refine TL.pickF (.bool false) rfl rfl rfl rfl ?_
  refine TL.done ?_
  refine TQ.then ?_
  refine TC.condF rfl ?_
  refine TC.skip ?_
  refine TQ.then ?_
  refine TC.seq ?_
  refine TC.region ?_
  refine TL.mv (.int _ _) rfl rfl rfl ?_
  refine TL.mkS 0 rfl rfl fc_k27_33_1 fc_z33 rfl (by omega) rfl rfl (fun bk0 => ⟨trivial, ?_⟩)
  refine TL.bld [.slice none 0 0, .int .i64 0, .int .i64 0, .int .i64 0, .int .i64 0, .int .i64 0] [(.slice _ _ _)] [_, _, _, _, _, _] fc_z75 fc_q75 ⟨rfl, trivial⟩ ⟨rfl, rfl⟩ rfl rfl ?_
  refine TL.boxA 1 rfl rfl rfl (fun _ => trivial) (fun bk1 => ?_)
  refine TL.asg (.pointer (some ⟨_, _, none⟩)) rfl rfl rfl ?_
  refine TL.asg (.int _ _) rfl rfl rfl ?_
  refine TL.done ?_
  refine TQ.then ?_
  refine TC.ret ?_
  refine TQ.conseq 0 (B := pt _ (.cells (encM (Array.replicate N 0)) 33)) rfl (fun h hh => by rw [← encM_rep]; exact hh) ?_
  refine TQ.arena 1 0 (N := N) (c := ⟨0, 0, 0, 0, 0⟩) (by simp) rfl rfl (by decide) ?_
  refine FQ.ret2 (v := (.pointer (some ⟨_, _, none⟩))) (x := (.int _ _)) (Bs := [_]) [1] rfl rfl rfl rfl ⟨rfl, trivial⟩ ?_
  exact ⟨_, _, rfl, rfl⟩

theorem memof_ok {ab : Nat} : FnD Tryz.prog 32 [.pointer (some ⟨ab, 0, none⟩)] [] (.agg #[.pointer (some ⟨ab, 0, none⟩)]) [] := by
  refine Fn.enter (Tryz.func32) rfl rfl (fun w0 R => ?_)
  refine TC.seq ?_
  refine TC.region ?_
  refine TL.alloc 0 (cs := #[.pointer none]) fc_z85 rfl rfl rfl (fun _ => trivial) (fun bk0 => ?_)
  refine TL.done ?_
  refine TQ.then ?_
  refine TC.seq ?_
  refine TC.region ?_
  refine TL.mv (.pointer (some ⟨_, _, none⟩)) rfl rfl rfl ?_
  refine TL.bld [.pointer none] [(.pointer (some ⟨_, _, none⟩))] [_] fc_z85 fc_q85 ⟨rfl, trivial⟩ ⟨rfl, rfl⟩ rfl rfl ?_
  refine TL.stW 0 1 [_] rfl rfl rfl rfl rfl rfl fc_a85_1 rfl rfl trivial ?_
  refine TL.done ?_
  refine TQ.then ?_
  refine TC.ret ?_
  refine FQ.retG (rs := [.cell 2 85]) [(.agg _)] (Bs := []) [] rfl ⟨⟨_, _, _, _, _, 0, rfl, rfl, .inr ⟨1, [_], fc_a85_1, rfl, rfl⟩⟩, trivial⟩ rfl rfl trivial ?_
  exact ⟨rfl, rfl⟩

theorem lright5_ok {l : Lay} (hl : l.Ok)  : FnD Tryz.prog 40 [layV l] [] (.bool true) [] := by
  have hb := lay_bds hl
  refine Fn.enter (Tryz.func40) rfl rfl (fun w0 R => ?_)
  refine TC.seq ?_
  refine TC.region ?_
  refine TL.boxA 0 rfl rfl rfl (fun _ => trivial) (fun bk0 => ?_)
  refine TL.asg (.bool false) rfl rfl rfl ?_
  refine TL.done ?_
  refine TQ.then ?_
  refine TC.seq ?_
  refine TC.region ?_
  refine TL.fa 0 rfl fc_f45_0_0 rfl rfl ?_
  refine TL.ld 0 (.int _ _) rfl rfl rfl fc_s3 rfl rfl ?_
  refine TL.sub _ rfl rfl (wr64 (by omega)) rfl rfl ?_
  refine TL.callD [] [] below_ok ⟨rfl, rfl, trivial⟩ trivial fc_c54 rfl rfl rfl rfl rfl trivial ?_
  refine TL.casesP rfl (fun q1 => ?_) (fun q1 => ?_)
  · skip
    refine TL.mv (.bool true) rfl rfl rfl ?_
    refine TL.fa 1 rfl fc_f45_1_1 rfl rfl ?_
    refine TL.ld 0 (.int _ _) rfl rfl rfl fc_s3 rfl rfl ?_
    refine TL.callD [] [] below_ok ⟨rfl, rfl, trivial⟩ trivial fc_c54 rfl rfl rfl rfl rfl trivial ?_
    refine TL.casesP rfl (fun q2 => ?_) (fun q2 => ?_)
    · skip
      refine TL.pickT (.bool true) rfl rfl rfl rfl ?_
      refine TL.mv (.bool true) rfl rfl rfl ?_
      refine TL.fa 2 rfl fc_f45_2_2 rfl rfl ?_
      refine TL.ld 0 (.int _ _) rfl rfl rfl fc_s3 rfl rfl ?_
      refine TL.sub _ rfl rfl (wr64 (by omega)) rfl rfl ?_
      refine TL.callD [] [] below_ok ⟨rfl, rfl, trivial⟩ trivial fc_c54 rfl rfl rfl rfl rfl trivial ?_
      refine TL.pickT (.bool _) rfl rfl rfl rfl ?_
      refine TL.asg (.bool _) rfl rfl rfl ?_
      refine TL.done ?_
      refine TQ.then ?_
      refine TC.ret ?_
      refine FQ.ret1 (v := (.bool _)) (Bs := []) [] rfl rfl rfl trivial ?_
      first | exact ⟨congrArg Value.bool (decide_eq_true (by omega)), rfl⟩ | (exfalso; omega)
    · skip
      refine TL.pickT (.bool false) rfl rfl rfl rfl ?_
      refine TL.mv (.bool false) rfl rfl rfl ?_
      refine TL.off rfl rfl ?_
      refine TL.off rfl rfl ?_
      refine TL.off rfl rfl ?_
      refine TL.off rfl rfl ?_
      refine TL.pickF (.bool false) rfl rfl rfl rfl ?_
      refine TL.asg (.bool false) rfl rfl rfl ?_
      refine TL.done ?_
      refine TQ.then ?_
      refine TC.ret ?_
      refine FQ.ret1 (v := (.bool false)) (Bs := []) [] rfl rfl rfl trivial ?_
      first | exact ⟨congrArg Value.bool (decide_eq_true (by omega)), rfl⟩ | (exfalso; omega)
  · skip
    refine TL.mv (.bool false) rfl rfl rfl ?_
    refine TL.off rfl rfl ?_
    refine TL.off rfl rfl ?_
    refine TL.off rfl rfl ?_
    refine TL.pickF (.bool false) rfl rfl rfl rfl ?_
    refine TL.mv (.bool false) rfl rfl rfl ?_
    refine TL.off rfl rfl ?_
    refine TL.off rfl rfl ?_
    refine TL.off rfl rfl ?_
    refine TL.off rfl rfl ?_
    refine TL.pickF (.bool false) rfl rfl rfl rfl ?_
    refine TL.asg (.bool false) rfl rfl rfl ?_
    refine TL.done ?_
    refine TQ.then ?_
    refine TC.ret ?_
    refine FQ.ret1 (v := (.bool false)) (Bs := []) [] rfl rfl rfl trivial ?_
    first | exact ⟨congrArg Value.bool (decide_eq_true (by omega)), rfl⟩ | (exfalso; omega)

theorem nfree_ok {l : Lay} (hl : l.Ok) {s : Int} : FnD Tryz.prog 73 [layV l, .int .i64 s] [] (.int .i64 (l.of s 0)) [] := by
  have hb := lay_bds hl
  refine Fn.enter (Tryz.func73) rfl rfl (fun w0 R => ?_)
  refine TC.seq ?_
  refine TC.region ?_
  refine TL.boxA 0 rfl rfl rfl (fun _ => trivial) (fun bk0 => ?_)
  refine TL.asg (.int _ _) rfl rfl rfl ?_
  refine TL.done ?_
  refine TQ.then ?_
  refine TC.seq ?_
  refine TC.region ?_
  refine TL.ldA 0 3 [_, _, _] rfl rfl rfl fc_a45_3 rfl rfl ?_
  refine TL.mv (.int _ _) rfl rfl rfl ?_
  refine TL.callD [] [] (of_ok hl (by omega)) ⟨rfl, rfl, rfl, trivial⟩ trivial fc_c119 rfl rfl rfl rfl rfl trivial ?_
  refine TL.asg (.int _ _) rfl rfl rfl ?_
  refine TL.done ?_
  refine TQ.then ?_
  refine TC.ret ?_
  refine FQ.ret1 (v := (.int _ _)) (Bs := []) [] rfl rfl rfl trivial ?_
  exact ⟨rfl, rfl⟩

theorem wof_ok {x : Int} : FnD Tryz.prog 126 [.int .i64 x] [] (wdV (wof x)) [] := by
  refine Fn.enter (Tryz.func126) rfl rfl (fun w0 R => ?_)
  refine TC.seq ?_
  refine TC.region ?_
  refine TL.alloc 0 (cs := #[.int .i64 0, .int .i64 0, .int .i64 0, .int .i64 0]) fc_z191 rfl rfl rfl (fun _ => trivial) (fun bk0 => ?_)
  refine TL.done ?_
  refine TQ.then ?_
  refine TC.seq ?_
  refine TC.region ?_
  refine TL.mv (.int _ _) rfl rfl rfl ?_
  refine TL.max2 rfl rfl rfl rfl ?_
  refine TL.min2 rfl rfl rfl rfl ?_
  refine TL.asg (.int _ _) rfl rfl rfl ?_
  refine TL.done ?_
  refine TQ.then ?_
  refine TC.seq ?_
  refine TC.region ?_
  refine TL.mv (.int _ _) rfl rfl rfl ?_
  refine TL.mv (.int _ _) rfl rfl rfl ?_
  refine TL.bld [.int .i64 0, .int .i64 0, .int .i64 0, .int .i64 0] [(.int _ _), (.int _ _)] [_, _, _, _] fc_z191 fc_q191 ⟨rfl, rfl, trivial⟩ ⟨rfl, rfl⟩ rfl rfl ?_
  refine TL.stW 0 4 [_, _, _, _] rfl rfl rfl rfl rfl rfl fc_a191_4 rfl rfl trivial ?_
  refine TL.done ?_
  refine TQ.then ?_
  refine TC.ret ?_
  refine FQ.retG (rs := [.cell 2 191]) [(.agg _)] (Bs := []) [] rfl ⟨⟨_, _, _, _, _, 0, rfl, rfl, .inr ⟨4, [_, _, _, _], fc_a191_4, rfl, rfl⟩⟩, trivial⟩ rfl rfl trivial ?_
  exact ⟨rfl, rfl⟩

theorem cleanF_ok {o m t g : Int} : FnD Tryz.prog 125 [.agg #[.int .i64 o, .int .i64 m, .int .i64 t, .int .i64 g]] [] (wdV (wof m)) [] := by
  refine Fn.enter (Tryz.func125) rfl rfl (fun w0 R => ?_)
  refine TC.seq ?_
  refine TC.region ?_
  refine TL.boxA 0 rfl rfl rfl (fun _ => trivial) (fun bk0 => ?_)
  refine TL.alloc 1 (cs := #[.int .i64 0, .int .i64 0, .int .i64 0, .int .i64 0]) fc_z191 rfl rfl rfl (fun _ => trivial) (fun bk1 => ?_)
  refine TL.done ?_
  refine TQ.then ?_
  refine TC.seq ?_
  refine TC.region ?_
  refine TL.fa 1 rfl fc_f191_1_1 rfl rfl ?_
  refine TL.ld 0 (.int _ _) rfl rfl rfl fc_s3 rfl rfl ?_
  refine TL.callD [] [] wof_ok ⟨rfl, trivial⟩ trivial fc_c126 rfl rfl rfl rfl rfl trivial ?_
  refine TL.stW 1 4 [_, _, _, _] rfl rfl rfl rfl rfl rfl fc_a191_4 rfl rfl trivial ?_
  refine TL.done ?_
  refine TQ.then ?_
  refine TC.ret ?_
  refine FQ.retG (rs := [.cell 2 191]) [(.agg _)] (Bs := []) [] rfl ⟨⟨_, _, _, _, _, 1, rfl, rfl, .inr ⟨4, [_, _, _, _], fc_a191_4, rfl, rfl⟩⟩, trivial⟩ rfl rfl trivial ?_
  exact ⟨rfl, rfl⟩

theorem change_c {S : Type} [MemLike S] {mt : TypeId} {mv : Value} {A : S → Assn} (hM : MemI Tryz.prog mt mv A) {σ : S} {c : Int} : Go.Eng.Fn Tryz.prog 124 [.iface mt mv, .int .i64 c, .func (.func 125) #[] #[]] [A σ] (fun v Bs => v = .tuple #[] ∧ ∃ σ2 : S, Bs = [A σ2]) := by
  refine Fn.enter (Tryz.func124) rfl rfl (fun w0 R => ?_)
  refine TC.seq ?_
  refine TC.region ?_
  refine TL.mv (.iface _ _) rfl rfl rfl ?_
  refine TL.mv (.int _ _) rfl rfl rfl ?_
  refine TL.mload 0 hM rfl rfl rfl rfl rfl trivial ?_
  refine TL.callD [] [] unpack_ok ⟨rfl, trivial⟩ trivial fc_c130 rfl rfl rfl rfl rfl trivial ?_
  refine TL.mv (.tuple _) rfl rfl rfl ?_
  refine TL.ext (.agg _) rfl rfl rfl rfl ?_
  refine TL.ext (.int _ _) rfl rfl rfl rfl ?_
  refine TL.alloc 1 (cs := #[.int .i64 0, .int .i64 0, .int .i64 0, .int .i64 0]) fc_z191 rfl rfl rfl (fun _ => trivial) (fun bk1 => ?_)
  refine TL.stW 1 4 [_, _, _, _] rfl rfl rfl rfl rfl rfl fc_a191_4 rfl rfl trivial ?_
  refine TL.asg (.int _ _) rfl rfl rfl ?_
  refine TL.done ?_
  refine TQ.then ?_
  refine TC.seq ?_
  refine TC.seq ?_
  refine TC.region ?_
  refine TL.mv (.int _ _) rfl rfl rfl ?_
  refine TL.neq rfl rfl rfl rfl (fun q1 => ?_) (fun q1 => ?_)
  · skip
    refine TL.done ?_
    refine TQ.then ?_
    refine TC.condT rfl ?_
    refine TC.ret ?_
    refine TQ.thenRet ?_
    refine FQ.ret0 (Bs := [_]) [0] rfl rfl ⟨rfl, trivial⟩ ?_
    exact ⟨rfl, _, rfl⟩
  · skip
    refine TL.done ?_
    refine TQ.then ?_
    refine TC.condF rfl ?_
    refine TC.skip ?_
    refine TQ.then ?_
    refine TC.seq ?_
    refine TC.region ?_
    refine TL.mv _ rfl rfl rfl ?_
    refine TL.ldA 1 4 [_, _, _, _] rfl rfl rfl fc_a191_4 rfl rfl ?_
    refine TL.callC (c1 := []) (c2 := []) (vs := [_]) [] [] rfl cleanF_ok ⟨rfl, trivial⟩ trivial fc_c125 rfl rfl rfl rfl rfl trivial ?_
    refine TL.callD [] [] pack_ok ⟨rfl, trivial⟩ trivial fc_c173 rfl rfl rfl rfl rfl trivial ?_
    refine TL.mv (.tuple _) rfl rfl rfl ?_
    refine TL.ext (.int _ _) rfl rfl rfl rfl ?_
    refine TL.ext (.int _ _) rfl rfl rfl rfl ?_
    refine TL.asg (.int _ _) rfl rfl rfl ?_
    refine TL.asg (.int _ _) rfl rfl rfl ?_
    refine TL.done ?_
    refine TQ.then ?_
    refine TC.seq ?_
    refine TC.region ?_
    refine TL.mv (.int _ _) rfl rfl rfl ?_
    refine TL.eql rfl rfl rfl rfl (fun q2 => ?_) (fun q2 => ?_)
    · skip
      refine TL.done ?_
      refine TQ.then ?_
      refine TC.condT rfl ?_
      refine TC.region ?_
      refine TL.mv (.iface _ _) rfl rfl rfl ?_
      refine TL.mv (.int _ _) rfl rfl rfl ?_
      refine TL.mv (.int _ _) rfl rfl rfl ?_
      refine TL.mstore 0 hM rfl rfl rfl (packif_rng _) rfl rfl rfl trivial ?_
      refine TL.done ?_
      refine FQ.end0 (Bs := [_]) [0] rfl rfl ⟨rfl, trivial⟩ ?_
      exact ⟨rfl, _, rfl⟩
    · skip
      refine TL.done ?_
      refine TQ.then ?_
      refine TC.condF rfl ?_
      refine TC.skip ?_
      refine FQ.end0 (Bs := [_]) [0] rfl rfl ⟨rfl, trivial⟩ ?_
      exact ⟨rfl, _, rfl⟩

theorem clean_ok {S : Type} [MemLike S] {mt : TypeId} {mv : Value} {A : S → Assn} (hM : MemI Tryz.prog mt mv A) {σ : S} {p : Pen} {c : Int} : Go.Eng.Fn Tryz.prog 78 [.agg #[.int .i64 p.thread, .int .i64 p.tag], .iface mt mv, .int .i64 c] [A σ] (fun v Bs => v = .tuple #[] ∧ ∃ σ2 : S, Bs = [A σ2]) := by
  refine Fn.enter (Tryz.func78) rfl rfl (fun w0 R => ?_)
  refine TC.seq ?_
  refine TC.region ?_
  refine TL.boxA 1 rfl rfl rfl (fun _ => trivial) (fun bk1 => ?_)
  refine TL.done ?_
  refine TQ.then ?_
  refine TC.region ?_
  refine TL.mv (.iface _ _) rfl rfl rfl ?_
  refine TL.mv (.int _ _) rfl rfl rfl ?_
  refine TL.call [0] [0] (change_c hM) ⟨rfl, rfl, rfl, trivial⟩ ⟨rfl, trivial⟩ fc_c124 rfl rfl rfl rfl ?_
  rintro v Bs ⟨rfl, σ2, rfl⟩
  refine ⟨rfl, trivial, ?_⟩
  refine TL.done ?_
  refine FQ.end0 (Bs := [_]) [0] rfl rfl ⟨rfl, trivial⟩ ?_
  exact ⟨rfl, _, rfl⟩

theorem bnode_ok {S : Type} [MemLike S] {mt : TypeId} {mv : Value} {A : S → Assn} (hM : MemI Tryz.prog mt mv A) {l : Lay} (hl : l.Ok) {p : Pen} {σ : S} {x y : Int} (hy : 0 ≤ y ∧ y < 18446744073709551616) : Go.Eng.Fn Tryz.prog 44 [treesV l mt mv p, .int .i64 x, .int .u64 y] [A σ] (fun v Bs => v = .tuple #[] ∧ ∃ σ2 : S, Bs = [A σ2]) := by
  refine Fn.enter (Tryz.func44) rfl rfl (fun w0 R => ?_)
  refine TC.seq ?_
  refine TC.region ?_
  refine TL.boxA 1 rfl rfl rfl (fun _ => trivial) (fun bk1 => ?_)
  refine TL.done ?_
  refine TQ.then ?_
  refine TC.seq ?_
  refine TC.draw [(0, true), (1, true), (2, true), (3, true), (4, true), (6, true), (7, true), (8, true), (5, false), (9, false)] [1] fc_m (by kernel_rfl) ?_
  refine TL.fa 3 rfl fc_f100_1_3 rfl rfl ?_
  refine TL.ld 1 (.iface _ _) rfl rfl rfl fc_s98 rfl rfl ?_
  refine TL.fa 0 rfl fc_f100_0_0 rfl rfl ?_
  refine TL.ldA 1 3 [_, _, _] rfl rfl rfl fc_a45_3 rfl rfl ?_
  refine TL.mv (.int _ _) rfl rfl rfl ?_
  refine TL.mv (.int _ _) rfl rfl rfl ?_
  refine TL.ncI rfl rfl rfl ?_
  refine TL.mv (.iface _ _) rfl rfl rfl ?_
  refine TL.callD [] [] (field_ok hl) ⟨rfl, rfl, rfl, trivial⟩ trivial fc_c23 rfl rfl rfl rfl rfl (.cons rfl rfl trivial) ?_
  refine TL.mstore 0 hM rfl rfl rfl (by first | exact wu_rng _ | exact orU_rng _ _ | exact MemLike.rng _ _ | decide | assumption) rfl rfl rfl (.cons rfl rfl trivial) ?_
  refine TL.done ?_
  refine TQ.then ?_
  refine TC.seq ?_
  refine TC.region ?_
  refine TL.ldA 1 6 [_, _, _, _, _, _] rfl rfl rfl fc_a100_6 rfl rfl ?_
  refine TL.mv (.int _ _) rfl rfl rfl ?_
  refine TL.callD [0] [0] (alone_ok hM hl) ⟨rfl, rfl, trivial⟩ ⟨rfl, trivial⟩ fc_c77 rfl rfl rfl rfl rfl trivial ?_
  refine TL.done ?_
  refine TQ.then ?_
  refine TC.seq ?_
  refine TC.draw [(0, true), (1, true), (2, true), (3, true), (4, true), (5, true), (6, true), (7, false), (8, false)] [1] fc_m (by kernel_rfl) ?_
  refine TL.fa 4 rfl fc_f100_2_4 rfl rfl ?_
  refine TL.ldA 1 2 [_, _] rfl rfl rfl fc_a70_2 rfl rfl ?_
  refine TL.fa 3 rfl fc_f100_1_3 rfl rfl ?_
  refine TL.ld 1 (.iface _ _) rfl rfl rfl fc_s98 rfl rfl ?_
  refine TL.fa 0 rfl fc_f100_0_0 rfl rfl ?_
  refine TL.ldA 1 3 [_, _, _] rfl rfl rfl fc_a45_3 rfl rfl ?_
  refine TL.mv (.int _ _) rfl rfl rfl ?_
  refine TL.callD [] [] (field_ok hl) ⟨rfl, rfl, rfl, trivial⟩ trivial fc_c23 rfl rfl rfl rfl rfl (.cons rfl rfl trivial) ?_
  refine TL.call [0] [0] (clean_ok hM) ⟨rfl, rfl, rfl, trivial⟩ ⟨rfl, trivial⟩ fc_c78 rfl rfl rfl rfl ?_
  rintro v Bs ⟨rfl, σ2, rfl⟩
  refine ⟨rfl, (.cons rfl rfl trivial), ?_⟩
  refine TL.done ?_
  refine TQ.then ?_
  refine TC.seq ?_
  refine TC.region ?_
  refine TL.asg (.int _ _) rfl rfl rfl ?_
  refine TL.done ?_
  refine TQ.then ?_
  refine TC.seq ?_
  refine TC.seq ?_
  refine TC.region ?_
  refine TL.fa 0 rfl fc_f100_0_0 rfl rfl ?_
  refine TL.ldA 1 3 [_, _, _] rfl rfl rfl fc_a45_3 rfl rfl ?_
  refine TL.mv (.int _ _) rfl rfl rfl ?_
  refine TL.callD [] [] (node_ok hl) ⟨rfl, rfl, trivial⟩ trivial fc_c79 rfl rfl rfl rfl rfl trivial ?_
  refine TL.mv (.tuple _) rfl rfl rfl ?_
  refine TL.ext (.agg _) rfl rfl rfl rfl ?_
  refine TL.ext (.bool _) rfl rfl rfl rfl ?_
  refine TL.alloc 2 (cs := #[.bool false, .int .i64 0, .int .i64 0, .int .i64 0, .int .i64 0]) fc_z142 rfl rfl rfl (fun _ => trivial) (fun bk2 => ?_)
  refine TL.stW 2 5 [_, _, _, _, _] rfl rfl rfl rfl rfl rfl fc_a142_5 rfl rfl trivial ?_
  refine TL.asg (.bool _) rfl rfl rfl ?_
  refine TL.done ?_
  refine TQ.then ?_
  refine TC.seq ?_
  refine TC.region ?_
  refine TL.fa 0 rfl fc_f142_0_0 rfl rfl ?_
  refine TL.ld 2 (.bool _) rfl rfl rfl fc_s4 rfl rfl ?_
  refine TL.not _ _ rfl rfl rfl rfl ?_
  refine TL.mv (.bool _) rfl rfl rfl ?_
  refine TL.cases rfl (fun q1 => ?_) (fun q1 => ?_)
  · skip
    refine TL.fa 1 rfl fc_f142_1_1 rfl rfl ?_
    refine TL.ld 2 (.int _ _) rfl rfl rfl fc_s3 rfl rfl ?_
    refine TL.eql rfl rfl rfl rfl (fun q2 => ?_) (fun q2 => ?_)
    · skip
      refine TL.pickT (.bool true) rfl rfl rfl rfl ?_
      refine TL.done ?_
      refine TQ.then ?_
      refine TC.condT rfl ?_
      refine TC.region ?_
      refine TL.asg (.int _ _) rfl rfl rfl ?_
      refine TL.done ?_
      refine TQ.then ?_
      refine TC.draw [(0, true), (1, true), (2, true), (3, true), (4, true), (6, true), (7, true), (8, true), (5, false), (9, false)] [1] fc_m (by kernel_rfl) ?_
      refine TL.fa 3 rfl fc_f100_1_3 rfl rfl ?_
      refine TL.ld 1 (.iface _ _) rfl rfl rfl fc_s98 rfl rfl ?_
      refine TL.fa 0 rfl fc_f100_0_0 rfl rfl ?_
      refine TL.ldA 1 3 [_, _, _] rfl rfl rfl fc_a45_3 rfl rfl ?_
      refine TL.mv (.int _ _) rfl rfl rfl ?_
      refine TL.mv (.int _ _) rfl rfl rfl ?_
      refine TL.ncI rfl rfl rfl ?_
      refine TL.mv (.iface _ _) rfl rfl rfl ?_
      refine TL.callD [] [] (field_ok hl) ⟨rfl, rfl, rfl, trivial⟩ trivial fc_c23 rfl rfl rfl rfl rfl (.cons rfl rfl trivial) ?_
      refine TL.mstore 0 hM rfl rfl rfl (by first | exact wu_rng _ | exact orU_rng _ _ | exact MemLike.rng _ _ | decide | assumption) rfl rfl rfl (.cons rfl rfl trivial) ?_
      refine TL.done ?_
      refine FQ.end0 (Bs := [_]) [0] rfl rfl ⟨rfl, trivial⟩ ?_
      exact ⟨rfl, _, rfl⟩
    · skip
      refine TL.pickT (.bool false) rfl rfl rfl rfl ?_
      refine TL.done ?_
      refine TQ.then ?_
      refine TC.condF rfl ?_
      refine TC.skip ?_
      refine TQ.then ?_
      refine TC.draw [(0, true), (1, true), (2, true), (3, true), (4, true), (6, true), (7, true), (8, true), (5, false), (9, false)] [1] fc_m (by kernel_rfl) ?_
      refine TL.fa 3 rfl fc_f100_1_3 rfl rfl ?_
      refine TL.ld 1 (.iface _ _) rfl rfl rfl fc_s98 rfl rfl ?_
      refine TL.fa 0 rfl fc_f100_0_0 rfl rfl ?_
      refine TL.ldA 1 3 [_, _, _] rfl rfl rfl fc_a45_3 rfl rfl ?_
      refine TL.mv (.int _ _) rfl rfl rfl ?_
      refine TL.mv (.int _ _) rfl rfl rfl ?_
      refine TL.ncI rfl rfl rfl ?_
      refine TL.mv (.iface _ _) rfl rfl rfl ?_
      refine TL.callD [] [] (field_ok hl) ⟨rfl, rfl, rfl, trivial⟩ trivial fc_c23 rfl rfl rfl rfl rfl (.cons rfl rfl trivial) ?_
      refine TL.mstore 0 hM rfl rfl rfl (by first | exact wu_rng _ | exact orU_rng _ _ | exact MemLike.rng _ _ | decide | assumption) rfl rfl rfl (.cons rfl rfl trivial) ?_
      refine TL.done ?_
      refine FQ.end0 (Bs := [_]) [0] rfl rfl ⟨rfl, trivial⟩ ?_
      exact ⟨rfl, _, rfl⟩
  · skip
    refine TL.off rfl rfl ?_
    refine TL.off rfl rfl ?_
    refine TL.off rfl rfl ?_
    refine TL.pickF (.bool false) rfl rfl rfl rfl ?_
    refine TL.done ?_
    refine TQ.then ?_
    refine TC.condF rfl ?_
    refine TC.skip ?_
    refine TQ.then ?_
    refine TC.draw [(0, true), (1, true), (2, true), (3, true), (4, true), (6, true), (7, true), (8, true), (5, false), (9, false)] [1] fc_m (by kernel_rfl) ?_
    refine TL.fa 3 rfl fc_f100_1_3 rfl rfl ?_
    refine TL.ld 1 (.iface _ _) rfl rfl rfl fc_s98 rfl rfl ?_
    refine TL.fa 0 rfl fc_f100_0_0 rfl rfl ?_
    refine TL.ldA 1 3 [_, _, _] rfl rfl rfl fc_a45_3 rfl rfl ?_
    refine TL.mv (.int _ _) rfl rfl rfl ?_
    refine TL.mv (.int _ _) rfl rfl rfl ?_
    refine TL.ncI rfl rfl rfl ?_
    refine TL.mv (.iface _ _) rfl rfl rfl ?_
    refine TL.callD [] [] (field_ok hl) ⟨rfl, rfl, rfl, trivial⟩ trivial fc_c23 rfl rfl rfl rfl rfl (.cons rfl rfl trivial) ?_
    refine TL.mstore 0 hM rfl rfl rfl (by first | exact wu_rng _ | exact orU_rng _ _ | exact MemLike.rng _ _ | decide | assumption) rfl rfl rfl (.cons rfl rfl trivial) ?_
    refine TL.done ?_
    refine FQ.end0 (Bs := [_]) [0] rfl rfl ⟨rfl, trivial⟩ ?_
    exact ⟨rfl, _, rfl⟩

theorem init_ok {ab mb : Nat} {σ : Array UInt64} {l : Lay} (hl : l.Ok) : Go.Eng.Fn Tryz.prog 42 [.iface 85 (.agg #[.pointer (some ⟨ab, 0, none⟩)]), layV l] [arenaA ab mb 75 33 (σ)] (fun v Bs => v = .tuple #[] ∧ ∃ σ2 : Array UInt64, Bs = [arenaA ab mb 75 33 (σ2)]) := by
  have hb := lay_bds hl
  refine Fn.enter (Tryz.func42) rfl rfl (fun w0 R => ?_)
  refine TC.seq ?_
  refine TC.region ?_
  refine TL.boxA 1 rfl rfl rfl (fun _ => trivial) (fun bk1 => ?_)
  refine TL.done ?_
  refine TQ.then ?_
  refine TC.seq ?_
  refine TC.seq ?_
  refine TC.region ?_
  refine TL.fa 1 rfl fc_f45_1_1 rfl rfl ?_
  refine TL.ld 1 (.int _ _) rfl rfl rfl fc_s3 rfl rfl ?_
  refine TL.mv (.int _ _) rfl rfl rfl ?_
  refine TL.done ?_
  refine TQ.then ?_
  refine TC.block ?_
  refine TC.loopK (X := Nat × Array UInt64) [0, 3, 6] [1] (fun ⟨s, σ1⟩ => [(7, .int .i64 ((s : Nat) : Int))]) (fun ⟨s, σ1⟩ => [(0, arenaA ab mb 75 33 (σ1))]) (fun ⟨s, σ1⟩ => s ≤ l.S) (fun ⟨s, σ1⟩ => l.S - s) ((0, σ)) (Nat.zero_le _) ⟨rfl, trivial⟩ ⟨rfl, trivial⟩ (fun y hI => ?_)
  obtain ⟨s, σ1⟩ := y
  replace hI : s ≤ l.S := hI
  refine TC.sub (env' := [(7, _), (0, _), (3, _), (6, _)]) (L' := [(0, _), (1, _)]) ⟨rfl, rfl, rfl, rfl, trivial⟩ ⟨rfl, rfl, trivial⟩ ?_
  refine TC.seq ?_
  refine TC.region ?_
  refine TL.lss rfl rfl rfl rfl (fun q1 => ?_) (fun q1 => ?_)
  · skip
    refine TL.done ?_
    refine TQ.then ?_
    refine TC.seq ?_
    refine TC.condT rfl ?_
    refine TC.skip ?_
    refine TQ.then ?_
    refine TC.seq ?_
    refine TC.block ?_
    refine TC.seq ?_
    refine TC.region ?_
    refine TL.mv (.int _ _) rfl rfl rfl ?_
    refine TL.asg (.int _ _) rfl rfl rfl ?_
    refine TL.done ?_
    refine TQ.then ?_
    refine TC.draw [(0, true), (1, true), (2, true), (4, true), (5, true), (6, true), (7, true), (8, true), (9, true), (3, false), (10, false)] [1] fc_m (by kernel_rfl) ?_
    refine TL.mv (.iface _ _) rfl rfl rfl ?_
    refine TL.ldA 1 3 [_, _, _] rfl rfl rfl fc_a45_3 rfl rfl ?_
    refine TL.mv (.int _ _) rfl rfl rfl ?_
    refine TL.mv (.int _ _) rfl rfl rfl ?_
    refine TL.add _ rfl rfl (wr64 (by omega)) rfl rfl ?_
    refine TL.conv _ rfl fc_u3 fc_i33_u64 (rfl) rfl rfl ?_
    refine TL.mf (xs := [_]) (ys := []) [_] [] ⟨rfl, trivial⟩ trivial rfl rfl ?_
    refine TL.ncM fc_M85_Store_271 rfl rfl rfl ?_
    refine TL.mv (.iface _ _) rfl rfl rfl ?_
    refine TL.callD [] [] (nfree_ok hl) ⟨rfl, rfl, trivial⟩ trivial fc_c73 rfl rfl rfl rfl rfl (.cons rfl rfl trivial) ?_
    refine TL.mstore 0 plainM rfl rfl rfl (by first | exact wu_rng _ | exact orU_rng _ _ | exact MemLike.rng _ _ | decide | assumption) rfl rfl rfl (.cons rfl rfl trivial) ?_
    refine TL.done ?_
    refine TQ.inBlock ?_
    refine TQ.then ?_
    refine TC.region ?_
    refine TL.add (((s + 1 : Nat) : Int)) rfl rfl (wrN (by omega)) rfl rfl ?_
    refine TL.mv (.int _ _) rfl rfl rfl ?_
    refine TL.done ?_
    refine TQ.roundK ((s + 1, _)) ⟨(show s + 1 ≤ l.S by omega), (show l.S - (s + 1) < l.S - s by omega)⟩ ⟨rfl, trivial⟩ ⟨rfl, trivial⟩ (.cons rfl rfl (.cons rfl rfl (.cons rfl rfl trivial))) (.cons rfl rfl trivial)
  · skip
    refine TL.done ?_
    refine TQ.then ?_
    refine TC.seq ?_
    refine TC.condF rfl ?_
    refine TC.exit ?_
    refine TQ.thenExit ?_
    refine TQ.thenExit ?_
    refine TQ.blockHere ?_
    refine TQ.then ?_
    refine TC.seq ?_
    refine TC.seq ?_
    refine TC.region ?_
    refine TL.fa 1 rfl fc_f45_1_1 rfl rfl ?_
    refine TL.ld 1 (.int _ _) rfl rfl rfl fc_s3 rfl rfl ?_
    refine TL.eql rfl rfl rfl rfl (fun q2 => ?_) (fun q2 => ?_)
    · skip
      refine TL.done ?_
      refine TQ.then ?_
      refine TC.condT rfl ?_
      refine TC.seq ?_
      refine TC.draw [(0, true), (1, true), (3, true), (4, true), (5, true), (2, false), (6, false)] [1] fc_m (by kernel_rfl) ?_
      refine TL.mv (.iface _ _) rfl rfl rfl ?_
      refine TL.ldA 1 3 [_, _, _] rfl rfl rfl fc_a45_3 rfl rfl ?_
      refine TL.mf (xs := [_]) (ys := []) [_] [] ⟨rfl, trivial⟩ trivial rfl rfl ?_
      refine TL.ncM fc_M85_Store_271 rfl rfl rfl ?_
      refine TL.mv (.iface _ _) rfl rfl rfl ?_
      refine TL.callD [] [] (free_ok hl) ⟨rfl, trivial⟩ trivial fc_c74 rfl rfl rfl rfl rfl (.cons rfl rfl trivial) ?_
      refine TL.mstore 0 plainM rfl rfl rfl (by first | exact wu_rng _ | exact orU_rng _ _ | exact MemLike.rng _ _ | decide | assumption) rfl rfl rfl (.cons rfl rfl trivial) ?_
      refine TL.done ?_
      refine TQ.then ?_
      refine TC.ret ?_
      refine TQ.thenRet ?_
      refine FQ.ret0 (Bs := [_]) [0] rfl rfl ⟨rfl, trivial⟩ ?_
      exact ⟨rfl, _, rfl⟩
    · skip
      refine TL.done ?_
      refine TQ.then ?_
      refine TC.condF rfl ?_
      refine TC.skip ?_
      refine TQ.then ?_
      refine TC.seq ?_
      refine TC.draw [(0, true), (1, true), (2, true), (3, true), (4, true), (6, true), (7, true), (8, true), (5, false), (9, false)] [1] fc_m (by kernel_rfl) ?_
      refine TL.mv (.iface _ _) rfl rfl rfl ?_
      refine TL.ldA 1 3 [_, _, _] rfl rfl rfl fc_a45_3 rfl rfl ?_
      refine TL.fa 1 rfl fc_f45_1_1 rfl rfl ?_
      refine TL.ld 1 (.int _ _) rfl rfl rfl fc_s3 rfl rfl ?_
      refine TL.sub _ rfl rfl (wr64 (by omega)) rfl rfl ?_
      refine TL.mf (xs := [_]) (ys := []) [_] [] ⟨rfl, trivial⟩ trivial rfl rfl ?_
      refine TL.ncM fc_M85_Store_271 rfl rfl rfl ?_
      refine TL.mv (.iface _ _) rfl rfl rfl ?_
      refine TL.callD [] [] (nfree_ok hl) ⟨rfl, rfl, trivial⟩ trivial fc_c73 rfl rfl rfl rfl rfl (.cons rfl rfl trivial) ?_
      refine TL.mstore 0 plainM rfl rfl rfl (by first | exact wu_rng _ | exact orU_rng _ _ | exact MemLike.rng _ _ | decide | assumption) rfl rfl rfl (.cons rfl rfl trivial) ?_
      refine TL.done ?_
      refine TQ.then ?_
      refine TC.draw [(0, true), (1, true), (3, true), (4, true), (5, true), (2, false), (6, false)] [1] fc_m (by kernel_rfl) ?_
      refine TL.mv (.iface _ _) rfl rfl rfl ?_
      refine TL.ldA 1 3 [_, _, _] rfl rfl rfl fc_a45_3 rfl rfl ?_
      refine TL.mf (xs := [_]) (ys := []) [_] [] ⟨rfl, trivial⟩ trivial rfl rfl ?_
      refine TL.ncM fc_M85_Store_271 rfl rfl rfl ?_
      refine TL.mv (.iface _ _) rfl rfl rfl ?_
      refine TL.callD [] [] (free_ok hl) ⟨rfl, trivial⟩ trivial fc_c74 rfl rfl rfl rfl rfl (.cons rfl rfl trivial) ?_
      refine TL.mstore 0 plainM rfl rfl rfl (by first | exact wu_rng _ | exact orU_rng _ _ | exact MemLike.rng _ _ | decide | assumption) rfl rfl rfl (.cons rfl rfl trivial) ?_
      refine TL.done ?_
      refine FQ.end0 (Bs := [_]) [0] rfl rfl ⟨rfl, trivial⟩ ?_
      exact ⟨rfl, _, rfl⟩

theorem anew2_ok {z : Int} (h0 : 0 ≤ z) (h1 : z ≤ 16384) : Go.Eng.Fn Tryz.prog 9 [.int .i64 z] [] (fun v Bs => ∃ ab mb σ, v = .tuple #[.pointer (some ⟨ab, 0, none⟩), .int .i64 0] ∧ Bs = [arenaA ab mb 75 33 (σ)]) := by
  obtain ⟨N, rfl⟩ := Int.eq_ofNat_of_zero_le h0
  exact Fn_mono (anew_ok (by omega)) fun v Bs ⟨ab, mb, h2, h3⟩ => ⟨ab, mb, _, h2, h3⟩

theorem birth_ok {l : Lay} (hl : l.Ok) : Go.Eng.Fn Tryz.prog 21 [layV l, .slice none 0 0] [] (fun v Bs => ∃ ab mb σ, v = .tuple #[.pointer (some ⟨ab, 0, none⟩), .int .i64 0] ∧ Bs = [arenaA ab mb 75 33 (σ)]) := by
  have hb := lay_bds hl
  refine Fn.enter (Tryz.func21) rfl rfl (fun w0 R => ?_)
  refine TC.seq ?_
  refine TC.region ?_
  refine TL.boxA 0 rfl rfl rfl (fun _ => trivial) (fun bk0 => ?_)
  refine TL.asg (.pointer none) rfl rfl rfl ?_
  refine TL.asg (.int _ _) rfl rfl rfl ?_
  refine TL.done ?_
  refine TQ.then ?_
  refine TC.seq ?_
  refine TC.block ?_
  refine TC.seq ?_
  refine TC.region ?_
  refine TL.ldA 0 3 [_, _, _] rfl rfl rfl fc_a45_3 rfl rfl ?_
  refine TL.callD [] [] (lright5_ok hl) ⟨rfl, trivial⟩ trivial fc_c40 rfl rfl rfl rfl rfl trivial ?_
  refine TL.not true false rfl rfl rfl rfl ?_
  refine TL.asg (.bool false) rfl rfl rfl ?_
  refine TL.done ?_
  refine TQ.then ?_
  refine TC.condF rfl ?_
  refine TC.seq ?_
  refine TC.region ?_
  refine TL.mv (.slice none 0 0) rfl rfl rfl ?_
  refine TL.lenS rfl fc_l27_33_1 rfl rfl ?_
  refine TL.gtrF rfl rfl (by omega) rfl rfl ?_
  refine TL.asg (.bool false) rfl rfl rfl ?_
  refine TL.done ?_
  refine TQ.then ?_
  refine TC.condF rfl ?_
  refine TC.skip ?_
  refine TQ.inBlock ?_
  refine TQ.then ?_
  refine TC.seq ?_
  refine TC.region ?_
  refine TL.ldA 0 3 [_, _, _] rfl rfl rfl fc_a45_3 rfl rfl ?_
  refine TL.callD [] [] (cells_ok hl) ⟨rfl, trivial⟩ trivial fc_c41 rfl rfl rfl rfl rfl trivial ?_
  refine TL.call [] [1] (anew2_ok (by omega) (by omega)) ⟨rfl, trivial⟩ trivial fc_c9 rfl rfl rfl rfl ?_
  rintro v Bs ⟨ab, mb, σ, rfl, rfl⟩
  refine ⟨rfl, trivial, ?_⟩
  refine TL.mv (.tuple _) rfl rfl rfl ?_
  refine TL.ext (.pointer (some ⟨_, _, none⟩)) rfl rfl rfl rfl ?_
  refine TL.ext (.int _ _) rfl rfl rfl rfl ?_
  refine TL.asg (.pointer (some ⟨_, _, none⟩)) rfl rfl rfl ?_
  refine TL.asg (.int _ _) rfl rfl rfl ?_
  refine TL.done ?_
  refine TQ.then ?_
  refine TC.seq ?_
  refine TC.seq ?_
  refine TC.region ?_
  refine TL.mv (.int _ _) rfl rfl rfl ?_
  refine TL.neqF rfl rfl (by omega) rfl rfl ?_
  refine TL.done ?_
  refine TQ.then ?_
  refine TC.condF rfl ?_
  refine TC.skip ?_
  refine TQ.then ?_
  refine TC.seq ?_
  refine TC.draw [(0, true), (3, true), (1, false), (2, true), (4, false)] [0] fc_m (by kernel_rfl) ?_
  refine TL.mv (.pointer (some ⟨_, _, none⟩)) rfl rfl rfl ?_
  refine TL.ldA 0 3 [_, _, _] rfl rfl rfl fc_a45_3 rfl rfl ?_
  refine TL.callD [] [] memof_ok ⟨rfl, trivial⟩ trivial fc_c32 rfl rfl rfl rfl rfl (.cons rfl rfl trivial) ?_
  refine TL.miN (v := (.agg _)) rfl fc_n85 rfl rfl ?_
  refine TL.call [1] [1] (init_ok hl) ⟨rfl, rfl, trivial⟩ ⟨rfl, trivial⟩ fc_c42 rfl rfl rfl rfl ?_
  rintro v Bs ⟨rfl, σ2, rfl⟩
  refine ⟨rfl, (.cons rfl rfl trivial), ?_⟩
  refine TL.done ?_
  refine TQ.then ?_
  refine TC.seq ?_
  refine TC.drawB [0, 1, 4] 2 6 [(3, true), (5, true), (6, false), (7, false)] [(2, false), (3, true), (5, true), (7, false)] [0] fc_m (by kernel_rfl) ?_
  refine TL.ldA 0 3 [_, _, _] rfl rfl rfl fc_a45_3 rfl rfl ?_
  refine TL.mv (.pointer (some ⟨_, _, none⟩)) rfl rfl rfl ?_
  refine TL.bld [.int .i64 0, .int .i64 0] [(.int _ _)] [_, _] fc_z70 fc_q70 ⟨rfl, trivial⟩ ⟨rfl, rfl⟩ rfl rfl ?_
  refine TL.branch ?_ ?_
  · skip
    refine TL.callD [] [] memof_ok ⟨rfl, trivial⟩ trivial fc_c32 rfl rfl rfl rfl rfl (.cons rfl rfl trivial) ?_
    refine TL.miN (v := (.agg _)) rfl fc_n85 rfl rfl ?_
    refine TL.bld [.int .i64 0, .int .i64 0, .int .i64 0, .nilIface, .int .i64 0, .int .i64 0] [(.agg _), (.iface _ _), (.agg _)] [_, _, _, _, _, _] fc_z100 fc_q100 ⟨rfl, rfl, rfl, trivial⟩ ⟨rfl, rfl⟩ rfl rfl ?_
    refine TL.alloc 2 (cs := #[.int .i64 0, .int .i64 0, .int .i64 0, .nilIface, .int .i64 0, .int .i64 0]) fc_z100 rfl rfl rfl (fun _ => (.cons rfl rfl trivial)) (fun bk2 => ?_)
    refine TL.stW 2 6 [_, _, _, _, _, _] rfl rfl rfl rfl rfl rfl fc_a100_6 rfl rfl (.cons rfl rfl trivial) ?_
    refine TL.done ?_
    refine TQ.then ?_
    refine TC.seq ?_
    refine TC.seq ?_
    refine TC.region ?_
    refine TL.asg (.int _ _) rfl rfl rfl ?_
    refine TL.done ?_
    refine TQ.then ?_
    refine TC.block ?_
    refine TC.loopK (X := Int × Array UInt64) [1, 2, 4, 5, 6, 8] [0, 2] (fun ⟨x, σ1⟩ => [(9, .int .i64 x)]) (fun ⟨x, σ1⟩ => [(1, arenaA ab mb 75 33 (σ1))]) (fun ⟨x, σ1⟩ => 1 ≤ x ∧ x ≤ l.nodes + 1) (fun ⟨x, σ1⟩ => (l.nodes + 1 - x).toNat) ((1, σ2)) ⟨(show (1 : Int) ≤ 1 by omega), (show (1 : Int) ≤ l.nodes + 1 by omega)⟩ ⟨rfl, trivial⟩ ⟨rfl, trivial⟩ (fun y hI => ?_)
    obtain ⟨x, σ1⟩ := y
    obtain ⟨hx1, hx2⟩ := hI
    replace hx1 : 1 ≤ x := hx1
    replace hx2 : x ≤ l.nodes + 1 := hx2
    refine TC.sub (env' := [(9, _), (1, _), (2, _), (4, _), (5, _), (6, _), (8, _)]) (L' := [(1, _), (0, _), (2, _)]) ⟨rfl, rfl, rfl, rfl, rfl, rfl, rfl, trivial⟩ ⟨rfl, rfl, rfl, trivial⟩ ?_
    refine TC.seq ?_
    refine TC.seq ?_
    refine TC.region ?_
    refine TL.mv (.int _ _) rfl rfl rfl ?_
    refine TL.ldA 0 3 [_, _, _] rfl rfl rfl fc_a45_3 rfl rfl ?_
    refine TL.callD [] [] (nodes_ok hl) ⟨rfl, trivial⟩ trivial fc_c43 rfl rfl rfl rfl rfl trivial ?_
    refine TL.leq rfl rfl rfl rfl (fun q1 => ?_) (fun q1 => ?_)
    · skip
      refine TL.done ?_
      refine TQ.then ?_
      refine TC.condT rfl ?_
      refine TC.skip ?_
      refine TQ.then ?_
      refine TC.seq ?_
      refine TC.block ?_
      refine TC.seq ?_
      refine TC.region ?_
      refine TL.asg (.int _ _) rfl rfl rfl ?_
      refine TL.done ?_
      refine TQ.then ?_
      refine TC.seq ?_
      refine TC.seq ?_
      refine TC.region ?_
      refine TL.mv (.slice none 0 0) rfl rfl rfl ?_
      refine TL.lenS rfl fc_l27_33_1 rfl rfl ?_
      refine TL.gtrF rfl rfl (by omega) rfl rfl ?_
      refine TL.done ?_
      refine TQ.then ?_
      refine TC.condF rfl ?_
      refine TC.skip ?_
      refine TQ.then ?_
      refine TC.region ?_
      refine TL.ldA 2 6 [_, _, _, _, _, _] rfl rfl rfl fc_a100_6 rfl rfl ?_
      refine TL.mv (.int _ _) rfl rfl rfl ?_
      refine TL.mv (.int _ _) rfl rfl rfl ?_
      refine TL.call [1] [1] (bnode_ok (p := ⟨1, 0⟩) plainM hl (by decide)) ⟨rfl, rfl, rfl, trivial⟩ ⟨rfl, trivial⟩ fc_c44 rfl rfl rfl rfl ?_
      rintro v Bs ⟨rfl, σ3, rfl⟩
      refine ⟨rfl, trivial, ?_⟩
      refine TL.done ?_
      refine TQ.inBlock ?_
      refine TQ.then ?_
      refine TC.region ?_
      refine TL.mv (.int _ _) rfl rfl rfl ?_
      refine TL.add _ rfl rfl (wr64 (by omega)) rfl rfl ?_
      refine TL.asg (.int _ _) rfl rfl rfl ?_
      refine TL.done ?_
      refine TQ.roundK ((x + 1, σ3)) ⟨⟨(show 1 ≤ x + 1 by omega), (show x + 1 ≤ l.nodes + 1 by omega)⟩, (show (l.nodes + 1 - (x + 1)).toNat < (l.nodes + 1 - x).toNat by omega)⟩ ⟨rfl, trivial⟩ ⟨rfl, trivial⟩ (.cons rfl rfl (.cons rfl rfl (.cons rfl rfl (.cons rfl rfl (.cons rfl rfl (.cons rfl rfl trivial)))))) (.cons rfl rfl (.cons rfl rfl trivial))
    · skip
      refine TL.done ?_
      refine TQ.then ?_
      refine TC.condF rfl ?_
      refine TC.exit ?_
      refine TQ.thenExit ?_
      refine TQ.thenExit ?_
      refine TQ.blockHere ?_
      refine TQ.then ?_
      refine TC.seq ?_
      refine TC.region ?_
      refine TL.mv (.pointer (some ⟨_, _, none⟩)) rfl rfl rfl ?_
      refine TL.asg (.pointer (some ⟨_, _, none⟩)) rfl rfl rfl ?_
      refine TL.asg (.int _ _) rfl rfl rfl ?_
      refine TL.done ?_
      refine TQ.then ?_
      refine TC.ret ?_
      refine FQ.ret2 (v := (.pointer (some ⟨_, _, none⟩))) (x := (.int _ _)) (Bs := [_]) [1] rfl rfl rfl rfl ⟨rfl, trivial⟩ ?_
      exact ⟨_, _, _, rfl, rfl⟩
  · skip
    refine TL.alloc 3 (cs := #[.int .i64 0, .int .i64 0, .int .i64 0, .nilIface, .int .i64 0, .int .i64 0]) fc_z100 rfl rfl rfl (fun _ => (.cons rfl rfl trivial)) (fun bk3 => ?_)
    refine TL.callD [] [] memof_ok ⟨rfl, trivial⟩ trivial fc_c32 rfl rfl rfl rfl rfl (.cons rfl rfl trivial) ?_
    refine TL.miN (v := (.agg _)) rfl fc_n85 rfl rfl ?_
    refine TL.bld [.int .i64 0, .int .i64 0, .int .i64 0, .nilIface, .int .i64 0, .int .i64 0] [(.agg _), (.iface _ _), (.agg _)] [_, _, _, _, _, _] fc_z100 fc_q100 ⟨rfl, rfl, rfl, trivial⟩ ⟨rfl, rfl⟩ rfl rfl ?_
    refine TL.stW 3 6 [_, _, _, _, _, _] rfl rfl rfl rfl rfl rfl fc_a100_6 rfl rfl (.cons rfl rfl trivial) ?_
    refine TL.done ?_
    refine TQ.then ?_
    refine TC.seq ?_
    refine TC.seq ?_
    refine TC.region ?_
    refine TL.asg (.int _ _) rfl rfl rfl ?_
    refine TL.done ?_
    refine TQ.then ?_
    refine TC.block ?_
    refine TC.loopK (X := Int × Array UInt64) [1, 2, 4, 5, 6, 8] [0, 3] (fun ⟨x, σ1⟩ => [(9, .int .i64 x)]) (fun ⟨x, σ1⟩ => [(1, arenaA ab mb 75 33 (σ1))]) (fun ⟨x, σ1⟩ => 1 ≤ x ∧ x ≤ l.nodes + 1) (fun ⟨x, σ1⟩ => (l.nodes + 1 - x).toNat) ((1, σ2)) ⟨(show (1 : Int) ≤ 1 by omega), (show (1 : Int) ≤ l.nodes + 1 by omega)⟩ ⟨rfl, trivial⟩ ⟨rfl, trivial⟩ (fun y hI => ?_)
    obtain ⟨x, σ1⟩ := y
    obtain ⟨hx1, hx2⟩ := hI
    replace hx1 : 1 ≤ x := hx1
    replace hx2 : x ≤ l.nodes + 1 := hx2
    refine TC.sub (env' := [(9, _), (1, _), (2, _), (4, _), (5, _), (6, _), (8, _)]) (L' := [(1, _), (0, _), (3, _)]) ⟨rfl, rfl, rfl, rfl, rfl, rfl, rfl, trivial⟩ ⟨rfl, rfl, rfl, trivial⟩ ?_
    refine TC.seq ?_
    refine TC.seq ?_
    refine TC.region ?_
    refine TL.mv (.int _ _) rfl rfl rfl ?_
    refine TL.ldA 0 3 [_, _, _] rfl rfl rfl fc_a45_3 rfl rfl ?_
    refine TL.callD [] [] (nodes_ok hl) ⟨rfl, trivial⟩ trivial fc_c43 rfl rfl rfl rfl rfl trivial ?_
    refine TL.leq rfl rfl rfl rfl (fun q1 => ?_) (fun q1 => ?_)
    · skip
      refine TL.done ?_
      refine TQ.then ?_
      refine TC.condT rfl ?_
      refine TC.skip ?_
      refine TQ.then ?_
      refine TC.seq ?_
      refine TC.block ?_
      refine TC.seq ?_
      refine TC.region ?_
      refine TL.asg (.int _ _) rfl rfl rfl ?_
      refine TL.done ?_
      refine TQ.then ?_
      refine TC.seq ?_
      refine TC.seq ?_
      refine TC.region ?_
      refine TL.mv (.slice none 0 0) rfl rfl rfl ?_
      refine TL.lenS rfl fc_l27_33_1 rfl rfl ?_
      refine TL.gtrF rfl rfl (by omega) rfl rfl ?_
      refine TL.done ?_
      refine TQ.then ?_
      refine TC.condF rfl ?_
      refine TC.skip ?_
      refine TQ.then ?_
      refine TC.region ?_
      refine TL.ldA 3 6 [_, _, _, _, _, _] rfl rfl rfl fc_a100_6 rfl rfl ?_
      refine TL.mv (.int _ _) rfl rfl rfl ?_
      refine TL.mv (.int _ _) rfl rfl rfl ?_
      refine TL.call [1] [1] (bnode_ok (p := ⟨1, 0⟩) plainM hl (by decide)) ⟨rfl, rfl, rfl, trivial⟩ ⟨rfl, trivial⟩ fc_c44 rfl rfl rfl rfl ?_
      rintro v Bs ⟨rfl, σ3, rfl⟩
      refine ⟨rfl, trivial, ?_⟩
      refine TL.done ?_
      refine TQ.inBlock ?_
      refine TQ.then ?_
      refine TC.region ?_
      refine TL.mv (.int _ _) rfl rfl rfl ?_
      refine TL.add _ rfl rfl (wr64 (by omega)) rfl rfl ?_
      refine TL.asg (.int _ _) rfl rfl rfl ?_
      refine TL.done ?_
      refine TQ.roundK ((x + 1, σ3)) ⟨⟨(show 1 ≤ x + 1 by omega), (show x + 1 ≤ l.nodes + 1 by omega)⟩, (show (l.nodes + 1 - (x + 1)).toNat < (l.nodes + 1 - x).toNat by omega)⟩ ⟨rfl, trivial⟩ ⟨rfl, trivial⟩ (.cons rfl rfl (.cons rfl rfl (.cons rfl rfl (.cons rfl rfl (.cons rfl rfl (.cons rfl rfl trivial)))))) (.cons rfl rfl (.cons rfl rfl trivial))
    · skip
      refine TL.done ?_
      refine TQ.then ?_
      refine TC.condF rfl ?_
      refine TC.exit ?_
      refine TQ.thenExit ?_
      refine TQ.thenExit ?_
      refine TQ.blockHere ?_
      refine TQ.then ?_
      refine TC.seq ?_
      refine TC.region ?_
      refine TL.mv (.pointer (some ⟨_, _, none⟩)) rfl rfl rfl ?_
      refine TL.asg (.pointer (some ⟨_, _, none⟩)) rfl rfl rfl ?_
      refine TL.asg (.int _ _) rfl rfl rfl ?_
      refine TL.done ?_
      refine TQ.then ?_
      refine TC.ret ?_
      refine FQ.ret2 (v := (.pointer (some ⟨_, _, none⟩))) (x := (.int _ _)) (Bs := [_]) [1] rfl rfl rfl rfl ⟨rfl, trivial⟩ ?_
      exact ⟨_, _, _, rfl, rfl⟩

theorem wrongF_ok {V S T : Int} {x : Int} {bl : Nat} : FnD Tryz.prog 39 [.int .i64 x, .pointer (some ⟨bl, 0, none⟩)] [pt bl (.cells #[.int .i64 V, .int .i64 S, .int .i64 T] 45)] (.bool (decide (0 ≤ x ∧ x < V))) [pt bl (.cells #[.int .i64 V, .int .i64 S, .int .i64 T] 45)] := by
  refine Fn.enter (Tryz.func39) rfl rfl (fun w0 R => ?_)
  refine TC.seq ?_
  refine TC.region ?_
  refine TL.asg (.bool false) rfl rfl rfl ?_
  refine TL.done ?_
  refine TQ.then ?_
  refine TC.seq ?_
  refine TC.region ?_
  refine TL.mv (.int _ _) rfl rfl rfl ?_
  refine TL.geq rfl rfl rfl rfl (fun q1 => ?_) (fun q1 => ?_)
  · skip
    refine TL.mv (.bool true) rfl rfl rfl ?_
    refine TL.mv (.int _ _) rfl rfl rfl ?_
    refine TL.fa 0 rfl fc_f45_0_0 rfl rfl ?_
    refine TL.ld 0 (.int _ _) rfl rfl rfl fc_s3 rfl rfl ?_
    refine TL.lssV rfl rfl rfl rfl ?_
    refine TL.pickT (.bool _) rfl rfl rfl rfl ?_
    refine TL.asg (.bool _) rfl rfl rfl ?_
    refine TL.done ?_
    refine TQ.then ?_
    refine TC.ret ?_
    refine FQ.ret1 (v := (.bool _)) (Bs := [pt bl (.cells #[.int .i64 V, .int .i64 S, .int .i64 T] 45)]) [0] rfl rfl rfl ⟨rfl, trivial⟩ ?_
    first | exact ⟨bT (by omega), rfl⟩ | exact ⟨bF (by omega), rfl⟩ | exact ⟨congrArg Value.bool (decide_eq_decide.2 (by omega)), rfl⟩
  · skip
    refine TL.mv (.bool false) rfl rfl rfl ?_
    refine TL.off rfl rfl ?_
    refine TL.off rfl rfl ?_
    refine TL.off rfl rfl ?_
    refine TL.off rfl rfl ?_
    refine TL.pickF (.bool false) rfl rfl rfl rfl ?_
    refine TL.asg (.bool false) rfl rfl rfl ?_
    refine TL.done ?_
    refine TQ.then ?_
    refine TC.ret ?_
    refine FQ.ret1 (v := (.bool false)) (Bs := [pt bl (.cells #[.int .i64 V, .int .i64 S, .int .i64 T] 45)]) [0] rfl rfl rfl ⟨rfl, trivial⟩ ?_
    first | exact ⟨bT (by omega), rfl⟩ | exact ⟨bF (by omega), rfl⟩ | exact ⟨congrArg Value.bool (decide_eq_decide.2 (by omega)), rfl⟩

set_option maxHeartbeats 1000000 in
theorem wrong_ok {V S T : Int} {k u v : Int} : FnD Tryz.prog 19 [.agg #[.int .i64 V, .int .i64 S, .int .i64 T], .agg #[.int .i64 k, .int .i64 u, .int .i64 v]] [] (.int .i64 (wrongI V k u v)) [] := by
  refine Fn.enter (Tryz.func19) rfl rfl (fun w0 R => ?_)
  refine TC.seq ?_
  refine TC.region ?_
  refine TL.boxA 0 rfl rfl rfl (fun _ => trivial) (fun bk0 => ?_)
  refine TL.boxA 1 rfl rfl rfl (fun _ => trivial) (fun bk1 => ?_)
  refine TL.asg (.int _ _) rfl rfl rfl ?_
  refine TL.done ?_
  refine TQ.then ?_
  refine TC.seq ?_
  refine TC.region ?_
  refine TL.mf (xs := []) (ys := [_]) [] [_] trivial ⟨rfl, trivial⟩ rfl rfl ?_
  refine TL.asg (.func _ _ _) rfl rfl rfl ?_
  refine TL.done ?_
  refine TQ.then ?_
  refine TC.seq ?_
  refine TC.block ?_
  refine TC.seq ?_
  refine TC.region ?_
  refine TL.fa 0 rfl fc_f47_0_0 rfl rfl ?_
  refine TL.ld 1 (.int _ _) rfl rfl rfl fc_s3 rfl rfl ?_
  refine TL.lss rfl rfl rfl rfl (fun q1 => ?_) (fun q1 => ?_)
  · skip
    refine TL.mv (.bool true) rfl rfl rfl ?_
    refine TL.off rfl rfl ?_
    refine TL.off rfl rfl ?_
    refine TL.off rfl rfl ?_
    refine TL.pickT (.bool true) rfl rfl rfl rfl ?_
    refine TL.asg (.bool true) rfl rfl rfl ?_
    refine TL.done ?_
    refine TQ.then ?_
    refine TC.condT rfl ?_
    refine TC.seq ?_
    refine TC.region ?_
    refine TL.asg (.int _ _) rfl rfl rfl ?_
    refine TL.done ?_
    refine TQ.then ?_
    refine TC.ret ?_
    refine TQ.blockRet ?_
    refine TQ.thenRet ?_
    refine FQ.ret1 (v := (.int _ _)) (Bs := []) [] rfl rfl rfl trivial ?_
    first | exact ⟨iE (by unfold wrongI; rw [if_pos (by omega)]), rfl⟩ | exact ⟨iE (by unfold wrongI; rw [if_neg (by omega), if_pos (by omega)]), rfl⟩ | exact ⟨iE (by unfold wrongI; rw [if_neg (by omega), if_neg (by omega), if_pos (by omega)]), rfl⟩ | exact ⟨iE (by unfold wrongI; rw [if_neg (by omega), if_neg (by omega), if_neg (by omega)]), rfl⟩
  · skip
    refine TL.mv (.bool false) rfl rfl rfl ?_
    refine TL.fa 0 rfl fc_f47_0_0 rfl rfl ?_
    refine TL.ld 1 (.int _ _) rfl rfl rfl fc_s3 rfl rfl ?_
    refine TL.gtr rfl rfl rfl rfl (fun q2 => ?_) (fun q2 => ?_)
    · skip
      refine TL.pickF (.bool true) rfl rfl rfl rfl ?_
      refine TL.asg (.bool true) rfl rfl rfl ?_
      refine TL.done ?_
      refine TQ.then ?_
      refine TC.condT rfl ?_
      refine TC.seq ?_
      refine TC.region ?_
      refine TL.asg (.int _ _) rfl rfl rfl ?_
      refine TL.done ?_
      refine TQ.then ?_
      refine TC.ret ?_
      refine TQ.blockRet ?_
      refine TQ.thenRet ?_
      refine FQ.ret1 (v := (.int _ _)) (Bs := []) [] rfl rfl rfl trivial ?_
      first | exact ⟨iE (by unfold wrongI; rw [if_pos (by omega)]), rfl⟩ | exact ⟨iE (by unfold wrongI; rw [if_neg (by omega), if_pos (by omega)]), rfl⟩ | exact ⟨iE (by unfold wrongI; rw [if_neg (by omega), if_neg (by omega), if_pos (by omega)]), rfl⟩ | exact ⟨iE (by unfold wrongI; rw [if_neg (by omega), if_neg (by omega), if_neg (by omega)]), rfl⟩
    · skip
      refine TL.pickF (.bool false) rfl rfl rfl rfl ?_
      refine TL.asg (.bool false) rfl rfl rfl ?_
      refine TL.done ?_
      refine TQ.then ?_
      refine TC.condF rfl ?_
      refine TC.seq ?_
      refine TC.region ?_
      refine TL.mv (.func _ _ _) rfl rfl rfl ?_
      refine TL.fa 1 rfl fc_f47_1_1 rfl rfl ?_
      refine TL.ld 1 (.int _ _) rfl rfl rfl fc_s3 rfl rfl ?_
      refine TL.callC (c1 := []) (c2 := [_]) (vs := [_]) [0] [0] rfl wrongF_ok ⟨rfl, trivial⟩ ⟨rfl, trivial⟩ fc_c39 rfl rfl rfl rfl rfl trivial ?_
      refine TL.casesP rfl (fun q3 => ?_) (fun q3 => ?_)
      · skip
        refine TL.not true false rfl rfl rfl rfl ?_
        refine TL.mv (.bool false) rfl rfl rfl ?_
        refine TL.mv (.func _ _ _) rfl rfl rfl ?_
        refine TL.fa 2 rfl fc_f47_2_2 rfl rfl ?_
        refine TL.ld 1 (.int _ _) rfl rfl rfl fc_s3 rfl rfl ?_
        refine TL.callC (c1 := []) (c2 := [_]) (vs := [_]) [0] [0] rfl wrongF_ok ⟨rfl, trivial⟩ ⟨rfl, trivial⟩ fc_c39 rfl rfl rfl rfl rfl trivial ?_
        refine TL.casesP rfl (fun q4 => ?_) (fun q4 => ?_)
        · skip
          refine TL.not true false rfl rfl rfl rfl ?_
          refine TL.pickF (.bool false) rfl rfl rfl rfl ?_
          refine TL.asg (.bool false) rfl rfl rfl ?_
          refine TL.done ?_
          refine TQ.then ?_
          refine TC.condF rfl ?_
          refine TC.seq ?_
          refine TC.region ?_
          refine TL.fa 1 rfl fc_f47_1_1 rfl rfl ?_
          refine TL.ld 1 (.int _ _) rfl rfl rfl fc_s3 rfl rfl ?_
          refine TL.fa 2 rfl fc_f47_2_2 rfl rfl ?_
          refine TL.ld 1 (.int _ _) rfl rfl rfl fc_s3 rfl rfl ?_
          refine TL.eql rfl rfl rfl rfl (fun q5 => ?_) (fun q5 => ?_)
          · skip
            refine TL.mv (.bool true) rfl rfl rfl ?_
            refine TL.fa 0 rfl fc_f47_0_0 rfl rfl ?_
            refine TL.ld 1 (.int _ _) rfl rfl rfl fc_s3 rfl rfl ?_
            refine TL.neq rfl rfl rfl rfl (fun q6 => ?_) (fun q6 => ?_)
            · skip
              refine TL.pickT (.bool true) rfl rfl rfl rfl ?_
              refine TL.asg (.bool true) rfl rfl rfl ?_
              refine TL.done ?_
              refine TQ.then ?_
              refine TC.condT rfl ?_
              refine TC.seq ?_
              refine TC.region ?_
              refine TL.asg (.int _ _) rfl rfl rfl ?_
              refine TL.done ?_
              refine TQ.then ?_
              refine TC.ret ?_
              refine TQ.blockRet ?_
              refine TQ.thenRet ?_
              refine FQ.ret1 (v := (.int _ _)) (Bs := []) [] rfl rfl rfl trivial ?_
              first | exact ⟨iE (by unfold wrongI; rw [if_pos (by omega)]), rfl⟩ | exact ⟨iE (by unfold wrongI; rw [if_neg (by omega), if_pos (by omega)]), rfl⟩ | exact ⟨iE (by unfold wrongI; rw [if_neg (by omega), if_neg (by omega), if_pos (by omega)]), rfl⟩ | exact ⟨iE (by unfold wrongI; rw [if_neg (by omega), if_neg (by omega), if_neg (by omega)]), rfl⟩
            · skip
              refine TL.pickT (.bool false) rfl rfl rfl rfl ?_
              refine TL.asg (.bool false) rfl rfl rfl ?_
              refine TL.done ?_
              refine TQ.then ?_
              refine TC.condF rfl ?_
              refine TC.skip ?_
              refine TQ.inBlock ?_
              refine TQ.then ?_
              refine TC.seq ?_
              refine TC.region ?_
              refine TL.asg (.int _ _) rfl rfl rfl ?_
              refine TL.done ?_
              refine TQ.then ?_
              refine TC.ret ?_
              refine FQ.ret1 (v := (.int _ _)) (Bs := []) [] rfl rfl rfl trivial ?_
              first | exact ⟨iE (by unfold wrongI; rw [if_pos (by omega)]), rfl⟩ | exact ⟨iE (by unfold wrongI; rw [if_neg (by omega), if_pos (by omega)]), rfl⟩ | exact ⟨iE (by unfold wrongI; rw [if_neg (by omega), if_neg (by omega), if_pos (by omega)]), rfl⟩ | exact ⟨iE (by unfold wrongI; rw [if_neg (by omega), if_neg (by omega), if_neg (by omega)]), rfl⟩
          · skip
            refine TL.mv (.bool false) rfl rfl rfl ?_
            refine TL.off rfl rfl ?_
            refine TL.off rfl rfl ?_
            refine TL.off rfl rfl ?_
            refine TL.pickF (.bool false) rfl rfl rfl rfl ?_
            refine TL.asg (.bool false) rfl rfl rfl ?_
            refine TL.done ?_
            refine TQ.then ?_
            refine TC.condF rfl ?_
            refine TC.skip ?_
            refine TQ.inBlock ?_
            refine TQ.then ?_
            refine TC.seq ?_
            refine TC.region ?_
            refine TL.asg (.int _ _) rfl rfl rfl ?_
            refine TL.done ?_
            refine TQ.then ?_
            refine TC.ret ?_
            refine FQ.ret1 (v := (.int _ _)) (Bs := []) [] rfl rfl rfl trivial ?_
            first | exact ⟨iE (by unfold wrongI; rw [if_pos (by omega)]), rfl⟩ | exact ⟨iE (by unfold wrongI; rw [if_neg (by omega), if_pos (by omega)]), rfl⟩ | exact ⟨iE (by unfold wrongI; rw [if_neg (by omega), if_neg (by omega), if_pos (by omega)]), rfl⟩ | exact ⟨iE (by unfold wrongI; rw [if_neg (by omega), if_neg (by omega), if_neg (by omega)]), rfl⟩
        · skip
          refine TL.not false true rfl rfl rfl rfl ?_
          refine TL.pickF (.bool true) rfl rfl rfl rfl ?_
          refine TL.asg (.bool true) rfl rfl rfl ?_
          refine TL.done ?_
          refine TQ.then ?_
          refine TC.condT rfl ?_
          refine TC.seq ?_
          refine TC.region ?_
          refine TL.asg (.int _ _) rfl rfl rfl ?_
          refine TL.done ?_
          refine TQ.then ?_
          refine TC.ret ?_
          refine TQ.blockRet ?_
          refine TQ.thenRet ?_
          refine FQ.ret1 (v := (.int _ _)) (Bs := []) [] rfl rfl rfl trivial ?_
          first | exact ⟨iE (by unfold wrongI; rw [if_pos (by omega)]), rfl⟩ | exact ⟨iE (by unfold wrongI; rw [if_neg (by omega), if_pos (by omega)]), rfl⟩ | exact ⟨iE (by unfold wrongI; rw [if_neg (by omega), if_neg (by omega), if_pos (by omega)]), rfl⟩ | exact ⟨iE (by unfold wrongI; rw [if_neg (by omega), if_neg (by omega), if_neg (by omega)]), rfl⟩
      · skip
        refine TL.not false true rfl rfl rfl rfl ?_
        refine TL.mv (.bool true) rfl rfl rfl ?_
        refine TL.off rfl rfl ?_
        refine TL.off rfl rfl ?_
        refine TL.off rfl rfl ?_
        refine TL.off rfl rfl ?_
        refine TL.off rfl rfl ?_
        refine TL.pickT (.bool true) rfl rfl rfl rfl ?_
        refine TL.asg (.bool true) rfl rfl rfl ?_
        refine TL.done ?_
        refine TQ.then ?_
        refine TC.condT rfl ?_
        refine TC.seq ?_
        refine TC.region ?_
        refine TL.asg (.int _ _) rfl rfl rfl ?_
        refine TL.done ?_
        refine TQ.then ?_
        refine TC.ret ?_
        refine TQ.blockRet ?_
        refine TQ.thenRet ?_
        refine FQ.ret1 (v := (.int _ _)) (Bs := []) [] rfl rfl rfl trivial ?_
        first | exact ⟨iE (by unfold wrongI; rw [if_pos (by omega)]), rfl⟩ | exact ⟨iE (by unfold wrongI; rw [if_neg (by omega), if_pos (by omega)]), rfl⟩ | exact ⟨iE (by unfold wrongI; rw [if_neg (by omega), if_neg (by omega), if_pos (by omega)]), rfl⟩ | exact ⟨iE (by unfold wrongI; rw [if_neg (by omega), if_neg (by omega), if_neg (by omega)]), rfl⟩

set_option maxHeartbeats 1000000 in
theorem lwrong_ok {V S T : Int} {k u v : Int} : FnD Tryz.prog 20 [.agg #[.int .i64 V, .int .i64 S, .int .i64 T], .agg #[.int .i64 k, .int .i64 u, .int .i64 v]] [] (.int .i64 (wrongI V k u v)) [] := by
  refine Fn.enter (Tryz.func20) rfl rfl (fun w0 R => ?_)
  refine TC.seq ?_
  refine TC.region ?_
  refine TL.boxA 0 rfl rfl rfl (fun _ => trivial) (fun bk0 => ?_)
  refine TL.boxA 1 rfl rfl rfl (fun _ => trivial) (fun bk1 => ?_)
  refine TL.asg (.int _ _) rfl rfl rfl ?_
  refine TL.done ?_
  refine TQ.then ?_
  refine TC.seq ?_
  refine TC.block ?_
  refine TC.seq ?_
  refine TC.region ?_
  refine TL.fa 0 rfl fc_f47_0_0 rfl rfl ?_
  refine TL.ld 1 (.int _ _) rfl rfl rfl fc_s3 rfl rfl ?_
  refine TL.neq rfl rfl rfl rfl (fun q1 => ?_) (fun q1 => ?_)
  · skip
    refine TL.mv (.bool true) rfl rfl rfl ?_
    refine TL.fa 0 rfl fc_f47_0_0 rfl rfl ?_
    refine TL.ld 1 (.int _ _) rfl rfl rfl fc_s3 rfl rfl ?_
    refine TL.neq rfl rfl rfl rfl (fun q2 => ?_) (fun q2 => ?_)
    · skip
      refine TL.pickT (.bool true) rfl rfl rfl rfl ?_
      refine TL.mv (.bool true) rfl rfl rfl ?_
      refine TL.fa 0 rfl fc_f47_0_0 rfl rfl ?_
      refine TL.ld 1 (.int _ _) rfl rfl rfl fc_s3 rfl rfl ?_
      refine TL.neq rfl rfl rfl rfl (fun q3 => ?_) (fun q3 => ?_)
      · skip
        refine TL.pickT (.bool true) rfl rfl rfl rfl ?_
        refine TL.asg (.bool true) rfl rfl rfl ?_
        refine TL.done ?_
        refine TQ.then ?_
        refine TC.condT rfl ?_
        refine TC.seq ?_
        refine TC.region ?_
        refine TL.asg (.int _ _) rfl rfl rfl ?_
        refine TL.done ?_
        refine TQ.then ?_
        refine TC.ret ?_
        refine TQ.blockRet ?_
        refine TQ.thenRet ?_
        refine FQ.ret1 (v := (.int _ _)) (Bs := []) [] rfl rfl rfl trivial ?_
        first | (exfalso; omega) | exact ⟨iE (by unfold wrongI; rw [if_pos (by omega)]), rfl⟩ | exact ⟨iE (by unfold wrongI; rw [if_neg (by omega), if_pos (by omega)]), rfl⟩ | exact ⟨iE (by unfold wrongI; rw [if_neg (by omega), if_neg (by omega), if_pos (by omega)]), rfl⟩ | exact ⟨iE (by unfold wrongI; rw [if_neg (by omega), if_neg (by omega), if_neg (by omega)]), rfl⟩
      · skip
        refine TL.pickT (.bool false) rfl rfl rfl rfl ?_
        refine TL.asg (.bool false) rfl rfl rfl ?_
        refine TL.done ?_
        refine TQ.then ?_
        refine TC.condF rfl ?_
        refine TC.seq ?_
        refine TC.region ?_
        refine TL.fa 1 rfl fc_f47_1_1 rfl rfl ?_
        refine TL.ld 1 (.int _ _) rfl rfl rfl fc_s3 rfl rfl ?_
        refine TL.lss rfl rfl rfl rfl (fun q4 => ?_) (fun q4 => ?_)
        · skip
          refine TL.mv (.bool true) rfl rfl rfl ?_
          refine TL.off rfl rfl ?_
          refine TL.off rfl rfl ?_
          refine TL.off rfl rfl ?_
          refine TL.pickT (.bool true) rfl rfl rfl rfl ?_
          refine TL.mv (.bool true) rfl rfl rfl ?_
          refine TL.off rfl rfl ?_
          refine TL.off rfl rfl ?_
          refine TL.off rfl rfl ?_
          refine TL.off rfl rfl ?_
          refine TL.off rfl rfl ?_
          refine TL.pickT (.bool true) rfl rfl rfl rfl ?_
          refine TL.mv (.bool true) rfl rfl rfl ?_
          refine TL.off rfl rfl ?_
          refine TL.off rfl rfl ?_
          refine TL.off rfl rfl ?_
          refine TL.off rfl rfl ?_
          refine TL.off rfl rfl ?_
          refine TL.pickT (.bool true) rfl rfl rfl rfl ?_
          refine TL.asg (.bool true) rfl rfl rfl ?_
          refine TL.done ?_
          refine TQ.then ?_
          refine TC.condT rfl ?_
          refine TC.seq ?_
          refine TC.region ?_
          refine TL.asg (.int _ _) rfl rfl rfl ?_
          refine TL.done ?_
          refine TQ.then ?_
          refine TC.ret ?_
          refine TQ.blockRet ?_
          refine TQ.thenRet ?_
          refine FQ.ret1 (v := (.int _ _)) (Bs := []) [] rfl rfl rfl trivial ?_
          first | (exfalso; omega) | exact ⟨iE (by unfold wrongI; rw [if_pos (by omega)]), rfl⟩ | exact ⟨iE (by unfold wrongI; rw [if_neg (by omega), if_pos (by omega)]), rfl⟩ | exact ⟨iE (by unfold wrongI; rw [if_neg (by omega), if_neg (by omega), if_pos (by omega)]), rfl⟩ | exact ⟨iE (by unfold wrongI; rw [if_neg (by omega), if_neg (by omega), if_neg (by omega)]), rfl⟩
        · skip
          refine TL.mv (.bool false) rfl rfl rfl ?_
          refine TL.fa 2 rfl fc_f47_2_2 rfl rfl ?_
          refine TL.ld 1 (.int _ _) rfl rfl rfl fc_s3 rfl rfl ?_
          refine TL.lss rfl rfl rfl rfl (fun q5 => ?_) (fun q5 => ?_)
          · skip
            refine TL.pickF (.bool true) rfl rfl rfl rfl ?_
            refine TL.mv (.bool true) rfl rfl rfl ?_
            refine TL.off rfl rfl ?_
            refine TL.off rfl rfl ?_
            refine TL.off rfl rfl ?_
            refine TL.off rfl rfl ?_
            refine TL.off rfl rfl ?_
            refine TL.pickT (.bool true) rfl rfl rfl rfl ?_
            refine TL.mv (.bool true) rfl rfl rfl ?_
            refine TL.off rfl rfl ?_
            refine TL.off rfl rfl ?_
            refine TL.off rfl rfl ?_
            refine TL.off rfl rfl ?_
            refine TL.off rfl rfl ?_
            refine TL.pickT (.bool true) rfl rfl rfl rfl ?_
            refine TL.asg (.bool true) rfl rfl rfl ?_
            refine TL.done ?_
            refine TQ.then ?_
            refine TC.condT rfl ?_
            refine TC.seq ?_
            refine TC.region ?_
            refine TL.asg (.int _ _) rfl rfl rfl ?_
            refine TL.done ?_
            refine TQ.then ?_
            refine TC.ret ?_
            refine TQ.blockRet ?_
            refine TQ.thenRet ?_
            refine FQ.ret1 (v := (.int _ _)) (Bs := []) [] rfl rfl rfl trivial ?_
            first | (exfalso; omega) | exact ⟨iE (by unfold wrongI; rw [if_pos (by omega)]), rfl⟩ | exact ⟨iE (by unfold wrongI; rw [if_neg (by omega), if_pos (by omega)]), rfl⟩ | exact ⟨iE (by unfold wrongI; rw [if_neg (by omega), if_neg (by omega), if_pos (by omega)]), rfl⟩ | exact ⟨iE (by unfold wrongI; rw [if_neg (by omega), if_neg (by omega), if_neg (by omega)]), rfl⟩
          · skip
            refine TL.pickF (.bool false) rfl rfl rfl rfl ?_
            refine TL.mv (.bool false) rfl rfl rfl ?_
            refine TL.fa 1 rfl fc_f47_1_1 rfl rfl ?_
            refine TL.ld 1 (.int _ _) rfl rfl rfl fc_s3 rfl rfl ?_
            refine TL.fa 0 rfl fc_f45_0_0 rfl rfl ?_
            refine TL.ld 0 (.int _ _) rfl rfl rfl fc_s3 rfl rfl ?_
            refine TL.geq rfl rfl rfl rfl (fun q6 => ?_) (fun q6 => ?_)
            · skip
              refine TL.pickF (.bool true) rfl rfl rfl rfl ?_
              refine TL.mv (.bool true) rfl rfl rfl ?_
              refine TL.off rfl rfl ?_
              refine TL.off rfl rfl ?_
              refine TL.off rfl rfl ?_
              refine TL.off rfl rfl ?_
              refine TL.off rfl rfl ?_
              refine TL.pickT (.bool true) rfl rfl rfl rfl ?_
              refine TL.asg (.bool true) rfl rfl rfl ?_
              refine TL.done ?_
              refine TQ.then ?_
              refine TC.condT rfl ?_
              refine TC.seq ?_
              refine TC.region ?_
              refine TL.asg (.int _ _) rfl rfl rfl ?_
              refine TL.done ?_
              refine TQ.then ?_
              refine TC.ret ?_
              refine TQ.blockRet ?_
              refine TQ.thenRet ?_
              refine FQ.ret1 (v := (.int _ _)) (Bs := []) [] rfl rfl rfl trivial ?_
              first | (exfalso; omega) | exact ⟨iE (by unfold wrongI; rw [if_pos (by omega)]), rfl⟩ | exact ⟨iE (by unfold wrongI; rw [if_neg (by omega), if_pos (by omega)]), rfl⟩ | exact ⟨iE (by unfold wrongI; rw [if_neg (by omega), if_neg (by omega), if_pos (by omega)]), rfl⟩ | exact ⟨iE (by unfold wrongI; rw [if_neg (by omega), if_neg (by omega), if_neg (by omega)]), rfl⟩
            · skip
              refine TL.pickF (.bool false) rfl rfl rfl rfl ?_
              refine TL.mv (.bool false) rfl rfl rfl ?_
              refine TL.fa 2 rfl fc_f47_2_2 rfl rfl ?_
              refine TL.ld 1 (.int _ _) rfl rfl rfl fc_s3 rfl rfl ?_
              refine TL.fa 0 rfl fc_f45_0_0 rfl rfl ?_
              refine TL.ld 0 (.int _ _) rfl rfl rfl fc_s3 rfl rfl ?_
              refine TL.geq rfl rfl rfl rfl (fun q7 => ?_) (fun q7 => ?_)
              · skip
                refine TL.pickF (.bool true) rfl rfl rfl rfl ?_
                refine TL.asg (.bool true) rfl rfl rfl ?_
                refine TL.done ?_
                refine TQ.then ?_
                refine TC.condT rfl ?_
                refine TC.seq ?_
                refine TC.region ?_
                refine TL.asg (.int _ _) rfl rfl rfl ?_
                refine TL.done ?_
                refine TQ.then ?_
                refine TC.ret ?_
                refine TQ.blockRet ?_
                refine TQ.thenRet ?_
                refine FQ.ret1 (v := (.int _ _)) (Bs := []) [] rfl rfl rfl trivial ?_
                first | (exfalso; omega) | exact ⟨iE (by unfold wrongI; rw [if_pos (by omega)]), rfl⟩ | exact ⟨iE (by unfold wrongI; rw [if_neg (by omega), if_pos (by omega)]), rfl⟩ | exact ⟨iE (by unfold wrongI; rw [if_neg (by omega), if_neg (by omega), if_pos (by omega)]), rfl⟩ | exact ⟨iE (by unfold wrongI; rw [if_neg (by omega), if_neg (by omega), if_neg (by omega)]), rfl⟩
              · skip
                refine TL.pickF (.bool false) rfl rfl rfl rfl ?_
                refine TL.asg (.bool false) rfl rfl rfl ?_
                refine TL.done ?_
                refine TQ.then ?_
                refine TC.condF rfl ?_
                refine TC.seq ?_
                refine TC.region ?_
                refine TL.fa 1 rfl fc_f47_1_1 rfl rfl ?_
                refine TL.ld 1 (.int _ _) rfl rfl rfl fc_s3 rfl rfl ?_
                refine TL.fa 2 rfl fc_f47_2_2 rfl rfl ?_
                refine TL.ld 1 (.int _ _) rfl rfl rfl fc_s3 rfl rfl ?_
                refine TL.eql rfl rfl rfl rfl (fun q8 => ?_) (fun q8 => ?_)
                · skip
                  refine TL.mv (.bool true) rfl rfl rfl ?_
                  refine TL.fa 0 rfl fc_f47_0_0 rfl rfl ?_
                  refine TL.ld 1 (.int _ _) rfl rfl rfl fc_s3 rfl rfl ?_
                  refine TL.neq rfl rfl rfl rfl (fun q9 => ?_) (fun q9 => ?_)
                  · skip
                    refine TL.pickT (.bool true) rfl rfl rfl rfl ?_
                    refine TL.asg (.bool true) rfl rfl rfl ?_
                    refine TL.done ?_
                    refine TQ.then ?_
                    refine TC.condT rfl ?_
                    refine TC.seq ?_
                    refine TC.region ?_
                    refine TL.asg (.int _ _) rfl rfl rfl ?_
                    refine TL.done ?_
                    refine TQ.then ?_
                    refine TC.ret ?_
                    refine TQ.blockRet ?_
                    refine TQ.thenRet ?_
                    refine FQ.ret1 (v := (.int _ _)) (Bs := []) [] rfl rfl rfl trivial ?_
                    first | (exfalso; omega) | exact ⟨iE (by unfold wrongI; rw [if_pos (by omega)]), rfl⟩ | exact ⟨iE (by unfold wrongI; rw [if_neg (by omega), if_pos (by omega)]), rfl⟩ | exact ⟨iE (by unfold wrongI; rw [if_neg (by omega), if_neg (by omega), if_pos (by omega)]), rfl⟩ | exact ⟨iE (by unfold wrongI; rw [if_neg (by omega), if_neg (by omega), if_neg (by omega)]), rfl⟩
                  · skip
                    refine TL.pickT (.bool false) rfl rfl rfl rfl ?_
                    refine TL.asg (.bool false) rfl rfl rfl ?_
                    refine TL.done ?_
                    refine TQ.then ?_
                    refine TC.condF rfl ?_
                    refine TC.skip ?_
                    refine TQ.inBlock ?_
                    refine TQ.then ?_
                    refine TC.seq ?_
                    refine TC.region ?_
                    refine TL.asg (.int _ _) rfl rfl rfl ?_
                    refine TL.done ?_
                    refine TQ.then ?_
                    refine TC.ret ?_
                    refine FQ.ret1 (v := (.int _ _)) (Bs := []) [] rfl rfl rfl trivial ?_
                    first | (exfalso; omega) | exact ⟨iE (by unfold wrongI; rw [if_pos (by omega)]), rfl⟩ | exact ⟨iE (by unfold wrongI; rw [if_neg (by omega), if_pos (by omega)]), rfl⟩ | exact ⟨iE (by unfold wrongI; rw [if_neg (by omega), if_neg (by omega), if_pos (by omega)]), rfl⟩ | exact ⟨iE (by unfold wrongI; rw [if_neg (by omega), if_neg (by omega), if_neg (by omega)]), rfl⟩
                · skip
                  refine TL.mv (.bool false) rfl rfl rfl ?_
                  refine TL.off rfl rfl ?_
                  refine TL.off rfl rfl ?_
                  refine TL.off rfl rfl ?_
                  refine TL.pickF (.bool false) rfl rfl rfl rfl ?_
                  refine TL.asg (.bool false) rfl rfl rfl ?_
                  refine TL.done ?_
                  refine TQ.then ?_
                  refine TC.condF rfl ?_
                  refine TC.skip ?_
                  refine TQ.inBlock ?_
                  refine TQ.then ?_
                  refine TC.seq ?_
                  refine TC.region ?_
                  refine TL.asg (.int _ _) rfl rfl rfl ?_
                  refine TL.done ?_
                  refine TQ.then ?_
                  refine TC.ret ?_
                  refine FQ.ret1 (v := (.int _ _)) (Bs := []) [] rfl rfl rfl trivial ?_
                  first | (exfalso; omega) | exact ⟨iE (by unfold wrongI; rw [if_pos (by omega)]), rfl⟩ | exact ⟨iE (by unfold wrongI; rw [if_neg (by omega), if_pos (by omega)]), rfl⟩ | exact ⟨iE (by unfold wrongI; rw [if_neg (by omega), if_neg (by omega), if_pos (by omega)]), rfl⟩ | exact ⟨iE (by unfold wrongI; rw [if_neg (by omega), if_neg (by omega), if_neg (by omega)]), rfl⟩
    · skip
      refine TL.pickT (.bool false) rfl rfl rfl rfl ?_
      refine TL.mv (.bool false) rfl rfl rfl ?_
      refine TL.off rfl rfl ?_
      refine TL.off rfl rfl ?_
      refine TL.off rfl rfl ?_
      refine TL.pickF (.bool false) rfl rfl rfl rfl ?_
      refine TL.asg (.bool false) rfl rfl rfl ?_
      refine TL.done ?_
      refine TQ.then ?_
      refine TC.condF rfl ?_
      refine TC.seq ?_
      refine TC.region ?_
      refine TL.fa 1 rfl fc_f47_1_1 rfl rfl ?_
      refine TL.ld 1 (.int _ _) rfl rfl rfl fc_s3 rfl rfl ?_
      refine TL.lss rfl rfl rfl rfl (fun q3 => ?_) (fun q3 => ?_)
      · skip
        refine TL.mv (.bool true) rfl rfl rfl ?_
        refine TL.off rfl rfl ?_
        refine TL.off rfl rfl ?_
        refine TL.off rfl rfl ?_
        refine TL.pickT (.bool true) rfl rfl rfl rfl ?_
        refine TL.mv (.bool true) rfl rfl rfl ?_
        refine TL.off rfl rfl ?_
        refine TL.off rfl rfl ?_
        refine TL.off rfl rfl ?_
        refine TL.off rfl rfl ?_
        refine TL.off rfl rfl ?_
        refine TL.pickT (.bool true) rfl rfl rfl rfl ?_
        refine TL.mv (.bool true) rfl rfl rfl ?_
        refine TL.off rfl rfl ?_
        refine TL.off rfl rfl ?_
        refine TL.off rfl rfl ?_
        refine TL.off rfl rfl ?_
        refine TL.off rfl rfl ?_
        refine TL.pickT (.bool true) rfl rfl rfl rfl ?_
        refine TL.asg (.bool true) rfl rfl rfl ?_
        refine TL.done ?_
        refine TQ.then ?_
        refine TC.condT rfl ?_
        refine TC.seq ?_
        refine TC.region ?_
        refine TL.asg (.int _ _) rfl rfl rfl ?_
        refine TL.done ?_
        refine TQ.then ?_
        refine TC.ret ?_
        refine TQ.blockRet ?_
        refine TQ.thenRet ?_
        refine FQ.ret1 (v := (.int _ _)) (Bs := []) [] rfl rfl rfl trivial ?_
        first | (exfalso; omega) | exact ⟨iE (by unfold wrongI; rw [if_pos (by omega)]), rfl⟩ | exact ⟨iE (by unfold wrongI; rw [if_neg (by omega), if_pos (by omega)]), rfl⟩ | exact ⟨iE (by unfold wrongI; rw [if_neg (by omega), if_neg (by omega), if_pos (by omega)]), rfl⟩ | exact ⟨iE (by unfold wrongI; rw [if_neg (by omega), if_neg (by omega), if_neg (by omega)]), rfl⟩
      · skip
        refine TL.mv (.bool false) rfl rfl rfl ?_
        refine TL.fa 2 rfl fc_f47_2_2 rfl rfl ?_
        refine TL.ld 1 (.int _ _) rfl rfl rfl fc_s3 rfl rfl ?_
        refine TL.lss rfl rfl rfl rfl (fun q4 => ?_) (fun q4 => ?_)
        · skip
          refine TL.pickF (.bool true) rfl rfl rfl rfl ?_
          refine TL.mv (.bool true) rfl rfl rfl ?_
          refine TL.off rfl rfl ?_
          refine TL.off rfl rfl ?_
          refine TL.off rfl rfl ?_
          refine TL.off rfl rfl ?_
          refine TL.off rfl rfl ?_
          refine TL.pickT (.bool true) rfl rfl rfl rfl ?_
          refine TL.mv (.bool true) rfl rfl rfl ?_
          refine TL.off rfl rfl ?_
          refine TL.off rfl rfl ?_
          refine TL.off rfl rfl ?_
          refine TL.off rfl rfl ?_
          refine TL.off rfl rfl ?_
          refine TL.pickT (.bool true) rfl rfl rfl rfl ?_
          refine TL.asg (.bool true) rfl rfl rfl ?_
          refine TL.done ?_
          refine TQ.then ?_
          refine TC.condT rfl ?_
          refine TC.seq ?_
          refine TC.region ?_
          refine TL.asg (.int _ _) rfl rfl rfl ?_
          refine TL.done ?_
          refine TQ.then ?_
          refine TC.ret ?_
          refine TQ.blockRet ?_
          refine TQ.thenRet ?_
          refine FQ.ret1 (v := (.int _ _)) (Bs := []) [] rfl rfl rfl trivial ?_
          first | (exfalso; omega) | exact ⟨iE (by unfold wrongI; rw [if_pos (by omega)]), rfl⟩ | exact ⟨iE (by unfold wrongI; rw [if_neg (by omega), if_pos (by omega)]), rfl⟩ | exact ⟨iE (by unfold wrongI; rw [if_neg (by omega), if_neg (by omega), if_pos (by omega)]), rfl⟩ | exact ⟨iE (by unfold wrongI; rw [if_neg (by omega), if_neg (by omega), if_neg (by omega)]), rfl⟩
        · skip
          refine TL.pickF (.bool false) rfl rfl rfl rfl ?_
          refine TL.mv (.bool false) rfl rfl rfl ?_
          refine TL.fa 1 rfl fc_f47_1_1 rfl rfl ?_
          refine TL.ld 1 (.int _ _) rfl rfl rfl fc_s3 rfl rfl ?_
          refine TL.fa 0 rfl fc_f45_0_0 rfl rfl ?_
          refine TL.ld 0 (.int _ _) rfl rfl rfl fc_s3 rfl rfl ?_
          refine TL.geq rfl rfl rfl rfl (fun q5 => ?_) (fun q5 => ?_)
          · skip
            refine TL.pickF (.bool true) rfl rfl rfl rfl ?_
            refine TL.mv (.bool true) rfl rfl rfl ?_
            refine TL.off rfl rfl ?_
            refine TL.off rfl rfl ?_
            refine TL.off rfl rfl ?_
            refine TL.off rfl rfl ?_
            refine TL.off rfl rfl ?_
            refine TL.pickT (.bool true) rfl rfl rfl rfl ?_
            refine TL.asg (.bool true) rfl rfl rfl ?_
            refine TL.done ?_
            refine TQ.then ?_
            refine TC.condT rfl ?_
            refine TC.seq ?_
            refine TC.region ?_
            refine TL.asg (.int _ _) rfl rfl rfl ?_
            refine TL.done ?_
            refine TQ.then ?_
            refine TC.ret ?_
            refine TQ.blockRet ?_
            refine TQ.thenRet ?_
            refine FQ.ret1 (v := (.int _ _)) (Bs := []) [] rfl rfl rfl trivial ?_
            first | (exfalso; omega) | exact ⟨iE (by unfold wrongI; rw [if_pos (by omega)]), rfl⟩ | exact ⟨iE (by unfold wrongI; rw [if_neg (by omega), if_pos (by omega)]), rfl⟩ | exact ⟨iE (by unfold wrongI; rw [if_neg (by omega), if_neg (by omega), if_pos (by omega)]), rfl⟩ | exact ⟨iE (by unfold wrongI; rw [if_neg (by omega), if_neg (by omega), if_neg (by omega)]), rfl⟩
          · skip
            refine TL.pickF (.bool false) rfl rfl rfl rfl ?_
            refine TL.mv (.bool false) rfl rfl rfl ?_
            refine TL.fa 2 rfl fc_f47_2_2 rfl rfl ?_
            refine TL.ld 1 (.int _ _) rfl rfl rfl fc_s3 rfl rfl ?_
            refine TL.fa 0 rfl fc_f45_0_0 rfl rfl ?_
            refine TL.ld 0 (.int _ _) rfl rfl rfl fc_s3 rfl rfl ?_
            refine TL.geq rfl rfl rfl rfl (fun q6 => ?_) (fun q6 => ?_)
            · skip
              refine TL.pickF (.bool true) rfl rfl rfl rfl ?_
              refine TL.asg (.bool true) rfl rfl rfl ?_
              refine TL.done ?_
              refine TQ.then ?_
              refine TC.condT rfl ?_
              refine TC.seq ?_
              refine TC.region ?_
              refine TL.asg (.int _ _) rfl rfl rfl ?_
              refine TL.done ?_
              refine TQ.then ?_
              refine TC.ret ?_
              refine TQ.blockRet ?_
              refine TQ.thenRet ?_
              refine FQ.ret1 (v := (.int _ _)) (Bs := []) [] rfl rfl rfl trivial ?_
              first | (exfalso; omega) | exact ⟨iE (by unfold wrongI; rw [if_pos (by omega)]), rfl⟩ | exact ⟨iE (by unfold wrongI; rw [if_neg (by omega), if_pos (by omega)]), rfl⟩ | exact ⟨iE (by unfold wrongI; rw [if_neg (by omega), if_neg (by omega), if_pos (by omega)]), rfl⟩ | exact ⟨iE (by unfold wrongI; rw [if_neg (by omega), if_neg (by omega), if_neg (by omega)]), rfl⟩
            · skip
              refine TL.pickF (.bool false) rfl rfl rfl rfl ?_
              refine TL.asg (.bool false) rfl rfl rfl ?_
              refine TL.done ?_
              refine TQ.then ?_
              refine TC.condF rfl ?_
              refine TC.seq ?_
              refine TC.region ?_
              refine TL.fa 1 rfl fc_f47_1_1 rfl rfl ?_
              refine TL.ld 1 (.int _ _) rfl rfl rfl fc_s3 rfl rfl ?_
              refine TL.fa 2 rfl fc_f47_2_2 rfl rfl ?_
              refine TL.ld 1 (.int _ _) rfl rfl rfl fc_s3 rfl rfl ?_
              refine TL.eql rfl rfl rfl rfl (fun q7 => ?_) (fun q7 => ?_)
              · skip
                refine TL.mv (.bool true) rfl rfl rfl ?_
                refine TL.fa 0 rfl fc_f47_0_0 rfl rfl ?_
                refine TL.ld 1 (.int _ _) rfl rfl rfl fc_s3 rfl rfl ?_
                refine TL.neq rfl rfl rfl rfl (fun q8 => ?_) (fun q8 => ?_)
                · skip
                  refine TL.pickT (.bool true) rfl rfl rfl rfl ?_
                  refine TL.asg (.bool true) rfl rfl rfl ?_
                  refine TL.done ?_
                  refine TQ.then ?_
                  refine TC.condT rfl ?_
                  refine TC.seq ?_
                  refine TC.region ?_
                  refine TL.asg (.int _ _) rfl rfl rfl ?_
                  refine TL.done ?_
                  refine TQ.then ?_
                  refine TC.ret ?_
                  refine TQ.blockRet ?_
                  refine TQ.thenRet ?_
                  refine FQ.ret1 (v := (.int _ _)) (Bs := []) [] rfl rfl rfl trivial ?_
                  first | (exfalso; omega) | exact ⟨iE (by unfold wrongI; rw [if_pos (by omega)]), rfl⟩ | exact ⟨iE (by unfold wrongI; rw [if_neg (by omega), if_pos (by omega)]), rfl⟩ | exact ⟨iE (by unfold wrongI; rw [if_neg (by omega), if_neg (by omega), if_pos (by omega)]), rfl⟩ | exact ⟨iE (by unfold wrongI; rw [if_neg (by omega), if_neg (by omega), if_neg (by omega)]), rfl⟩
                · skip
                  refine TL.pickT (.bool false) rfl rfl rfl rfl ?_
                  refine TL.asg (.bool false) rfl rfl rfl ?_
                  refine TL.done ?_
                  refine TQ.then ?_
                  refine TC.condF rfl ?_
                  refine TC.skip ?_
                  refine TQ.inBlock ?_
                  refine TQ.then ?_
                  refine TC.seq ?_
                  refine TC.region ?_
                  refine TL.asg (.int _ _) rfl rfl rfl ?_
                  refine TL.done ?_
                  refine TQ.then ?_
                  refine TC.ret ?_
                  refine FQ.ret1 (v := (.int _ _)) (Bs := []) [] rfl rfl rfl trivial ?_
                  first | (exfalso; omega) | exact ⟨iE (by unfold wrongI; rw [if_pos (by omega)]), rfl⟩ | exact ⟨iE (by unfold wrongI; rw [if_neg (by omega), if_pos (by omega)]), rfl⟩ | exact ⟨iE (by unfold wrongI; rw [if_neg (by omega), if_neg (by omega), if_pos (by omega)]), rfl⟩ | exact ⟨iE (by unfold wrongI; rw [if_neg (by omega), if_neg (by omega), if_neg (by omega)]), rfl⟩
              · skip
                refine TL.mv (.bool false) rfl rfl rfl ?_
                refine TL.off rfl rfl ?_
                refine TL.off rfl rfl ?_
                refine TL.off rfl rfl ?_
                refine TL.pickF (.bool false) rfl rfl rfl rfl ?_
                refine TL.asg (.bool false) rfl rfl rfl ?_
                refine TL.done ?_
                refine TQ.then ?_
                refine TC.condF rfl ?_
                refine TC.skip ?_
                refine TQ.inBlock ?_
                refine TQ.then ?_
                refine TC.seq ?_
                refine TC.region ?_
                refine TL.asg (.int _ _) rfl rfl rfl ?_
                refine TL.done ?_
                refine TQ.then ?_
                refine TC.ret ?_
                refine FQ.ret1 (v := (.int _ _)) (Bs := []) [] rfl rfl rfl trivial ?_
                first | (exfalso; omega) | exact ⟨iE (by unfold wrongI; rw [if_pos (by omega)]), rfl⟩ | exact ⟨iE (by unfold wrongI; rw [if_neg (by omega), if_pos (by omega)]), rfl⟩ | exact ⟨iE (by unfold wrongI; rw [if_neg (by omega), if_neg (by omega), if_pos (by omega)]), rfl⟩ | exact ⟨iE (by unfold wrongI; rw [if_neg (by omega), if_neg (by omega), if_neg (by omega)]), rfl⟩
  · skip
    refine TL.mv (.bool false) rfl rfl rfl ?_
    refine TL.off rfl rfl ?_
    refine TL.off rfl rfl ?_
    refine TL.off rfl rfl ?_
    refine TL.pickF (.bool false) rfl rfl rfl rfl ?_
    refine TL.mv (.bool false) rfl rfl rfl ?_
    refine TL.off rfl rfl ?_
    refine TL.off rfl rfl ?_
    refine TL.off rfl rfl ?_
    refine TL.pickF (.bool false) rfl rfl rfl rfl ?_
    refine TL.asg (.bool false) rfl rfl rfl ?_
    refine TL.done ?_
    refine TQ.then ?_
    refine TC.condF rfl ?_
    refine TC.seq ?_
    refine TC.region ?_
    refine TL.fa 1 rfl fc_f47_1_1 rfl rfl ?_
    refine TL.ld 1 (.int _ _) rfl rfl rfl fc_s3 rfl rfl ?_
    refine TL.lss rfl rfl rfl rfl (fun q2 => ?_) (fun q2 => ?_)
    · skip
      refine TL.mv (.bool true) rfl rfl rfl ?_
      refine TL.off rfl rfl ?_
      refine TL.off rfl rfl ?_
      refine TL.off rfl rfl ?_
      refine TL.pickT (.bool true) rfl rfl rfl rfl ?_
      refine TL.mv (.bool true) rfl rfl rfl ?_
      refine TL.off rfl rfl ?_
      refine TL.off rfl rfl ?_
      refine TL.off rfl rfl ?_
      refine TL.off rfl rfl ?_
      refine TL.off rfl rfl ?_
      refine TL.pickT (.bool true) rfl rfl rfl rfl ?_
      refine TL.mv (.bool true) rfl rfl rfl ?_
      refine TL.off rfl rfl ?_
      refine TL.off rfl rfl ?_
      refine TL.off rfl rfl ?_
      refine TL.off rfl rfl ?_
      refine TL.off rfl rfl ?_
      refine TL.pickT (.bool true) rfl rfl rfl rfl ?_
      refine TL.asg (.bool true) rfl rfl rfl ?_
      refine TL.done ?_
      refine TQ.then ?_
      refine TC.condT rfl ?_
      refine TC.seq ?_
      refine TC.region ?_
      refine TL.asg (.int _ _) rfl rfl rfl ?_
      refine TL.done ?_
      refine TQ.then ?_
      refine TC.ret ?_
      refine TQ.blockRet ?_
      refine TQ.thenRet ?_
      refine FQ.ret1 (v := (.int _ _)) (Bs := []) [] rfl rfl rfl trivial ?_
      first | (exfalso; omega) | exact ⟨iE (by unfold wrongI; rw [if_pos (by omega)]), rfl⟩ | exact ⟨iE (by unfold wrongI; rw [if_neg (by omega), if_pos (by omega)]), rfl⟩ | exact ⟨iE (by unfold wrongI; rw [if_neg (by omega), if_neg (by omega), if_pos (by omega)]), rfl⟩ | exact ⟨iE (by unfold wrongI; rw [if_neg (by omega), if_neg (by omega), if_neg (by omega)]), rfl⟩
    · skip
      refine TL.mv (.bool false) rfl rfl rfl ?_
      refine TL.fa 2 rfl fc_f47_2_2 rfl rfl ?_
      refine TL.ld 1 (.int _ _) rfl rfl rfl fc_s3 rfl rfl ?_
      refine TL.lss rfl rfl rfl rfl (fun q3 => ?_) (fun q3 => ?_)
      · skip
        refine TL.pickF (.bool true) rfl rfl rfl rfl ?_
        refine TL.mv (.bool true) rfl rfl rfl ?_
        refine TL.off rfl rfl ?_
        refine TL.off rfl rfl ?_
        refine TL.off rfl rfl ?_
        refine TL.off rfl rfl ?_
        refine TL.off rfl rfl ?_
        refine TL.pickT (.bool true) rfl rfl rfl rfl ?_
        refine TL.mv (.bool true) rfl rfl rfl ?_
        refine TL.off rfl rfl ?_
        refine TL.off rfl rfl ?_
        refine TL.off rfl rfl ?_
        refine TL.off rfl rfl ?_
        refine TL.off rfl rfl ?_
        refine TL.pickT (.bool true) rfl rfl rfl rfl ?_
        refine TL.asg (.bool true) rfl rfl rfl ?_
        refine TL.done ?_
        refine TQ.then ?_
        refine TC.condT rfl ?_
        refine TC.seq ?_
        refine TC.region ?_
        refine TL.asg (.int _ _) rfl rfl rfl ?_
        refine TL.done ?_
        refine TQ.then ?_
        refine TC.ret ?_
        refine TQ.blockRet ?_
        refine TQ.thenRet ?_
        refine FQ.ret1 (v := (.int _ _)) (Bs := []) [] rfl rfl rfl trivial ?_
        first | (exfalso; omega) | exact ⟨iE (by unfold wrongI; rw [if_pos (by omega)]), rfl⟩ | exact ⟨iE (by unfold wrongI; rw [if_neg (by omega), if_pos (by omega)]), rfl⟩ | exact ⟨iE (by unfold wrongI; rw [if_neg (by omega), if_neg (by omega), if_pos (by omega)]), rfl⟩ | exact ⟨iE (by unfold wrongI; rw [if_neg (by omega), if_neg (by omega), if_neg (by omega)]), rfl⟩
      · skip
        refine TL.pickF (.bool false) rfl rfl rfl rfl ?_
        refine TL.mv (.bool false) rfl rfl rfl ?_
        refine TL.fa 1 rfl fc_f47_1_1 rfl rfl ?_
        refine TL.ld 1 (.int _ _) rfl rfl rfl fc_s3 rfl rfl ?_
        refine TL.fa 0 rfl fc_f45_0_0 rfl rfl ?_
        refine TL.ld 0 (.int _ _) rfl rfl rfl fc_s3 rfl rfl ?_
        refine TL.geq rfl rfl rfl rfl (fun q4 => ?_) (fun q4 => ?_)
        · skip
          refine TL.pickF (.bool true) rfl rfl rfl rfl ?_
          refine TL.mv (.bool true) rfl rfl rfl ?_
          refine TL.off rfl rfl ?_
          refine TL.off rfl rfl ?_
          refine TL.off rfl rfl ?_
          refine TL.off rfl rfl ?_
          refine TL.off rfl rfl ?_
          refine TL.pickT (.bool true) rfl rfl rfl rfl ?_
          refine TL.asg (.bool true) rfl rfl rfl ?_
          refine TL.done ?_
          refine TQ.then ?_
          refine TC.condT rfl ?_
          refine TC.seq ?_
          refine TC.region ?_
          refine TL.asg (.int _ _) rfl rfl rfl ?_
          refine TL.done ?_
          refine TQ.then ?_
          refine TC.ret ?_
          refine TQ.blockRet ?_
          refine TQ.thenRet ?_
          refine FQ.ret1 (v := (.int _ _)) (Bs := []) [] rfl rfl rfl trivial ?_
          first | (exfalso; omega) | exact ⟨iE (by unfold wrongI; rw [if_pos (by omega)]), rfl⟩ | exact ⟨iE (by unfold wrongI; rw [if_neg (by omega), if_pos (by omega)]), rfl⟩ | exact ⟨iE (by unfold wrongI; rw [if_neg (by omega), if_neg (by omega), if_pos (by omega)]), rfl⟩ | exact ⟨iE (by unfold wrongI; rw [if_neg (by omega), if_neg (by omega), if_neg (by omega)]), rfl⟩
        · skip
          refine TL.pickF (.bool false) rfl rfl rfl rfl ?_
          refine TL.mv (.bool false) rfl rfl rfl ?_
          refine TL.fa 2 rfl fc_f47_2_2 rfl rfl ?_
          refine TL.ld 1 (.int _ _) rfl rfl rfl fc_s3 rfl rfl ?_
          refine TL.fa 0 rfl fc_f45_0_0 rfl rfl ?_
          refine TL.ld 0 (.int _ _) rfl rfl rfl fc_s3 rfl rfl ?_
          refine TL.geq rfl rfl rfl rfl (fun q5 => ?_) (fun q5 => ?_)
          · skip
            refine TL.pickF (.bool true) rfl rfl rfl rfl ?_
            refine TL.asg (.bool true) rfl rfl rfl ?_
            refine TL.done ?_
            refine TQ.then ?_
            refine TC.condT rfl ?_
            refine TC.seq ?_
            refine TC.region ?_
            refine TL.asg (.int _ _) rfl rfl rfl ?_
            refine TL.done ?_
            refine TQ.then ?_
            refine TC.ret ?_
            refine TQ.blockRet ?_
            refine TQ.thenRet ?_
            refine FQ.ret1 (v := (.int _ _)) (Bs := []) [] rfl rfl rfl trivial ?_
            first | (exfalso; omega) | exact ⟨iE (by unfold wrongI; rw [if_pos (by omega)]), rfl⟩ | exact ⟨iE (by unfold wrongI; rw [if_neg (by omega), if_pos (by omega)]), rfl⟩ | exact ⟨iE (by unfold wrongI; rw [if_neg (by omega), if_neg (by omega), if_pos (by omega)]), rfl⟩ | exact ⟨iE (by unfold wrongI; rw [if_neg (by omega), if_neg (by omega), if_neg (by omega)]), rfl⟩
          · skip
            refine TL.pickF (.bool false) rfl rfl rfl rfl ?_
            refine TL.asg (.bool false) rfl rfl rfl ?_
            refine TL.done ?_
            refine TQ.then ?_
            refine TC.condF rfl ?_
            refine TC.seq ?_
            refine TC.region ?_
            refine TL.fa 1 rfl fc_f47_1_1 rfl rfl ?_
            refine TL.ld 1 (.int _ _) rfl rfl rfl fc_s3 rfl rfl ?_
            refine TL.fa 2 rfl fc_f47_2_2 rfl rfl ?_
            refine TL.ld 1 (.int _ _) rfl rfl rfl fc_s3 rfl rfl ?_
            refine TL.eql rfl rfl rfl rfl (fun q6 => ?_) (fun q6 => ?_)
            · skip
              refine TL.mv (.bool true) rfl rfl rfl ?_
              refine TL.fa 0 rfl fc_f47_0_0 rfl rfl ?_
              refine TL.ld 1 (.int _ _) rfl rfl rfl fc_s3 rfl rfl ?_
              refine TL.neq rfl rfl rfl rfl (fun q7 => ?_) (fun q7 => ?_)
              · skip
                refine TL.pickT (.bool true) rfl rfl rfl rfl ?_
                refine TL.asg (.bool true) rfl rfl rfl ?_
                refine TL.done ?_
                refine TQ.then ?_
                refine TC.condT rfl ?_
                refine TC.seq ?_
                refine TC.region ?_
                refine TL.asg (.int _ _) rfl rfl rfl ?_
                refine TL.done ?_
                refine TQ.then ?_
                refine TC.ret ?_
                refine TQ.blockRet ?_
                refine TQ.thenRet ?_
                refine FQ.ret1 (v := (.int _ _)) (Bs := []) [] rfl rfl rfl trivial ?_
                first | (exfalso; omega) | exact ⟨iE (by unfold wrongI; rw [if_pos (by omega)]), rfl⟩ | exact ⟨iE (by unfold wrongI; rw [if_neg (by omega), if_pos (by omega)]), rfl⟩ | exact ⟨iE (by unfold wrongI; rw [if_neg (by omega), if_neg (by omega), if_pos (by omega)]), rfl⟩ | exact ⟨iE (by unfold wrongI; rw [if_neg (by omega), if_neg (by omega), if_neg (by omega)]), rfl⟩
              · skip
                refine TL.pickT (.bool false) rfl rfl rfl rfl ?_
                refine TL.asg (.bool false) rfl rfl rfl ?_
                refine TL.done ?_
                refine TQ.then ?_
                refine TC.condF rfl ?_
                refine TC.skip ?_
                refine TQ.inBlock ?_
                refine TQ.then ?_
                refine TC.seq ?_
                refine TC.region ?_
                refine TL.asg (.int _ _) rfl rfl rfl ?_
                refine TL.done ?_
                refine TQ.then ?_
                refine TC.ret ?_
                refine FQ.ret1 (v := (.int _ _)) (Bs := []) [] rfl rfl rfl trivial ?_
                first | (exfalso; omega) | exact ⟨iE (by unfold wrongI; rw [if_pos (by omega)]), rfl⟩ | exact ⟨iE (by unfold wrongI; rw [if_neg (by omega), if_pos (by omega)]), rfl⟩ | exact ⟨iE (by unfold wrongI; rw [if_neg (by omega), if_neg (by omega), if_pos (by omega)]), rfl⟩ | exact ⟨iE (by unfold wrongI; rw [if_neg (by omega), if_neg (by omega), if_neg (by omega)]), rfl⟩
            · skip
              refine TL.mv (.bool false) rfl rfl rfl ?_
              refine TL.off rfl rfl ?_
              refine TL.off rfl rfl ?_
              refine TL.off rfl rfl ?_
              refine TL.pickF (.bool false) rfl rfl rfl rfl ?_
              refine TL.asg (.bool false) rfl rfl rfl ?_
              refine TL.done ?_
              refine TQ.then ?_
              refine TC.condF rfl ?_
              refine TC.skip ?_
              refine TQ.inBlock ?_
              refine TQ.then ?_
              refine TC.seq ?_
              refine TC.region ?_
              refine TL.asg (.int _ _) rfl rfl rfl ?_
              refine TL.done ?_
              refine TQ.then ?_
              refine TC.ret ?_
              refine FQ.ret1 (v := (.int _ _)) (Bs := []) [] rfl rfl rfl trivial ?_
              first | (exfalso; omega) | exact ⟨iE (by unfold wrongI; rw [if_pos (by omega)]), rfl⟩ | exact ⟨iE (by unfold wrongI; rw [if_neg (by omega), if_pos (by omega)]), rfl⟩ | exact ⟨iE (by unfold wrongI; rw [if_neg (by omega), if_neg (by omega), if_pos (by omega)]), rfl⟩ | exact ⟨iE (by unfold wrongI; rw [if_neg (by omega), if_neg (by omega), if_neg (by omega)]), rfl⟩

theorem prog_ok {V S T : Int} {th tg : Int} {tb : Nat} {bd : Bool} {cs fr an : Value} {k u v : Int} (hw : wrongI V k u v ≠ 0 ∨ u = v) : FnD Tryz.prog 112 [.pointer (some ⟨tb, 0, none⟩), .agg #[.int .i64 k, .int .i64 u, .int .i64 v]] [pt tb (.cells #[.int .i64 V, .int .i64 S, .int .i64 T, .int .i64 th, .int .i64 tg, cs, fr, an, .bool bd] 130)] (.iface 132 (.agg #[.bool (decide (wrongI V k u v = 0)), .int .i64 (wrongI V k u v)])) [pt tb (.cells #[.int .i64 V, .int .i64 S, .int .i64 T, .int .i64 th, .int .i64 tg, cs, fr, an, .bool bd] 130)] := by
  refine Fn.enter (Tryz.func112) rfl rfl (fun w0 R => ?_)
  refine TC.seq ?_
  refine TC.region ?_
  refine TL.boxA 1 rfl rfl rfl (fun _ => trivial) (fun bk1 => ?_)
  refine TL.asg .nilIface rfl rfl rfl ?_
  refine TL.done ?_
  refine TQ.then ?_
  refine TC.seq ?_
  refine TC.seq ?_
  refine TC.draw [(0, true), (1, true), (2, true), (3, true), (4, true), (5, false), (6, true)] [0, 1] fc_m (by kernel_rfl) ?_
  refine TL.mv (.pointer (some ⟨_, _, none⟩)) rfl rfl rfl ?_
  refine TL.nc rfl rfl rfl ?_
  refine TL.fa 0 rfl fc_f130_0_0 rfl rfl ?_
  refine TL.ldA 0 3 [_, _, _] rfl rfl rfl fc_a45_3 rfl rfl ?_
  refine TL.ldA 1 3 [_, _, _] rfl rfl rfl fc_a47_3 rfl rfl ?_
  refine TL.callD [] [] wrong_ok ⟨rfl, rfl, trivial⟩ trivial fc_c19 rfl rfl rfl rfl rfl (.cons rfl rfl (.cons rfl rfl trivial)) ?_
  refine TL.asg (.int _ _) rfl rfl rfl ?_
  refine TL.done ?_
  refine TQ.then ?_
  refine TC.block ?_
  refine TC.seq ?_
  refine TC.region ?_
  refine TL.mv (.int _ _) rfl rfl rfl ?_
  refine TL.neq rfl rfl rfl rfl (fun q1 => ?_) (fun q1 => ?_)
  · skip
    refine TL.asg (.bool true) rfl rfl rfl ?_
    refine TL.done ?_
    refine TQ.then ?_
    refine TC.condT rfl ?_
    refine TC.seq ?_
    refine TC.region ?_
    refine TL.mv (.int _ _) rfl rfl rfl ?_
    refine TL.bld [.bool false, .int .i64 0] [(.bool false), (.int _ _)] [_, _] fc_z132 fc_q132 ⟨rfl, rfl, trivial⟩ ⟨rfl, rfl⟩ rfl rfl ?_
    refine TL.miN (v := (.agg _)) rfl fc_n132 rfl rfl ?_
    refine TL.asg (.iface _ _) rfl rfl rfl ?_
    refine TL.done ?_
    refine TQ.then ?_
    refine TC.ret ?_
    refine TQ.blockRet ?_
    refine TQ.thenRet ?_
    refine FQ.ret1 (v := (.iface _ _)) (Bs := [pt tb (.cells #[.int .i64 V, .int .i64 S, .int .i64 T, .int .i64 th, .int .i64 tg, cs, fr, an, .bool bd] 130)]) [0] rfl rfl rfl ⟨rfl, trivial⟩ ?_
    first | exact ⟨(by rw [decide_eq_false (by assumption)]), rfl⟩ | exact ⟨(by rw [show wrongI V k u v = 0 by omega]; rfl), rfl⟩
  · skip
    refine TL.asg (.bool false) rfl rfl rfl ?_
    refine TL.done ?_
    refine TQ.then ?_
    refine TC.condF rfl ?_
    refine TC.seq ?_
    refine TC.region ?_
    refine TL.fa 1 rfl fc_f47_1_1 rfl rfl ?_
    refine TL.ld 1 (.int _ _) rfl rfl rfl fc_s3 rfl rfl ?_
    refine TL.fa 2 rfl fc_f47_2_2 rfl rfl ?_
    refine TL.ld 1 (.int _ _) rfl rfl rfl fc_s3 rfl rfl ?_
    refine TL.eqlT rfl rfl (by omega) rfl rfl ?_
    refine TL.asg (.bool true) rfl rfl rfl ?_
    refine TL.done ?_
    refine TQ.then ?_
    refine TC.condT rfl ?_
    refine TC.seq ?_
    refine TC.region ?_
    refine TL.bld [.bool false, .int .i64 0] [(.bool true), (.int _ _)] [_, _] fc_z132 fc_q132 ⟨rfl, rfl, trivial⟩ ⟨rfl, rfl⟩ rfl rfl ?_
    refine TL.miN (v := (.agg _)) rfl fc_n132 rfl rfl ?_
    refine TL.asg (.iface _ _) rfl rfl rfl ?_
    refine TL.done ?_
    refine TQ.then ?_
    refine TC.ret ?_
    refine TQ.blockRet ?_
    refine TQ.thenRet ?_
    refine FQ.ret1 (v := (.iface _ _)) (Bs := [pt tb (.cells #[.int .i64 V, .int .i64 S, .int .i64 T, .int .i64 th, .int .i64 tg, cs, fr, an, .bool bd] 130)]) [0] rfl rfl rfl ⟨rfl, trivial⟩ ?_
    first | exact ⟨(by rw [decide_eq_false (by assumption)]), rfl⟩ | exact ⟨(by rw [show wrongI V k u v = 0 by omega]; rfl), rfl⟩

theorem begin_b {V S T : Int} {th tg : Int} {tb : Nat} {bd : Bool} {a : Option Addr} {b off n c : Nat} {CR : Assn} {f : Nat → Cal} {v : Value} {d : Array Ans} {fr : Value} {now : Int} (h0 : 0 < n) (hc : n ≤ c) (ha : 0 < n → a = some ⟨b, off, none⟩) (hCR : RowOf CR encC 3 b off n f) (hd : d.size ≤ 100) (hw : wrongI V (f 0).k (f 0).u (f 0).v ≠ 0 ∨ (f 0).u = (f 0).v) : Go.Eng.Fn Tryz.prog 62 [.pointer (some ⟨tb, 0, none⟩), .int .i64 now] [pt tb (.cells #[.int .i64 V, .int .i64 S, .int .i64 T, .int .i64 th, .int .i64 tg, .slice a n c, fr, v, .bool bd] 130), CR, ownA encA 9 94 v d] (fun w Bs => w = .bool true ∧ ∃ v2, Bs = [pt tb (.cells #[.int .i64 V, .int .i64 S, .int .i64 T, .int .i64 th, .int .i64 tg, .slice (slA a 1 3 c) (n - 1) (c - 1), .iface 132 (.agg #[.bool (decide (wrongI V (f 0).k (f 0).u (f 0).v = 0)), .int .i64 (wrongI V (f 0).k (f 0).u (f 0).v)]), v2, .bool bd] 130), CR, ownA encA 9 94 v2 (d ++ #[ansOf th now (f 0)])]) := by
  refine Fn.enter (Tryz.func62) rfl rfl (fun w0 R => ?_)
  refine TC.seq ?_
  refine TC.region ?_
  refine TL.asg (.bool false) rfl rfl rfl ?_
  refine TL.done ?_
  refine TQ.then ?_
  refine TC.seq ?_
  refine TC.seq ?_
  refine TC.region ?_
  refine TL.mv (.pointer (some ⟨_, _, none⟩)) rfl rfl rfl ?_
  refine TL.nc rfl rfl rfl ?_
  refine TL.fa 5 rfl fc_f130_3_5 rfl rfl ?_
  refine TL.ld 0 (.slice _ _ _) rfl rfl rfl fc_s89 rfl rfl ?_
  refine TL.lenS rfl fc_l89_47_3 rfl rfl ?_
  refine TL.eqlF rfl rfl (by omega) rfl rfl ?_
  refine TL.done ?_
  refine TQ.then ?_
  refine TC.condF rfl ?_
  refine TC.skip ?_
  refine TQ.then ?_
  refine TC.seq ?_
  refine TC.region ?_
  refine TL.mv (.pointer (some ⟨_, _, none⟩)) rfl rfl rfl ?_
  refine TL.nc rfl rfl rfl ?_
  refine TL.fa 5 rfl fc_f130_3_5 rfl rfl ?_
  refine TL.ld 0 (.slice _ _ _) rfl rfl rfl fc_s89 rfl rfl ?_
  refine TL.iaO rfl ha rfl fc_l89_47_3 (by omega) rfl rfl ?_
  refine TL.ldRx 1 [_, _, _] rfl rfl hCR (by omega) rfl fc_a47_3 rfl rfl ?_
  refine TL.alloc 3 (cs := #[.int .i64 0, .int .i64 0, .int .i64 0]) fc_z47 rfl rfl rfl (fun _ => trivial) (fun bk3 => ?_)
  refine TL.stW 3 3 [_, _, _] rfl rfl rfl rfl rfl rfl fc_a47_3 rfl rfl trivial ?_
  refine TL.done ?_
  refine TQ.then ?_
  refine TC.seq ?_
  refine TC.region ?_
  refine TL.mv (.pointer (some ⟨_, _, none⟩)) rfl rfl rfl ?_
  refine TL.mv (.pointer (some ⟨_, _, none⟩)) rfl rfl rfl ?_
  refine TL.nc rfl rfl rfl ?_
  refine TL.fa 5 rfl fc_f130_3_5 rfl rfl ?_
  refine TL.ld 0 (.slice _ _ _) rfl rfl rfl fc_s89 rfl rfl ?_
  refine TL.slLo rfl rfl fc_l89_47_3 (h0) rfl rfl ?_
  refine TL.nc rfl rfl rfl ?_
  refine TL.fa 5 rfl fc_f130_3_5 rfl rfl ?_
  refine TL.st 0 #[_, _, _, _, _, _, _, _, _] (.slice _ _ _) rfl rfl rfl rfl rfl rfl fc_s89 rfl rfl trivial ?_
  refine TL.done ?_
  refine TQ.then ?_
  refine TC.seq ?_
  refine TC.region ?_
  refine TL.mv (.pointer (some ⟨_, _, none⟩)) rfl rfl rfl ?_
  refine TL.mv (.pointer (some ⟨_, _, none⟩)) rfl rfl rfl ?_
  refine TL.ldA 3 3 [_, _, _] rfl rfl rfl fc_a47_3 rfl rfl ?_
  refine TL.callD [0] [0] (prog_ok hw) ⟨rfl, rfl, trivial⟩ ⟨rfl, trivial⟩ fc_c112 rfl rfl rfl rfl rfl trivial ?_
  refine TL.nc rfl rfl rfl ?_
  refine TL.fa 6 rfl fc_f130_4_6 rfl rfl ?_
  refine TL.st 0 #[_, _, _, _, _, _, _, _, _] (.iface _ _) rfl rfl rfl rfl rfl rfl fc_s20 rfl rfl trivial ?_
  refine TL.done ?_
  refine TQ.then ?_
  refine TC.seq ?_
  refine TC.draw2 [(0, true), (1, true), (2, true), (3, true), (4, true), (5, true), (6, true), (7, true), (8, true), (9, true), (10, true), (11, true), (12, false), (13, false), (14, true), (15, true)] 16 [] [0, 3] fc_m (by kernel_rfl) ?_
  refine TL.mv (.pointer (some ⟨_, _, none⟩)) rfl rfl rfl ?_
  refine TL.mv (.pointer (some ⟨_, _, none⟩)) rfl rfl rfl ?_
  refine TL.nc rfl rfl rfl ?_
  refine TL.fa 7 rfl fc_f130_5_7 rfl rfl ?_
  refine TL.ld 0 _ rfl rfl rfl fc_s91 rfl rfl ?_
  refine TL.ldA 3 3 [_, _, _] rfl rfl rfl fc_a47_3 rfl rfl ?_
  refine TL.mv (.pointer (some ⟨_, _, none⟩)) rfl rfl rfl ?_
  refine TL.nc rfl rfl rfl ?_
  refine TL.fa 3 rfl fc_f130_1_3 rfl rfl ?_
  refine TL.ld 0 (.int _ _) rfl rfl rfl fc_s3 rfl rfl ?_
  refine TL.mv (.int _ _) rfl rfl rfl ?_
  refine TL.bld [.int .i64 0, .int .i64 0, .int .i64 0, .int .i64 0, .int .i64 0, .int .i64 0, .int .i64 0, .bool false, .int .i64 0] [(.agg _), (.int _ _), (.int _ _)] [_, _, _, _, _, _, _, _, _] fc_z94 fc_q94 ⟨rfl, rfl, rfl, trivial⟩ ⟨rfl, rfl⟩ rfl rfl ?_
  refine TL.bsN 4 [_] (encA (ansOf th now (f 0))) fc_l91_94_9 fc_z94 ⟨rfl, trivial⟩ rfl (lit1 rfl) rfl rfl (fun bk4 => ⟨(.cons rfl rfl (.cons rfl rfl trivial)), ?_⟩)
  refine TL.appS 2 4 (d2 := #[ansOf th now (f 0)]) rfl (rfl) rfl (fun _ => rfl) rfl rfl (row1 rfl) encA_one (by decide) fc_k91_94_9 (by simp; omega) rfl rfl (fun v5 => ⟨(.cons rfl rfl (.cons rfl rfl trivial)), ?_⟩)
  refine TL.ownW 2 rfl (fun a9 g9 c9 hv9 _ _ => ?_)
  subst hv9
  refine TL.nc rfl rfl rfl ?_
  refine TL.fa 7 rfl fc_f130_5_7 rfl rfl ?_
  refine TL.late ?_
  refine TL.st 0 #[_, _, _, _, _, _, _, _, _] _ rfl rfl rfl rfl rfl rfl fc_s91 rfl rfl trivial ?_
  refine TL.done ?_
  refine TQ.then ?_
  refine TC.seq ?_
  refine TC.region ?_
  refine TL.asg (.bool true) rfl rfl rfl ?_
  refine TL.done ?_
  refine TQ.then ?_
  refine TC.ret ?_
  refine FQ.ret1 (v := (.bool true)) (Bs := [_, CR, _]) [0, 1, 2] rfl rfl rfl ⟨rfl, rfl, rfl, trivial⟩ ?_
  exact ⟨rfl, _, rfl⟩

theorem begin_z {V S T : Int} {th tg : Int} {tb : Nat} {bd : Bool} {a : Option Addr} {c : Nat} {v : Value} {d : Array Ans} {fr : Value} {now : Int} : FnD Tryz.prog 62 [.pointer (some ⟨tb, 0, none⟩), .int .i64 now] [pt tb (.cells #[.int .i64 V, .int .i64 S, .int .i64 T, .int .i64 th, .int .i64 tg, .slice a 0 c, fr, v, .bool bd] 130), ownA encA 9 94 v d] (.bool false) [pt tb (.cells #[.int .i64 V, .int .i64 S, .int .i64 T, .int .i64 th, .int .i64 tg, .slice a 0 c, fr, v, .bool bd] 130), ownA encA 9 94 v d] := by
  refine Fn.enter (Tryz.func62) rfl rfl (fun w0 R => ?_)
  refine TC.seq ?_
  refine TC.region ?_
  refine TL.asg (.bool false) rfl rfl rfl ?_
  refine TL.done ?_
  refine TQ.then ?_
  refine TC.seq ?_
  refine TC.seq ?_
  refine TC.region ?_
  refine TL.mv (.pointer (some ⟨_, _, none⟩)) rfl rfl rfl ?_
  refine TL.nc rfl rfl rfl ?_
  refine TL.fa 5 rfl fc_f130_3_5 rfl rfl ?_
  refine TL.ld 0 (.slice _ _ _) rfl rfl rfl fc_s89 rfl rfl ?_
  refine TL.lenS rfl fc_l89_47_3 rfl rfl ?_
  refine TL.eqlT rfl rfl (by omega) rfl rfl ?_
  refine TL.done ?_
  refine TQ.then ?_
  refine TC.condT rfl ?_
  refine TC.seq ?_
  refine TC.region ?_
  refine TL.asg (.bool false) rfl rfl rfl ?_
  refine TL.done ?_
  refine TQ.then ?_
  refine TC.ret ?_
  refine TQ.thenRet ?_
  refine FQ.ret1 (v := (.bool false)) (Bs := [pt tb (.cells #[.int .i64 V, .int .i64 S, .int .i64 T, .int .i64 th, .int .i64 tg, .slice a 0 c, fr, v, .bool bd] 130), ownA encA 9 94 v d]) [0, 1] rfl rfl rfl ⟨rfl, rfl, trivial⟩ ?_
  exact ⟨rfl, rfl⟩

set_option maxHeartbeats 1000000 in
theorem end_ok {V S T : Int} {th tg : Int} {tb : Nat} {bd : Bool} {cs fr v : Value} {d : Array Ans} {now p_ e_ : Int} {y_ : Bool} (h0 : 0 < d.size) (hd : d.size ≤ 100) : FnD Tryz.prog 63 [.pointer (some ⟨tb, 0, none⟩), .int .i64 now, .int .i64 p_, .bool y_, .int .i64 e_] [pt tb (.cells #[.int .i64 V, .int .i64 S, .int .i64 T, .int .i64 th, .int .i64 tg, cs, fr, v, .bool bd] 130), ownA encA 9 94 v d] (.tuple #[]) [pt tb (.cells #[.int .i64 V, .int .i64 S, .int .i64 T, .int .i64 th, .int .i64 tg, cs, fr, v, .bool bd] 130), ownA encA 9 94 v (d.setIfInBounds (d.size - 1) { d[d.size - 1]! with fin := now, point := p_, yes := y_, code := e_ })] := by
  refine Fn.enter (Tryz.func63) rfl rfl (fun w0 R => ?_)
  refine TC.seq ?_
  refine TC.ownW 1 rfl (fun a9 g9 c9 hv9 hc9 ha9 => ?_)
  subst hv9
  obtain rfl := ha9 h0
  refine TC.draw [(0, true), (1, true), (2, true), (3, true), (4, true), (5, true), (6, true), (7, true), (8, true), (9, true), (10, true), (11, true)] [0] fc_m (by kernel_rfl) ?_
  refine TL.mv (.pointer (some ⟨_, _, none⟩)) rfl rfl rfl ?_
  refine TL.nc rfl rfl rfl ?_
  refine TL.fa 7 rfl fc_f130_5_7 rfl rfl ?_
  refine TL.ld 0 (.slice _ _ _) rfl rfl rfl fc_s91 rfl rfl ?_
  refine TL.mv (.pointer (some ⟨_, _, none⟩)) rfl rfl rfl ?_
  refine TL.nc rfl rfl rfl ?_
  refine TL.fa 7 rfl fc_f130_5_7 rfl rfl ?_
  refine TL.ld 0 (.slice _ _ _) rfl rfl rfl fc_s91 rfl rfl ?_
  refine TL.lenS rfl fc_l91_94_9 rfl rfl ?_
  refine TL.sub (((d.size - 1 : Nat) : Int)) rfl rfl (wrN (by omega)) rfl rfl ?_
  refine TL.iaO rfl (fun _ => rfl) rfl fc_l91_94_9 (by omega) rfl rfl ?_
  refine TL.asg _ rfl rfl rfl ?_
  refine TL.done ?_
  refine TQ.then ?_
  refine TC.region ?_
  refine TL.mv _ rfl rfl rfl ?_
  refine TL.mv _ rfl rfl rfl ?_
  refine TL.mv _ rfl rfl rfl ?_
  refine TL.mv _ rfl rfl rfl ?_
  refine TL.mv (.int _ _) rfl rfl rfl ?_
  refine TL.mv (.int _ _) rfl rfl rfl ?_
  refine TL.mv (.bool _) rfl rfl rfl ?_
  refine TL.mv (.int _ _) rfl rfl rfl ?_
  refine TL.nc rfl rfl rfl ?_
  refine TL.fa 6 rfl fc_f94_4_6 rfl rfl ?_
  refine TL.stOF 1 (i := d.size - 1) (cur := d[d.size - 1]!) (u := { d[d.size - 1]! with fin := now }) (rfl) rfl rfl rfl rfl (by omega) (rfl) ⟨(encA_ok _).1, rfl⟩ rfl fc_s3 rfl rfl trivial ?_
  refine TL.nc rfl rfl rfl ?_
  refine TL.fa 5 rfl fc_f94_3_5 rfl rfl ?_
  refine TL.stOF 1 (i := d.size - 1) (cur := { d[d.size - 1]! with fin := now }) (u := { d[d.size - 1]! with fin := now, point := p_ }) (by simp) rfl rfl rfl rfl (by simp; omega) ((by rw [set_get!]; exact if_pos rfl; (first | omega | (simp; omega)))) ⟨(encA_ok _).1, rfl⟩ rfl fc_s3 rfl rfl trivial ?_
  refine TL.nc rfl rfl rfl ?_
  refine TL.fa 7 rfl fc_f94_5_7 rfl rfl ?_
  refine TL.stOF 1 (i := d.size - 1) (cur := { d[d.size - 1]! with fin := now, point := p_ }) (u := { d[d.size - 1]! with fin := now, point := p_, yes := y_ }) (by simp) rfl rfl rfl rfl (by simp; omega) ((by rw [set_get!]; exact if_pos rfl; (first | omega | (simp; omega)))) ⟨(encA_ok _).1, rfl⟩ rfl fc_s4 rfl rfl trivial ?_
  refine TL.nc rfl rfl rfl ?_
  refine TL.fa 8 rfl fc_f94_6_8 rfl rfl ?_
  refine TL.stOF 1 (i := d.size - 1) (cur := { d[d.size - 1]! with fin := now, point := p_, yes := y_ }) (u := { d[d.size - 1]! with fin := now, point := p_, yes := y_, code := e_ }) (by simp) rfl rfl rfl rfl (by simp; omega) ((by rw [set_get!]; exact if_pos rfl; (first | omega | (simp; omega)))) ⟨(encA_ok _).1, rfl⟩ rfl fc_s30 rfl rfl trivial ?_
  refine TL.done ?_
  refine FQ.end0 (Bs := [_, _]) [0, 1] rfl rfl ⟨rfl, rfl, trivial⟩ ?_
  exact ⟨rfl, by rw [set_set, set_set, set_set]⟩

theorem pend_ok {V S T : Int} {th tg : Int} {tb : Nat} {bd : Bool} {cs fr v : Value} {d : Array Ans} (hd : d.size ≤ 100) : FnD Tryz.prog 36 [.pointer (some ⟨tb, 0, none⟩)] [pt tb (.cells #[.int .i64 V, .int .i64 S, .int .i64 T, .int .i64 th, .int .i64 tg, cs, fr, v, .bool bd] 130), ownA encA 9 94 v d] (.bool (pendB d)) [pt tb (.cells #[.int .i64 V, .int .i64 S, .int .i64 T, .int .i64 th, .int .i64 tg, cs, fr, v, .bool bd] 130), ownA encA 9 94 v d] := by
  refine Fn.enter (Tryz.func36) rfl rfl (fun w0 R => ?_)
  refine TC.seq ?_
  refine TC.region ?_
  refine TL.asg (.bool false) rfl rfl rfl ?_
  refine TL.done ?_
  refine TQ.then ?_
  refine TC.seq ?_
  refine TC.ownW 1 rfl (fun a9 g9 c9 hv9 hc9 ha9 => ?_)
  subst hv9
  refine TC.region ?_
  refine TL.mv (.pointer (some ⟨_, _, none⟩)) rfl rfl rfl ?_
  refine TL.nc rfl rfl rfl ?_
  refine TL.fa 7 rfl fc_f130_5_7 rfl rfl ?_
  refine TL.ld 0 (.slice _ _ _) rfl rfl rfl fc_s91 rfl rfl ?_
  refine TL.lenS rfl fc_l91_94_9 rfl rfl ?_
  refine TL.asg (.int _ _) rfl rfl rfl ?_
  refine TL.done ?_
  refine TQ.then ?_
  refine TC.seq ?_
  refine TC.region ?_
  refine TL.mv (.int _ _) rfl rfl rfl ?_
  refine TL.gtr rfl rfl rfl rfl (fun q1 => ?_) (fun q1 => ?_)
  · skip
    refine TL.mv (.bool true) rfl rfl rfl ?_
    refine TL.mv (.pointer (some ⟨_, _, none⟩)) rfl rfl rfl ?_
    refine TL.nc rfl rfl rfl ?_
    refine TL.fa 7 rfl fc_f130_5_7 rfl rfl ?_
    refine TL.ld 0 (.slice _ _ _) rfl rfl rfl fc_s91 rfl rfl ?_
    refine TL.mv (.int _ _) rfl rfl rfl ?_
    refine TL.sub (((d.size - 1 : Nat) : Int)) rfl rfl (wrN (by omega)) rfl rfl ?_
    refine TL.iaO rfl ha9 rfl fc_l91_94_9 (by omega) rfl rfl ?_
    refine TL.fa 6 rfl fc_f94_4_6 rfl rfl ?_
    refine TL.ldRF 1 (.int _ _) rfl rfl (own_rowOf ha9) (by omega) (encA_ok _).1 rfl fc_s3 rfl rfl ?_
    refine TL.eqlV rfl rfl rfl rfl ?_
    refine TL.pickT (.bool _) rfl rfl rfl rfl ?_
    refine TL.asg (.bool _) rfl rfl rfl ?_
    refine TL.done ?_
    refine TQ.then ?_
    refine TC.ret ?_
    refine FQ.ret1 (v := (.bool _)) (Bs := [_, _]) [0, 1] rfl rfl rfl ⟨rfl, rfl, trivial⟩ ?_
    exact ⟨congrArg Value.bool (by unfold pendB; first | (simp [*]; done) | (simp [*]; omega)), rfl⟩
  · skip
    refine TL.mv (.bool false) rfl rfl rfl ?_
    refine TL.off rfl rfl ?_
    refine TL.off rfl rfl ?_
    refine TL.off rfl rfl ?_
    refine TL.off rfl rfl ?_
    refine TL.off rfl rfl ?_
    refine TL.off rfl rfl ?_
    refine TL.off rfl rfl ?_
    refine TL.off rfl rfl ?_
    refine TL.off rfl rfl ?_
    refine TL.off rfl rfl ?_
    refine TL.pickF (.bool false) rfl rfl rfl rfl ?_
    refine TL.asg (.bool false) rfl rfl rfl ?_
    refine TL.done ?_
    refine TQ.then ?_
    refine TC.ret ?_
    refine FQ.ret1 (v := (.bool false)) (Bs := [_, _]) [0, 1] rfl rfl rfl ⟨rfl, rfl, trivial⟩ ?_
    exact ⟨congrArg Value.bool (by unfold pendB; first | (simp [*]; done) | (simp [*]; omega)), rfl⟩

theorem step_b {V S T : Int} {th tg : Int} {tb : Nat} {bd : Bool} {a : Option Addr} {b off n c : Nat} {CR : Assn} {f : Nat → Cal} {v : Value} {d : Array Ans} {fr : Value} {now : Int} {ab : Nat} (hp : pendB d = false) (h0 : 0 < n) (hc : n ≤ c) (ha : 0 < n → a = some ⟨b, off, none⟩) (hCR : RowOf CR encC 3 b off n f) (hd : d.size ≤ 100) (hw : wrongI V (f 0).k (f 0).u (f 0).v ≠ 0 ∨ (f 0).u = (f 0).v) : Go.Eng.Fn Tryz.prog 35 [.pointer (some ⟨tb, 0, none⟩), .pointer (some ⟨ab, 0, none⟩), .int .i64 now] [pt tb (.cells #[.int .i64 V, .int .i64 S, .int .i64 T, .int .i64 th, .int .i64 tg, .slice a n c, fr, v, .bool bd] 130), CR, ownA encA 9 94 v d] (fun w Bs => w = .bool true ∧ ∃ v2, Bs = [pt tb (.cells #[.int .i64 V, .int .i64 S, .int .i64 T, .int .i64 th, .int .i64 tg, .slice (slA a 1 3 c) (n - 1) (c - 1), .iface 132 (.agg #[.bool (decide (wrongI V (f 0).k (f 0).u (f 0).v = 0)), .int .i64 (wrongI V (f 0).k (f 0).u (f 0).v)]), v2, .bool bd] 130), CR, ownA encA 9 94 v2 (d ++ #[ansOf th now (f 0)])]) := by
  refine Fn.enter (Tryz.func35) rfl rfl (fun w0 R => ?_)
  refine TC.seq ?_
  refine TC.region ?_
  refine TL.asg (.bool false) rfl rfl rfl ?_
  refine TL.done ?_
  refine TQ.then ?_
  refine TC.seq ?_
  refine TC.seq ?_
  refine TC.region ?_
  refine TL.mv (.pointer (some ⟨_, _, none⟩)) rfl rfl rfl ?_
  refine TL.callD [0, 2] [0, 2] (pend_ok hd) ⟨rfl, trivial⟩ ⟨rfl, rfl, trivial⟩ fc_c36 rfl rfl rfl rfl rfl trivial ?_
  rw [hp]
  refine TL.not false true rfl rfl rfl rfl ?_
  refine TL.done ?_
  refine TQ.then ?_
  refine TC.condT rfl ?_
  refine TC.seq ?_
  refine TC.region ?_
  refine TL.mv (.pointer (some ⟨_, _, none⟩)) rfl rfl rfl ?_
  refine TL.mv (.int _ _) rfl rfl rfl ?_
  refine TL.call [0, 1, 2] [0, 1, 2] (begin_b h0 hc ha hCR hd hw) ⟨rfl, rfl, trivial⟩ ⟨rfl, rfl, rfl, trivial⟩ fc_c62 rfl rfl rfl rfl ?_
  rintro w Bs ⟨rfl, v2, rfl⟩
  refine ⟨rfl, trivial, ?_⟩
  refine TL.asg (.bool true) rfl rfl rfl ?_
  refine TL.done ?_
  refine TQ.then ?_
  refine TC.ret ?_
  refine TQ.thenRet ?_
  refine FQ.ret1 (v := (.bool true)) (Bs := [_, CR, _]) [0, 1, 2] rfl rfl rfl ⟨rfl, rfl, rfl, trivial⟩ ?_
  exact ⟨rfl, _, rfl⟩

theorem step_z {V S T : Int} {th tg : Int} {tb : Nat} {bd : Bool} {a : Option Addr} {c : Nat} {v : Value} {d : Array Ans} {fr : Value} {now : Int} {ab : Nat} (hp : pendB d = false) (hd : d.size ≤ 100) : FnD Tryz.prog 35 [.pointer (some ⟨tb, 0, none⟩), .pointer (some ⟨ab, 0, none⟩), .int .i64 now] [pt tb (.cells #[.int .i64 V, .int .i64 S, .int .i64 T, .int .i64 th, .int .i64 tg, .slice a 0 c, fr, v, .bool bd] 130), ownA encA 9 94 v d] (.bool false) [pt tb (.cells #[.int .i64 V, .int .i64 S, .int .i64 T, .int .i64 th, .int .i64 tg, .slice a 0 c, fr, v, .bool bd] 130), ownA encA 9 94 v d] := by
  refine Fn.enter (Tryz.func35) rfl rfl (fun w0 R => ?_)
  refine TC.seq ?_
  refine TC.region ?_
  refine TL.asg (.bool false) rfl rfl rfl ?_
  refine TL.done ?_
  refine TQ.then ?_
  refine TC.seq ?_
  refine TC.seq ?_
  refine TC.region ?_
  refine TL.mv (.pointer (some ⟨_, _, none⟩)) rfl rfl rfl ?_
  refine TL.callD [0, 1] [0, 1] (pend_ok hd) ⟨rfl, trivial⟩ ⟨rfl, rfl, trivial⟩ fc_c36 rfl rfl rfl rfl rfl trivial ?_
  rw [hp]
  refine TL.not false true rfl rfl rfl rfl ?_
  refine TL.done ?_
  refine TQ.then ?_
  refine TC.condT rfl ?_
  refine TC.seq ?_
  refine TC.region ?_
  refine TL.mv (.pointer (some ⟨_, _, none⟩)) rfl rfl rfl ?_
  refine TL.mv (.int _ _) rfl rfl rfl ?_
  refine TL.callD [0, 1] [0, 1] begin_z ⟨rfl, rfl, trivial⟩ ⟨rfl, rfl, trivial⟩ fc_c62 rfl rfl rfl rfl rfl trivial ?_
  refine TL.asg (.bool false) rfl rfl rfl ?_
  refine TL.done ?_
  refine TQ.then ?_
  refine TC.ret ?_
  refine TQ.thenRet ?_
  refine FQ.ret1 (v := (.bool false)) (Bs := [pt tb (.cells #[.int .i64 V, .int .i64 S, .int .i64 T, .int .i64 th, .int .i64 tg, .slice a 0 c, fr, v, .bool bd] 130), ownA encA 9 94 v d]) [0, 1] rfl rfl rfl ⟨rfl, rfl, trivial⟩ ?_
  exact ⟨rfl, rfl⟩

theorem step_e {V S T : Int} {th tg : Int} {tb : Nat} {bd : Bool} {cs v : Value} {d : Array Ans} {now e_ : Int} {y_ : Bool} {ab : Nat} (hp : pendB d = true) (hd : d.size ≤ 100) : FnD Tryz.prog 35 [.pointer (some ⟨tb, 0, none⟩), .pointer (some ⟨ab, 0, none⟩), .int .i64 now] [pt tb (.cells #[.int .i64 V, .int .i64 S, .int .i64 T, .int .i64 th, .int .i64 tg, cs, .iface 132 (.agg #[.bool y_, .int .i64 e_]), v, .bool bd] 130), ownA encA 9 94 v d] (.bool true) [pt tb (.cells #[.int .i64 V, .int .i64 S, .int .i64 T, .int .i64 th, .int .i64 tg, cs, .iface 132 (.agg #[.bool y_, .int .i64 e_]), v, .bool bd] 130), ownA encA 9 94 v (d.setIfInBounds (d.size - 1) { d[d.size - 1]! with fin := now, point := now, yes := y_, code := e_ })] := by
  refine Fn.enter (Tryz.func35) rfl rfl (fun w0 R => ?_)
  refine TC.seq ?_
  refine TC.region ?_
  refine TL.asg (.bool false) rfl rfl rfl ?_
  refine TL.done ?_
  refine TQ.then ?_
  refine TC.seq ?_
  refine TC.seq ?_
  refine TC.region ?_
  refine TL.mv (.pointer (some ⟨_, _, none⟩)) rfl rfl rfl ?_
  refine TL.callD [0, 1] [0, 1] (pend_ok hd) ⟨rfl, trivial⟩ ⟨rfl, rfl, trivial⟩ fc_c36 rfl rfl rfl rfl rfl trivial ?_
  rw [hp]
  refine TL.not true false rfl rfl rfl rfl ?_
  refine TL.done ?_
  refine TQ.then ?_
  refine TC.condF rfl ?_
  refine TC.skip ?_
  refine TQ.then ?_
  refine TC.seq ?_
  refine TC.seq ?_
  refine TC.region ?_
  refine TL.mv (.pointer (some ⟨_, _, none⟩)) rfl rfl rfl ?_
  refine TL.nc rfl rfl rfl ?_
  refine TL.fa 6 rfl fc_f130_4_6 rfl rfl ?_
  refine TL.ld 0 (.iface _ _) rfl rfl rfl fc_s20 rfl rfl ?_
  refine TL.done ?_
  refine TQ.then ?_
  refine TC.block ?_
  refine TC.seq ?_
  refine TC.region ?_
  refine TL.tyA fc_ty132 rfl rfl rfl ?_
  refine TL.ext (.bool true) rfl rfl rfl rfl ?_
  refine TL.ext (.agg _) rfl rfl rfl rfl ?_
  refine TL.done ?_
  refine TQ.then ?_
  refine TC.condT rfl ?_
  refine TC.seq ?_
  refine TC.region ?_
  refine TL.alloc 2 (cs := #[.bool false, .int .i64 0]) fc_z132 rfl rfl rfl (fun _ => trivial) (fun bk2 => ?_)
  refine TL.stW 2 2 [_, _] rfl rfl rfl rfl rfl rfl fc_a132_2 rfl rfl trivial ?_
  refine TL.done ?_
  refine TQ.then ?_
  refine TC.region ?_
  refine TL.mv (.pointer (some ⟨_, _, none⟩)) rfl rfl rfl ?_
  refine TL.mv (.int _ _) rfl rfl rfl ?_
  refine TL.mv (.int _ _) rfl rfl rfl ?_
  refine TL.fa 0 rfl fc_f132_0_0 rfl rfl ?_
  refine TL.ld 2 (.bool _) rfl rfl rfl fc_s4 rfl rfl ?_
  refine TL.fa 1 rfl fc_f132_1_1 rfl rfl ?_
  refine TL.ld 2 (.int _ _) rfl rfl rfl fc_s30 rfl rfl ?_
  refine TL.callD [0, 1] [0, 1] (end_ok (pend_pos hp) hd) ⟨rfl, rfl, rfl, rfl, rfl, trivial⟩ ⟨rfl, rfl, trivial⟩ fc_c63 rfl rfl rfl rfl rfl trivial ?_
  refine TL.done ?_
  refine TQ.inBlock ?_
  refine TQ.then ?_
  refine TC.seq ?_
  refine TC.region ?_
  refine TL.asg (.bool true) rfl rfl rfl ?_
  refine TL.done ?_
  refine TQ.then ?_
  refine TC.ret ?_
  refine FQ.ret1 (v := (.bool true)) (Bs := [_, _]) [0, 1] rfl rfl rfl ⟨rfl, rfl, trivial⟩ ?_
  exact ⟨rfl, rfl⟩

theorem left_ok {V S T : Int} {th tg : Int} {tb : Nat} {bd : Bool} {a : Option Addr} {n c : Nat} {fr an : Value} : FnD Tryz.prog 34 [.pointer (some ⟨tb, 0, none⟩)] [pt tb (.cells #[.int .i64 V, .int .i64 S, .int .i64 T, .int .i64 th, .int .i64 tg, .slice a n c, fr, an, .bool bd] 130)] (.int .i64 ((n : Nat) : Int)) [pt tb (.cells #[.int .i64 V, .int .i64 S, .int .i64 T, .int .i64 th, .int .i64 tg, .slice a n c, fr, an, .bool bd] 130)] := by
  refine Fn.enter (Tryz.func34) rfl rfl (fun w0 R => ?_)
  refine TC.seq ?_
  refine TC.region ?_
  refine TL.asg (.int _ _) rfl rfl rfl ?_
  refine TL.done ?_
  refine TQ.then ?_
  refine TC.seq ?_
  refine TC.region ?_
  refine TL.mv (.pointer (some ⟨_, _, none⟩)) rfl rfl rfl ?_
  refine TL.nc rfl rfl rfl ?_
  refine TL.fa 5 rfl fc_f130_3_5 rfl rfl ?_
  refine TL.ld 0 (.slice _ _ _) rfl rfl rfl fc_s89 rfl rfl ?_
  refine TL.lenS rfl fc_l89_47_3 rfl rfl ?_
  refine TL.asg (.int _ _) rfl rfl rfl ?_
  refine TL.done ?_
  refine TQ.then ?_
  refine TC.ret ?_
  refine FQ.ret1 (v := (.int _ _)) (Bs := [pt tb (.cells #[.int .i64 V, .int .i64 S, .int .i64 T, .int .i64 th, .int .i64 tg, .slice a n c, fr, an, .bool bd] 130)]) [0] rfl rfl rfl ⟨rfl, trivial⟩ ?_
  exact ⟨rfl, rfl⟩

theorem good_ok {V S T : Int} {th tg : Int} {tb : Nat} {bd : Bool} {cs fr an : Value} : FnD Tryz.prog 38 [.pointer (some ⟨tb, 0, none⟩)] [pt tb (.cells #[.int .i64 V, .int .i64 S, .int .i64 T, .int .i64 th, .int .i64 tg, cs, fr, an, .bool bd] 130)] (.bool (!bd)) [pt tb (.cells #[.int .i64 V, .int .i64 S, .int .i64 T, .int .i64 th, .int .i64 tg, cs, fr, an, .bool bd] 130)] := by
  refine Fn.enter (Tryz.func38) rfl rfl (fun w0 R => ?_)
  refine TC.seq ?_
  refine TC.region ?_
  refine TL.asg (.bool false) rfl rfl rfl ?_
  refine TL.done ?_
  refine TQ.then ?_
  refine TC.seq ?_
  refine TC.region ?_
  refine TL.mv (.pointer (some ⟨_, _, none⟩)) rfl rfl rfl ?_
  refine TL.nc rfl rfl rfl ?_
  refine TL.fa 8 rfl fc_f130_6_8 rfl rfl ?_
  refine TL.ld 0 (.bool _) rfl rfl rfl fc_s4 rfl rfl ?_
  refine TL.not _ _ rfl rfl rfl rfl ?_
  refine TL.asg (.bool _) rfl rfl rfl ?_
  refine TL.done ?_
  refine TQ.then ?_
  refine TC.ret ?_
  refine FQ.ret1 (v := (.bool _)) (Bs := [pt tb (.cells #[.int .i64 V, .int .i64 S, .int .i64 T, .int .i64 th, .int .i64 tg, cs, fr, an, .bool bd] 130)]) [0] rfl rfl rfl ⟨rfl, trivial⟩ ?_
  exact ⟨rfl, rfl⟩

theorem cloneC_ok {a : Option Addr} {b off n c : Nat} {A : Assn} {f : Nat → Cal} (ha : 0 < n → a = some ⟨b, off, none⟩) (hn : n ≤ 100) (hA : RowOf A encC 3 b off n f) : Go.Eng.Fn Tryz.prog 61 [.slice a n c] [A] (fun v Bs => Bs = [A, ownA encC 3 47 v ((List.range n).map f).toArray]) := by
  refine Fn.enter (Tryz.func61) rfl rfl (fun w0 R => ?_)
  refine TC.seq ?_
  refine TC.region ?_
  refine TL.asg (.slice none 0 0) rfl rfl rfl ?_
  refine TL.done ?_
  refine TQ.then ?_
  refine TC.seq ?_
  refine TC.seq ?_
  refine TC.region ?_
  refine TL.mv (.slice _ _ _) rfl rfl rfl ?_
  refine TL.nilS rfl rfl fc_l89_47_3 rfl rfl ?_
  refine TL.cases rfl (fun q1 => ?_) (fun q1 => ?_)
  · skip
    refine TL.done ?_
    refine TQ.then ?_
    refine TC.condT rfl ?_
    refine TC.seq ?_
    obtain rfl : n = 0 := by
      rcases Nat.eq_zero_or_pos n with h | h
      · exact h
      · rw [ha h] at q1; simp at q1
    refine TC.nilA 1 (A := ownA encC 3 47 (.slice none 0 0) ((List.range 0).map f).toArray) (.inl ⟨rfl, rfl⟩) ?_
    refine TC.region ?_
    refine TL.asg (.slice none 0 0) rfl rfl rfl ?_
    refine TL.done ?_
    refine TQ.then ?_
    refine TC.ret ?_
    refine TQ.thenRet ?_
    refine FQ.ret1 (v := (.slice none 0 0)) (Bs := [A, _]) [0, 1] rfl rfl rfl ⟨rfl, rfl, trivial⟩ ?_
    rfl
  · skip
    refine TL.done ?_
    refine TQ.then ?_
    refine TC.condF rfl ?_
    refine TC.skip ?_
    refine TQ.then ?_
    refine TC.seq ?_
    refine TC.region ?_
    refine TL.bs0 2 encC fc_l89_47_3 rfl rfl (fun bk2 => ⟨trivial, ?_⟩)
    refine TL.mv (.slice _ _ _) rfl rfl rfl ?_
    obtain ⟨ad, rfl⟩ : ∃ ad, a = some ad := Option.ne_none_iff_exists'.1 (by rintro rfl; simp at q1)
    refine TL.appS 2 0 (d2 := ((List.range n).map f).toArray) rfl (rng_size f n) rfl (ha) rfl rfl (hA.congr fun i hi => (rng_get f hi).symm) encC_one (by decide) fc_k89_47_3 (by rw [rng_size]; show 0 + n ≤ 1000; omega) rfl rfl (fun v3 => ⟨trivial, ?_⟩)
    refine TL.conseq 2 (B := ownA encC 3 47 v3 ((List.range n).map f).toArray) rfl (fun h hh => by simpa using hh) trivial ?_
    refine TL.asg _ rfl rfl rfl ?_
    refine TL.done ?_
    refine TQ.then ?_
    refine TC.ret ?_
    refine FQ.ret1 (v := _) (Bs := [A, _]) [0, 2] rfl rfl rfl ⟨rfl, rfl, trivial⟩ ?_
    rfl

theorem cloneA_ok {a : Option Addr} {b off n c : Nat} {A : Assn} {f : Nat → Ans} (ha : 0 < n → a = some ⟨b, off, none⟩) (hn : n ≤ 100) (hA : RowOf A encA 9 b off n f) : Go.Eng.Fn Tryz.prog 72 [.slice a n c] [A] (fun v Bs => Bs = [A, ownA encA 9 94 v ((List.range n).map f).toArray]) := by
  refine Fn.enter (Tryz.func72) rfl rfl (fun w0 R => ?_)
  refine TC.seq ?_
  refine TC.region ?_
  refine TL.asg (.slice none 0 0) rfl rfl rfl ?_
  refine TL.done ?_
  refine TQ.then ?_
  refine TC.seq ?_
  refine TC.seq ?_
  refine TC.region ?_
  refine TL.mv (.slice _ _ _) rfl rfl rfl ?_
  refine TL.nilS rfl rfl fc_l91_94_9 rfl rfl ?_
  refine TL.cases rfl (fun q1 => ?_) (fun q1 => ?_)
  · skip
    refine TL.done ?_
    refine TQ.then ?_
    refine TC.condT rfl ?_
    refine TC.seq ?_
    obtain rfl : n = 0 := by
      rcases Nat.eq_zero_or_pos n with h | h
      · exact h
      · rw [ha h] at q1; simp at q1
    refine TC.nilA 1 (A := ownA encA 9 94 (.slice none 0 0) ((List.range 0).map f).toArray) (.inl ⟨rfl, rfl⟩) ?_
    refine TC.region ?_
    refine TL.asg (.slice none 0 0) rfl rfl rfl ?_
    refine TL.done ?_
    refine TQ.then ?_
    refine TC.ret ?_
    refine TQ.thenRet ?_
    refine FQ.ret1 (v := (.slice none 0 0)) (Bs := [A, _]) [0, 1] rfl rfl rfl ⟨rfl, rfl, trivial⟩ ?_
    rfl
  · skip
    refine TL.done ?_
    refine TQ.then ?_
    refine TC.condF rfl ?_
    refine TC.skip ?_
    refine TQ.then ?_
    refine TC.seq ?_
    refine TC.region ?_
    refine TL.bs0 2 encA fc_l91_94_9 rfl rfl (fun bk2 => ⟨trivial, ?_⟩)
    refine TL.mv (.slice _ _ _) rfl rfl rfl ?_
    obtain ⟨ad, rfl⟩ : ∃ ad, a = some ad := Option.ne_none_iff_exists'.1 (by rintro rfl; simp at q1)
    refine TL.appS 2 0 (d2 := ((List.range n).map f).toArray) rfl (rng_size f n) rfl (ha) rfl rfl (hA.congr fun i hi => (rng_get f hi).symm) encA_one (by decide) fc_k91_94_9 (by rw [rng_size]; show 0 + n ≤ 1000; omega) rfl rfl (fun v3 => ⟨trivial, ?_⟩)
    refine TL.conseq 2 (B := ownA encA 9 94 v3 ((List.range n).map f).toArray) rfl (fun h hh => by simpa using hh) trivial ?_
    refine TL.asg _ rfl rfl rfl ?_
    refine TL.done ?_
    refine TQ.then ?_
    refine TC.ret ?_
    refine FQ.ret1 (v := _) (Bs := [A, _]) [0, 2] rfl rfl rfl ⟨rfl, rfl, trivial⟩ ?_
    rfl

theorem answers_ok {V S T : Int} {th tg : Int} {tb : Nat} {bd : Bool} {cs fr v : Value} {d : Array Ans} (hd : d.size ≤ 100) : Go.Eng.Fn Tryz.prog 37 [.pointer (some ⟨tb, 0, none⟩)] [pt tb (.cells #[.int .i64 V, .int .i64 S, .int .i64 T, .int .i64 th, .int .i64 tg, cs, fr, v, .bool bd] 130), ownA encA 9 94 v d] (fun w Bs => Bs = [pt tb (.cells #[.int .i64 V, .int .i64 S, .int .i64 T, .int .i64 th, .int .i64 tg, cs, fr, v, .bool bd] 130), ownA encA 9 94 v d, ownA encA 9 94 w ((List.range d.size).map fun i => d[i]!).toArray]) := by
  refine Fn.enter (Tryz.func37) rfl rfl (fun w0 R => ?_)
  refine TC.seq ?_
  refine TC.region ?_
  refine TL.asg (.slice none 0 0) rfl rfl rfl ?_
  refine TL.done ?_
  refine TQ.then ?_
  refine TC.seq ?_
  refine TC.ownW 1 rfl (fun a9 g9 c9 hv9 hc9 ha9 => ?_)
  subst hv9
  refine TC.region ?_
  refine TL.mv (.pointer (some ⟨_, _, none⟩)) rfl rfl rfl ?_
  refine TL.nc rfl rfl rfl ?_
  refine TL.fa 7 rfl fc_f130_5_7 rfl rfl ?_
  refine TL.ld 0 (.slice _ _ _) rfl rfl rfl fc_s91 rfl rfl ?_
  refine TL.call [1] [1, 2] (cloneA_ok ha9 hd (own_rowOf ha9)) ⟨rfl, trivial⟩ ⟨rfl, trivial⟩ fc_c72 rfl rfl rfl rfl ?_
  rintro v Bs rfl
  refine ⟨rfl, trivial, ?_⟩
  refine TL.asg _ rfl rfl rfl ?_
  refine TL.done ?_
  refine TQ.then ?_
  refine TC.ret ?_
  refine FQ.ret1 (v := _) (Bs := [_, _, _]) [0, 1, 2] rfl rfl rfl ⟨rfl, rfl, rfl, trivial⟩ ?_
  rfl

theorem tnew_ok {V S T : Int} {th : Int} {a : Option Addr} {b off n c : Nat} {A : Assn} {f : Nat → Cal} (ha : 0 < n → a = some ⟨b, off, none⟩) (hn : n ≤ 100) (hA : RowOf A encC 3 b off n f) : Go.Eng.Fn Tryz.prog 33 [.agg #[.int .i64 V, .int .i64 S, .int .i64 T], .int .i64 th, .slice a n c] [A] (fun v Bs => ∃ tb a2 b2 c2, v = .pointer (some ⟨tb, 0, none⟩) ∧ n ≤ c2 ∧ (0 < n → a2 = some ⟨b2, 0, none⟩) ∧ Bs = [A, pt tb (.cells #[.int .i64 V, .int .i64 S, .int .i64 T, .int .i64 th, .int .i64 0, .slice a2 n c2, .nilIface, .slice none 0 0, .bool false] 130), rowW encC 3 b2 0 n ((List.range n).map f).toArray]) := by
  refine Fn.enter (Tryz.func33) rfl rfl (fun w0 R => ?_)
  refine TC.seq ?_
  refine TC.region ?_
  refine TL.boxA 1 rfl rfl rfl (fun _ => trivial) (fun bk1 => ?_)
  refine TL.asg (.pointer none) rfl rfl rfl ?_
  refine TL.done ?_
  refine TQ.then ?_
  refine TC.seq ?_
  refine TC.draw [(0, true), (1, true), (2, true), (3, false), (4, true), (5, false), (6, true)] [1] fc_m (by kernel_rfl) ?_
  refine TL.ldA 1 3 [_, _, _] rfl rfl rfl fc_a45_3 rfl rfl ?_
  refine TL.mv (.int _ _) rfl rfl rfl ?_
  refine TL.mv (.slice _ _ _) rfl rfl rfl ?_
  refine TL.call [0] [0, 2] (cloneC_ok ha hn hA) ⟨rfl, trivial⟩ ⟨rfl, trivial⟩ fc_c61 rfl rfl rfl rfl ?_
  rintro v Bs rfl
  refine ⟨rfl, (.cons rfl rfl trivial), ?_⟩
  refine TL.own 2 (rng_size f n) rfl (fun _ => (.cons rfl rfl trivial)) (fun a2 b2 c2 hv hc2 ha2 => ?_)
  subst hv
  refine TL.bld [.int .i64 0, .int .i64 0, .int .i64 0, .int .i64 0, .int .i64 0, .slice none 0 0, .nilIface, .slice none 0 0, .bool false] [(.agg _), (.int _ _), (.slice _ _ _)] [_, _, _, _, _, _, _, _, _] fc_z130 fc_q130 ⟨rfl, rfl, rfl, trivial⟩ ⟨rfl, rfl⟩ rfl rfl ?_
  refine TL.boxA 3 rfl rfl rfl (fun _ => (.cons rfl rfl trivial)) (fun bk3 => ?_)
  refine TL.asg (.pointer (some ⟨_, _, none⟩)) rfl rfl rfl ?_
  refine TL.done ?_
  refine TQ.then ?_
  refine TC.ret ?_
  refine FQ.ret1 (v := (.pointer (some ⟨_, _, none⟩))) (Bs := [A, _, _]) [0, 3, 2] rfl rfl rfl ⟨rfl, rfl, rfl, trivial⟩ ?_
  exact ⟨_, _, _, _, rfl, hc2, ha2, rfl⟩

theorem eqC_run (d : Nat) (a b c a' b' c' : Int) (w : World) : (Op.equalIn (d + 2) 47 (.agg #[.int .i64 a, .int .i64 b, .int .i64 c]) (.agg #[.int .i64 a', .int .i64 b', .int .i64 c'])).run Tryz.prog w = .ok (a == a' && (b == b' && c == c')) w := by
  have u3 := Tryz.underlying3
  have a3 := Tryz.isAgg3
  have z3 := Tryz.sizeOf3
  have hS : Tryz.prog.underlying 47 = some (.struct (Tryz.prog.fieldsOf 47)) := by kernel_rfl
  have hp : Tryz.prog.stoodInHeld 47 = false := by kernel_rfl
  rw [run_equalIn_agg w (d + 1) 47 _ _ hS hp]
  simp only [Program.fieldsOf, Tryz.underlying47]
  go_simp
  by_cases h1 : a = a' <;> by_cases h2 : b = b' <;> by_cases h3 : c = c' <;> simp [h1, h2, h3]
theorem eqA_run (x y : Ans) (w : World) : (Op.equalIn 10000 94 (.agg (encA x).toArray) (.agg (encA y).toArray)).run Tryz.prog w = .ok (decide (x = y)) w := by
  have u3 := Tryz.underlying3
  have a3 := Tryz.isAgg3
  have z3 := Tryz.sizeOf3
  have u4 := Tryz.underlying4
  have a4 := Tryz.isAgg4
  have z4 := Tryz.sizeOf4
  have u27 := Tryz.underlying30
  have a27 := Tryz.isAgg30
  have z27 := Tryz.sizeOf30
  have a26 := Tryz.isAgg47
  have z26 := Tryz.sizeOf47
  have hS : Tryz.prog.underlying 94 = some (.struct (Tryz.prog.fieldsOf 94)) := by kernel_rfl
  have hp : Tryz.prog.stoodInHeld 94 = false := by kernel_rfl
  have hC := eqC_run 9997
  obtain ⟨x1, x2, x3, x4, x5, x6, x7, x8, x9⟩ := x
  obtain ⟨y1, y2, y3, y4, y5, y6, y7, y8, y9⟩ := y
  rw [show (10000 : Nat) = 9999 + 1 from rfl, run_equalIn_agg w 9999 94 _ _ hS hp]
  simp only [Program.fieldsOf, Tryz.underlying94, encA]
  go_simp
  by_cases h : x1 = y1 ∧ x2 = y2 ∧ x3 = y3
  · obtain ⟨rfl, rfl, rfl⟩ := h
    simp only [true_implies, not_true_eq_false, if_false, decide_true, Bool.true_and]
    repeat' split
    all_goals simp_all
  · rw [if_pos (by intro h1 h2 h3; exact h ⟨h1, h2, h3⟩)]
    congr 1
    symm
    rw [Bool.eq_false_iff]
    intro hc
    simp only [Bool.and_eq_true, decide_eq_true_eq] at hc
    exact h ⟨hc.1, hc.2.1, hc.2.2.1⟩
theorem eqT_run {x y : Ans} (h : x = y) (w : World) : (Op.equalIn 10000 94 (.agg (encA x).toArray) (.agg (encA y).toArray)).run Tryz.prog w = .ok true w := by rw [eqA_run, decide_eq_true h]

theorem pendE_ok {V S T : Int} {th tg : Int} {tb : Nat} {bd : Bool} {cs fr v : Value} {d : Array Ans} {y : Bool} (hd : d.size ≤ 100) (hp : pendB d = y) : FnD Tryz.prog 36 [.pointer (some ⟨tb, 0, none⟩)] [pt tb (.cells #[.int .i64 V, .int .i64 S, .int .i64 T, .int .i64 th, .int .i64 tg, cs, fr, v, .bool bd] 130), ownA encA 9 94 v d] (.bool y) [pt tb (.cells #[.int .i64 V, .int .i64 S, .int .i64 T, .int .i64 th, .int .i64 tg, cs, fr, v, .bool bd] 130), ownA encA 9 94 v d] := by
  rw [← hp]; exact pend_ok hd

set_option maxHeartbeats 4000000 in
theorem awake_ok  : FnD Tryz.prog 18 [] [] (.bool true) [] := by
  refine Fn.enter (Tryz.func18) rfl rfl (fun w0 R => ?_)
  refine TC.seq ?_
  refine TC.region ?_
  refine TL.asg (.bool false) rfl rfl rfl ?_
  refine TL.done ?_
  refine TQ.then ?_
  refine TC.seq ?_
  refine TC.region ?_
  refine TL.bld [.int .i64 0, .int .i64 0, .int .i64 0] [(.int _ _), (.int _ _), (.int _ _)] [_, _, _] fc_z45 fc_q45 ⟨rfl, rfl, rfl, trivial⟩ ⟨rfl, rfl⟩ rfl rfl ?_
  refine TL.alloc 0 (cs := #[.int .i64 0, .int .i64 0, .int .i64 0]) fc_z45 rfl rfl rfl (fun _ => trivial) (fun bk0 => ?_)
  refine TL.stW 0 3 [_, _, _] rfl rfl rfl rfl rfl rfl fc_a45_3 rfl rfl trivial ?_
  refine TL.done ?_
  refine TQ.then ?_
  refine TC.seq ?_
  refine TC.region ?_
  refine TL.ldA 0 3 [_, _, _] rfl rfl rfl fc_a45_3 rfl rfl ?_
  refine TL.call [] [1] (birth_ok (l := ⟨2, 1, 1⟩) aw_ok) ⟨rfl, rfl, trivial⟩ trivial fc_c21 rfl rfl rfl rfl ?_
  rintro v Bs ⟨ab, mb, σ, rfl, rfl⟩
  refine ⟨rfl, trivial, ?_⟩
  refine TL.mv (.tuple _) rfl rfl rfl ?_
  refine TL.ext (.pointer (some ⟨_, _, none⟩)) rfl rfl rfl rfl ?_
  refine TL.ext (.int _ _) rfl rfl rfl rfl ?_
  refine TL.asg (.pointer (some ⟨_, _, none⟩)) rfl rfl rfl ?_
  refine TL.asg (.int _ _) rfl rfl rfl ?_
  refine TL.done ?_
  refine TQ.then ?_
  refine TC.seq ?_
  refine TC.region ?_
  refine TL.ldA 0 3 [_, _, _] rfl rfl rfl fc_a45_3 rfl rfl ?_
  refine TL.bld [.int .i64 0, .int .i64 0, .int .i64 0] [(.int _ _)] [_, _, _] fc_z47 fc_q47 ⟨rfl, trivial⟩ ⟨rfl, rfl⟩ rfl rfl ?_
  refine TL.bld [.int .i64 0, .int .i64 0, .int .i64 0] [(.int _ _), (.int _ _), (.int _ _)] [_, _, _] fc_z47 fc_q47 ⟨rfl, rfl, rfl, trivial⟩ ⟨rfl, rfl⟩ rfl rfl ?_
  refine TL.bsN 2 [_, _] (([cw1, cw2].map encC).flatten) fc_l89_47_3 fc_z47 ⟨rfl, rfl, trivial⟩ rfl (litN [cw1, cw2] (fun x => (encC_one x).1)) rfl rfl (fun bk2 => ⟨trivial, ?_⟩)
  refine TL.call [2] [2, 3, 4] (tnew_ok (n := 2) (f := fun i => (#[cw1, cw2] : Array Cal)[i]!) (fun _ => rfl) (by decide) (rowsL #[cw1, cw2] (fun x => (encC_one x).1))) ⟨rfl, rfl, rfl, trivial⟩ ⟨rfl, trivial⟩ fc_c33 rfl rfl rfl rfl ?_
  rintro v Bs ⟨tb, a2, b2, c2, rfl, hc2, ha2, rfl⟩
  refine ⟨rfl, trivial, ?_⟩
  refine TL.asg (.pointer (some ⟨_, _, none⟩)) rfl rfl rfl ?_
  refine TL.done ?_
  refine TQ.then ?_
  refine TC.seq ?_
  refine TC.seq ?_
  refine TC.nilA 5 (A := ownA encA 9 94 (.slice none 0 0) #[]) (.inl ⟨rfl, rfl⟩) ?_
  refine TC.region ?_
  refine TL.mv (.int _ _) rfl rfl rfl ?_
  refine TL.cmpF rfl rfl rfl (by decide) rfl rfl ?_
  refine TL.mv (.bool false) rfl rfl rfl ?_
  refine TL.mv (.pointer (some ⟨_, _, none⟩)) rfl rfl rfl ?_
  refine TL.nilP false rfl rfl fc_p29 rfl rfl rfl ?_
  refine TL.pickF (.bool false) rfl rfl rfl rfl ?_
  refine TL.mv (.bool false) rfl rfl rfl ?_
  refine TL.mv (.pointer (some ⟨_, _, none⟩)) rfl rfl rfl ?_
  refine TL.nilP false rfl rfl fc_p87 rfl rfl rfl ?_
  refine TL.pickF (.bool false) rfl rfl rfl rfl ?_
  refine TL.mv (.bool false) rfl rfl rfl ?_
  refine TL.mv (.pointer (some ⟨_, _, none⟩)) rfl rfl rfl ?_
  refine TL.callD [3] [3] left_ok ⟨rfl, trivial⟩ ⟨rfl, trivial⟩ fc_c34 rfl rfl rfl rfl rfl trivial ?_
  refine TL.neqF rfl rfl (by decide) rfl rfl ?_
  refine TL.pickF (.bool false) rfl rfl rfl rfl ?_
  refine TL.mv (.bool false) rfl rfl rfl ?_
  refine TL.mv (.pointer (some ⟨_, _, none⟩)) rfl rfl rfl ?_
  refine TL.mv (.pointer (some ⟨_, _, none⟩)) rfl rfl rfl ?_
  refine TL.call [3, 4, 5] [3, 4, 5] (step_b (n := 2) (f := fun i => ((List.range 2).map fun i => (#[cw1, cw2] : Array Cal)[i]!).toArray[i]!) (by decide +kernel) (by decide) hc2 ha2 rowW_of (by decide +kernel) (by decide +kernel)) ⟨rfl, rfl, rfl, trivial⟩ ⟨rfl, rfl, rfl, trivial⟩ fc_c35 rfl rfl rfl rfl ?_
  rintro w Bs ⟨rfl, v2, rfl⟩
  refine ⟨rfl, trivial, ?_⟩
  refine TL.not true false rfl rfl rfl rfl ?_
  refine TL.pickF (.bool false) rfl rfl rfl rfl ?_
  refine TL.mv (.bool false) rfl rfl rfl ?_
  refine TL.mv (.pointer (some ⟨_, _, none⟩)) rfl rfl rfl ?_
  refine TL.callD [3, 5] [3, 5] (pendE_ok (y := true) (by decide +kernel) (by decide +kernel)) ⟨rfl, trivial⟩ ⟨rfl, rfl, trivial⟩ fc_c36 rfl rfl rfl rfl rfl trivial ?_
  refine TL.not true false rfl rfl rfl rfl ?_
  refine TL.pickF (.bool false) rfl rfl rfl rfl ?_
  refine TL.mv (.bool false) rfl rfl rfl ?_
  refine TL.mv (.pointer (some ⟨_, _, none⟩)) rfl rfl rfl ?_
  refine TL.mv (.pointer (some ⟨_, _, none⟩)) rfl rfl rfl ?_
  refine TL.callD [3, 5] [3, 5] (step_e (by decide +kernel) (by decide +kernel)) ⟨rfl, rfl, rfl, trivial⟩ ⟨rfl, rfl, trivial⟩ fc_c35 rfl rfl rfl rfl rfl trivial ?_
  refine TL.not true false rfl rfl rfl rfl ?_
  refine TL.pickF (.bool false) rfl rfl rfl rfl ?_
  refine TL.mv (.bool false) rfl rfl rfl ?_
  refine TL.mv (.pointer (some ⟨_, _, none⟩)) rfl rfl rfl ?_
  refine TL.callD [3, 5] [3, 5] (pendE_ok (y := false) (by decide +kernel) (by decide +kernel)) ⟨rfl, trivial⟩ ⟨rfl, rfl, trivial⟩ fc_c36 rfl rfl rfl rfl rfl trivial ?_
  refine TL.pickF (.bool false) rfl rfl rfl rfl ?_
  refine TL.mv (.bool false) rfl rfl rfl ?_
  refine TL.mv (.pointer (some ⟨_, _, none⟩)) rfl rfl rfl ?_
  refine TL.mv (.pointer (some ⟨_, _, none⟩)) rfl rfl rfl ?_
  refine TL.call [3, 4, 5] [3, 4, 5] (step_b (n := 2 - 1) (off := 0 + 1 * 3) (f := fun i => ((List.range 2).map fun i => (#[cw1, cw2] : Array Cal)[i]!).toArray[1 + i]!) (by decide +kernel) (by decide) (by omega) (fun h => slA_ok (len := 2) ha2 hc2 (by omega)) (rowW_of.drop 1 (2 - 1) (by decide)) (by decide +kernel) (by decide +kernel)) ⟨rfl, rfl, rfl, trivial⟩ ⟨rfl, rfl, rfl, trivial⟩ fc_c35 rfl rfl rfl rfl ?_
  rintro w Bs ⟨rfl, v3, rfl⟩
  refine ⟨rfl, trivial, ?_⟩
  refine TL.not true false rfl rfl rfl rfl ?_
  refine TL.pickF (.bool false) rfl rfl rfl rfl ?_
  refine TL.mv (.bool false) rfl rfl rfl ?_
  refine TL.mv (.pointer (some ⟨_, _, none⟩)) rfl rfl rfl ?_
  refine TL.mv (.pointer (some ⟨_, _, none⟩)) rfl rfl rfl ?_
  refine TL.callD [3, 5] [3, 5] (step_e (by decide +kernel) (by decide +kernel)) ⟨rfl, rfl, rfl, trivial⟩ ⟨rfl, rfl, trivial⟩ fc_c35 rfl rfl rfl rfl rfl trivial ?_
  refine TL.not true false rfl rfl rfl rfl ?_
  refine TL.pickF (.bool false) rfl rfl rfl rfl ?_
  refine TL.mv (.bool false) rfl rfl rfl ?_
  refine TL.mv (.pointer (some ⟨_, _, none⟩)) rfl rfl rfl ?_
  refine TL.mv (.pointer (some ⟨_, _, none⟩)) rfl rfl rfl ?_
  refine TL.callD [3, 5] [3, 5] (step_z (by decide +kernel) (by decide +kernel)) ⟨rfl, rfl, rfl, trivial⟩ ⟨rfl, rfl, trivial⟩ fc_c35 rfl rfl rfl rfl rfl trivial ?_
  refine TL.pickF (.bool false) rfl rfl rfl rfl ?_
  refine TL.done ?_
  refine TQ.then ?_
  refine TC.condF rfl ?_
  refine TC.skip ?_
  refine TQ.then ?_
  refine TC.seq ?_
  refine TC.region ?_
  refine TL.mv (.pointer (some ⟨_, _, none⟩)) rfl rfl rfl ?_
  refine TL.call [3, 5] [3, 5, 6] (answers_ok (by decide +kernel)) ⟨rfl, trivial⟩ ⟨rfl, rfl, trivial⟩ fc_c37 rfl rfl rfl rfl ?_
  rintro w Bs rfl
  refine ⟨rfl, trivial, ?_⟩
  refine TL.own 6 (sz := 2) (by decide +kernel) rfl (fun _ => trivial) (fun ax bx cx hvx hcx hax => ?_)
  subst hvx
  refine TL.asg (.slice _ _ _) rfl rfl rfl ?_
  refine TL.done ?_
  refine TQ.then ?_
  refine TC.seq ?_
  refine TC.region ?_
  refine TL.mv (.slice _ _ _) rfl rfl rfl ?_
  refine TL.lenS rfl fc_l91_94_9 rfl rfl ?_
  refine TL.eqlT rfl rfl (by decide) rfl rfl ?_
  refine TL.mv (.bool true) rfl rfl rfl ?_
  refine TL.mv (.slice _ _ _) rfl rfl rfl ?_
  refine TL.iaO rfl hax rfl fc_l91_94_9 (by decide) rfl rfl ?_
  refine TL.ldRx 6 [_, _, _, _, _, _, _, _, _] rfl rfl rowW_of (by decide) rfl fc_a94_9 rfl rfl ?_
  refine TL.bld [.int .i64 0, .int .i64 0, .int .i64 0] [(.int _ _)] [_, _, _] fc_z47 fc_q47 ⟨rfl, trivial⟩ ⟨rfl, rfl⟩ rfl rfl ?_
  refine TL.bld [.int .i64 0, .int .i64 0, .int .i64 0, .int .i64 0, .int .i64 0, .int .i64 0, .int .i64 0, .bool false, .int .i64 0] [(.agg _), (.int _ _), (.int _ _), (.int _ _), (.int _ _), (.int _ _)] [_, _, _, _, _, _, _, _, _] fc_z94 fc_q94 ⟨rfl, rfl, rfl, rfl, rfl, rfl, trivial⟩ ⟨rfl, rfl⟩ rfl rfl ?_
  refine TL.eqlA rfl rfl (eqT_run (y := awX) (by decide +kernel)) fc_eg94 rfl rfl ?_
  refine TL.pickT (.bool true) rfl rfl rfl rfl ?_
  refine TL.mv (.bool true) rfl rfl rfl ?_
  refine TL.mv (.slice _ _ _) rfl rfl rfl ?_
  refine TL.iaO rfl hax rfl fc_l91_94_9 (by decide) rfl rfl ?_
  refine TL.fa 7 rfl fc_f94_5_7 rfl rfl ?_
  refine TL.ldRF 6 (.bool true) rfl rfl rowW_of (by decide) (encA_ok _).1 (by kernel_rfl) fc_s4 rfl rfl ?_
  refine TL.pickT (.bool true) rfl rfl rfl rfl ?_
  refine TL.mv (.bool true) rfl rfl rfl ?_
  refine TL.mv (.slice _ _ _) rfl rfl rfl ?_
  refine TL.iaO rfl hax rfl fc_l91_94_9 (by decide) rfl rfl ?_
  refine TL.fa 6 rfl fc_f94_4_6 rfl rfl ?_
  refine TL.ldRF 6 (.int .i64 8) rfl rfl rowW_of (by decide) (encA_ok _).1 (by kernel_rfl) fc_s3 rfl rfl ?_
  refine TL.cmpT rfl rfl rfl (by decide) rfl rfl ?_
  refine TL.pickT (.bool true) rfl rfl rfl rfl ?_
  refine TL.mv (.bool true) rfl rfl rfl ?_
  refine TL.mv (.pointer (some ⟨_, _, none⟩)) rfl rfl rfl ?_
  refine TL.callD [3] [3] (good_ok (bd := false)) ⟨rfl, trivial⟩ ⟨rfl, trivial⟩ fc_c38 rfl rfl rfl rfl rfl trivial ?_
  refine TL.pickT (.bool true) rfl rfl rfl rfl ?_
  refine TL.mv (.bool true) rfl rfl rfl ?_
  refine TL.ldA 0 3 [_, _, _] rfl rfl rfl fc_a45_3 rfl rfl ?_
  refine TL.bld [.int .i64 0, .int .i64 0, .int .i64 0] [(.int _ _), (.int _ _)] [_, _, _] fc_z47 fc_q47 ⟨rfl, rfl, trivial⟩ ⟨rfl, rfl⟩ rfl rfl ?_
  refine TL.callD [] [] wrong_ok ⟨rfl, rfl, trivial⟩ trivial fc_c19 rfl rfl rfl rfl rfl trivial ?_
  refine TL.eqlT rfl rfl (by decide) rfl rfl ?_
  refine TL.pickT (.bool true) rfl rfl rfl rfl ?_
  refine TL.asg (.bool true) rfl rfl rfl ?_
  refine TL.done ?_
  refine TQ.then ?_
  refine TC.ret ?_
  refine FQ.ret1 (v := (.bool true)) (Bs := []) [] rfl rfl rfl trivial ?_
  exact ⟨rfl, rfl⟩

theorem refRight_ok {V S T : Int}  : FnD Tryz.prog 17 [.agg #[.int .i64 V, .int .i64 S, .int .i64 T]] [] (.bool (decide (okL V S T))) [] := by
  refine Fn.enter (Tryz.func17) rfl rfl (fun w0 R => ?_)
  refine TC.seq ?_
  refine TC.region ?_
  refine TL.boxA 0 rfl rfl rfl (fun _ => trivial) (fun bk0 => ?_)
  refine TL.asg (.bool false) rfl rfl rfl ?_
  refine TL.done ?_
  refine TQ.then ?_
  refine TC.seq ?_
  refine TC.region ?_
  refine TL.fa 0 rfl fc_f49_0_0 rfl rfl ?_
  refine TL.ld 0 (.int _ _) rfl rfl rfl fc_s3 rfl rfl ?_
  refine TL.geq rfl rfl rfl rfl (fun q1 => ?_) (fun q1 => ?_)
  · skip
    refine TL.mv (.bool true) rfl rfl rfl ?_
    refine TL.fa 0 rfl fc_f49_0_0 rfl rfl ?_
    refine TL.ld 0 (.int _ _) rfl rfl rfl fc_s3 rfl rfl ?_
    refine TL.leq rfl rfl rfl rfl (fun q2 => ?_) (fun q2 => ?_)
    · skip
      refine TL.pickT (.bool true) rfl rfl rfl rfl ?_
      refine TL.mv (.bool true) rfl rfl rfl ?_
      refine TL.fa 1 rfl fc_f49_1_1 rfl rfl ?_
      refine TL.ld 0 (.int _ _) rfl rfl rfl fc_s3 rfl rfl ?_
      refine TL.geq rfl rfl rfl rfl (fun q3 => ?_) (fun q3 => ?_)
      · skip
        refine TL.pickT (.bool true) rfl rfl rfl rfl ?_
        refine TL.mv (.bool true) rfl rfl rfl ?_
        refine TL.fa 1 rfl fc_f49_1_1 rfl rfl ?_
        refine TL.ld 0 (.int _ _) rfl rfl rfl fc_s3 rfl rfl ?_
        refine TL.leq rfl rfl rfl rfl (fun q4 => ?_) (fun q4 => ?_)
        · skip
          refine TL.pickT (.bool true) rfl rfl rfl rfl ?_
          refine TL.mv (.bool true) rfl rfl rfl ?_
          refine TL.fa 2 rfl fc_f49_2_2 rfl rfl ?_
          refine TL.ld 0 (.int _ _) rfl rfl rfl fc_s3 rfl rfl ?_
          refine TL.geq rfl rfl rfl rfl (fun q5 => ?_) (fun q5 => ?_)
          · skip
            refine TL.pickT (.bool true) rfl rfl rfl rfl ?_
            refine TL.mv (.bool true) rfl rfl rfl ?_
            refine TL.fa 2 rfl fc_f49_2_2 rfl rfl ?_
            refine TL.ld 0 (.int _ _) rfl rfl rfl fc_s3 rfl rfl ?_
            refine TL.leqV rfl rfl rfl rfl ?_
            refine TL.pickT (.bool _) rfl rfl rfl rfl ?_
            refine TL.asg (.bool _) rfl rfl rfl ?_
            refine TL.done ?_
            refine TQ.then ?_
            refine TC.ret ?_
            refine FQ.ret1 (v := (.bool _)) (Bs := []) [] rfl rfl rfl trivial ?_
            first | exact ⟨congrArg Value.bool (by unfold okL; first | (simp [*]; done) | (simp [*]; omega) | (rw [eq_comm, decide_eq_false_iff_not]; omega) | (rw [eq_comm, decide_eq_true_iff]; omega) | (rw [decide_eq_decide]; omega)), rfl⟩
          · skip
            refine TL.pickT (.bool false) rfl rfl rfl rfl ?_
            refine TL.mv (.bool false) rfl rfl rfl ?_
            refine TL.off rfl rfl ?_
            refine TL.off rfl rfl ?_
            refine TL.off rfl rfl ?_
            refine TL.pickF (.bool false) rfl rfl rfl rfl ?_
            refine TL.asg (.bool false) rfl rfl rfl ?_
            refine TL.done ?_
            refine TQ.then ?_
            refine TC.ret ?_
            refine FQ.ret1 (v := (.bool false)) (Bs := []) [] rfl rfl rfl trivial ?_
            first | exact ⟨congrArg Value.bool (by unfold okL; first | (simp [*]; done) | (simp [*]; omega) | (rw [eq_comm, decide_eq_false_iff_not]; omega) | (rw [eq_comm, decide_eq_true_iff]; omega) | (rw [decide_eq_decide]; omega)), rfl⟩
        · skip
          refine TL.pickT (.bool false) rfl rfl rfl rfl ?_
          refine TL.mv (.bool false) rfl rfl rfl ?_
          refine TL.off rfl rfl ?_
          refine TL.off rfl rfl ?_
          refine TL.off rfl rfl ?_
          refine TL.pickF (.bool false) rfl rfl rfl rfl ?_
          refine TL.mv (.bool false) rfl rfl rfl ?_
          refine TL.off rfl rfl ?_
          refine TL.off rfl rfl ?_
          refine TL.off rfl rfl ?_
          refine TL.pickF (.bool false) rfl rfl rfl rfl ?_
          refine TL.asg (.bool false) rfl rfl rfl ?_
          refine TL.done ?_
          refine TQ.then ?_
          refine TC.ret ?_
          refine FQ.ret1 (v := (.bool false)) (Bs := []) [] rfl rfl rfl trivial ?_
          first | exact ⟨congrArg Value.bool (by unfold okL; first | (simp [*]; done) | (simp [*]; omega) | (rw [eq_comm, decide_eq_false_iff_not]; omega) | (rw [eq_comm, decide_eq_true_iff]; omega) | (rw [decide_eq_decide]; omega)), rfl⟩
      · skip
        refine TL.pickT (.bool false) rfl rfl rfl rfl ?_
        refine TL.mv (.bool false) rfl rfl rfl ?_
        refine TL.off rfl rfl ?_
        refine TL.off rfl rfl ?_
        refine TL.off rfl rfl ?_
        refine TL.pickF (.bool false) rfl rfl rfl rfl ?_
        refine TL.mv (.bool false) rfl rfl rfl ?_
        refine TL.off rfl rfl ?_
        refine TL.off rfl rfl ?_
        refine TL.off rfl rfl ?_
        refine TL.pickF (.bool false) rfl rfl rfl rfl ?_
        refine TL.mv (.bool false) rfl rfl rfl ?_
        refine TL.off rfl rfl ?_
        refine TL.off rfl rfl ?_
        refine TL.off rfl rfl ?_
        refine TL.pickF (.bool false) rfl rfl rfl rfl ?_
        refine TL.asg (.bool false) rfl rfl rfl ?_
        refine TL.done ?_
        refine TQ.then ?_
        refine TC.ret ?_
        refine FQ.ret1 (v := (.bool false)) (Bs := []) [] rfl rfl rfl trivial ?_
        first | exact ⟨congrArg Value.bool (by unfold okL; first | (simp [*]; done) | (simp [*]; omega) | (rw [eq_comm, decide_eq_false_iff_not]; omega) | (rw [eq_comm, decide_eq_true_iff]; omega) | (rw [decide_eq_decide]; omega)), rfl⟩
    · skip
      refine TL.pickT (.bool false) rfl rfl rfl rfl ?_
      refine TL.mv (.bool false) rfl rfl rfl ?_
      refine TL.off rfl rfl ?_
      refine TL.off rfl rfl ?_
      refine TL.off rfl rfl ?_
      refine TL.pickF (.bool false) rfl rfl rfl rfl ?_
      refine TL.mv (.bool false) rfl rfl rfl ?_
      refine TL.off rfl rfl ?_
      refine TL.off rfl rfl ?_
      refine TL.off rfl rfl ?_
      refine TL.pickF (.bool false) rfl rfl rfl rfl ?_
      refine TL.mv (.bool false) rfl rfl rfl ?_
      refine TL.off rfl rfl ?_
      refine TL.off rfl rfl ?_
      refine TL.off rfl rfl ?_
      refine TL.pickF (.bool false) rfl rfl rfl rfl ?_
      refine TL.mv (.bool false) rfl rfl rfl ?_
      refine TL.off rfl rfl ?_
      refine TL.off rfl rfl ?_
      refine TL.off rfl rfl ?_
      refine TL.pickF (.bool false) rfl rfl rfl rfl ?_
      refine TL.asg (.bool false) rfl rfl rfl ?_
      refine TL.done ?_
      refine TQ.then ?_
      refine TC.ret ?_
      refine FQ.ret1 (v := (.bool false)) (Bs := []) [] rfl rfl rfl trivial ?_
      first | exact ⟨congrArg Value.bool (by unfold okL; first | (simp [*]; done) | (simp [*]; omega) | (rw [eq_comm, decide_eq_false_iff_not]; omega) | (rw [eq_comm, decide_eq_true_iff]; omega) | (rw [decide_eq_decide]; omega)), rfl⟩
  · skip
    refine TL.mv (.bool false) rfl rfl rfl ?_
    refine TL.off rfl rfl ?_
    refine TL.off rfl rfl ?_
    refine TL.off rfl rfl ?_
    refine TL.pickF (.bool false) rfl rfl rfl rfl ?_
    refine TL.mv (.bool false) rfl rfl rfl ?_
    refine TL.off rfl rfl ?_
    refine TL.off rfl rfl ?_
    refine TL.off rfl rfl ?_
    refine TL.pickF (.bool false) rfl rfl rfl rfl ?_
    refine TL.mv (.bool false) rfl rfl rfl ?_
    refine TL.off rfl rfl ?_
    refine TL.off rfl rfl ?_
    refine TL.off rfl rfl ?_
    refine TL.pickF (.bool false) rfl rfl rfl rfl ?_
    refine TL.mv (.bool false) rfl rfl rfl ?_
    refine TL.off rfl rfl ?_
    refine TL.off rfl rfl ?_
    refine TL.off rfl rfl ?_
    refine TL.pickF (.bool false) rfl rfl rfl rfl ?_
    refine TL.mv (.bool false) rfl rfl rfl ?_
    refine TL.off rfl rfl ?_
    refine TL.off rfl rfl ?_
    refine TL.off rfl rfl ?_
    refine TL.pickF (.bool false) rfl rfl rfl rfl ?_
    refine TL.asg (.bool false) rfl rfl rfl ?_
    refine TL.done ?_
    refine TQ.then ?_
    refine TC.ret ?_
    refine FQ.ret1 (v := (.bool false)) (Bs := []) [] rfl rfl rfl trivial ?_
    first | exact ⟨congrArg Value.bool (by unfold okL; first | (simp [*]; done) | (simp [*]; omega) | (rw [eq_comm, decide_eq_false_iff_not]; omega) | (rw [eq_comm, decide_eq_true_iff]; omega) | (rw [decide_eq_decide]; omega)), rfl⟩

theorem wrong_law {V S T : Int} {k u v : Int} : FnD Tryz.prog 5 [.agg #[.int .i64 V, .int .i64 S, .int .i64 T], .agg #[.int .i64 k, .int .i64 u, .int .i64 v]] [] (.bool true) [] := by
  refine Fn.enter (Tryz.func5) rfl rfl (fun w0 R => ?_)
  refine TC.seq ?_
  refine TC.region ?_
  refine TL.boxA 0 rfl rfl rfl (fun _ => trivial) (fun bk0 => ?_)
  refine TL.boxA 1 rfl rfl rfl (fun _ => trivial) (fun bk1 => ?_)
  refine TL.asg (.bool false) rfl rfl rfl ?_
  refine TL.done ?_
  refine TQ.then ?_
  refine TC.seq ?_
  refine TC.seq ?_
  refine TC.region ?_
  refine TL.fa 0 rfl fc_f45_0_0 rfl rfl ?_
  refine TL.ld 0 (.int _ _) rfl rfl rfl fc_s3 rfl rfl ?_
  refine TL.fa 1 rfl fc_f45_1_1 rfl rfl ?_
  refine TL.ld 0 (.int _ _) rfl rfl rfl fc_s3 rfl rfl ?_
  refine TL.fa 2 rfl fc_f45_2_2 rfl rfl ?_
  refine TL.ld 0 (.int _ _) rfl rfl rfl fc_s3 rfl rfl ?_
  refine TL.bld [.int .i64 0, .int .i64 0, .int .i64 0] [(.int _ _), (.int _ _), (.int _ _)] [_, _, _] fc_z49 fc_q49 ⟨rfl, rfl, rfl, trivial⟩ ⟨rfl, rfl⟩ rfl rfl ?_
  refine TL.callD [] [] refRight_ok ⟨rfl, trivial⟩ trivial fc_c17 rfl rfl rfl rfl rfl trivial ?_
  refine TL.casesP rfl (fun q1 => ?_) (fun q1 => ?_)
  · skip
    refine TL.not true false rfl rfl rfl rfl ?_
    refine TL.done ?_
    refine TQ.then ?_
    refine TC.condF rfl ?_
    refine TC.skip ?_
    refine TQ.then ?_
    refine TC.seq ?_
    refine TC.draw [(0, true), (1, true), (3, true), (4, true), (2, false), (5, false), (6, true), (7, true), (8, false), (9, true), (10, true)] [0, 1] fc_m (by kernel_rfl) ?_
    refine TL.ldA 0 3 [_, _, _] rfl rfl rfl fc_a45_3 rfl rfl ?_
    refine TL.ldA 1 3 [_, _, _] rfl rfl rfl fc_a47_3 rfl rfl ?_
    refine TL.ldA 0 3 [_, _, _] rfl rfl rfl fc_a45_3 rfl rfl ?_
    refine TL.ldA 1 3 [_, _, _] rfl rfl rfl fc_a47_3 rfl rfl ?_
    refine TL.callD [] [] wrong_ok ⟨rfl, rfl, trivial⟩ trivial fc_c19 rfl rfl rfl rfl rfl (.cons rfl rfl (.cons rfl rfl trivial)) ?_
    refine TL.callD [] [] lwrong_ok ⟨rfl, rfl, trivial⟩ trivial fc_c20 rfl rfl rfl rfl rfl (.cons rfl rfl (.cons rfl rfl trivial)) ?_
    refine TL.eqlT rfl rfl rfl rfl rfl ?_
    refine TL.mv (.bool true) rfl rfl rfl ?_
    refine TL.callD [] [] awake_ok trivial trivial fc_c18 rfl rfl rfl rfl rfl (.cons rfl rfl (.cons rfl rfl trivial)) ?_
    refine TL.pickT (.bool true) rfl rfl rfl rfl ?_
    refine TL.asg (.bool true) rfl rfl rfl ?_
    refine TL.done ?_
    refine TQ.then ?_
    refine TC.ret ?_
    refine FQ.ret1 (v := (.bool true)) (Bs := []) [] rfl rfl rfl trivial ?_
    exact ⟨rfl, rfl⟩
  · skip
    refine TL.not false true rfl rfl rfl rfl ?_
    refine TL.done ?_
    refine TQ.then ?_
    refine TC.condT rfl ?_
    refine TC.seq ?_
    refine TC.region ?_
    refine TL.callD [] [] awake_ok trivial trivial fc_c18 rfl rfl rfl rfl rfl trivial ?_
    refine TL.asg (.bool true) rfl rfl rfl ?_
    refine TL.done ?_
    refine TQ.then ?_
    refine TC.ret ?_
    refine TQ.thenRet ?_
    refine FQ.ret1 (v := (.bool true)) (Bs := []) [] rfl rfl rfl trivial ?_
    exact ⟨rfl, rfl⟩



end Go.Proofs.YtfogkdaomfmbcaaGreat
