/-
  'tombololaw21.ThreadWrong' returns true for every input, and leaves its arguments as they were. No condition.
-/
import Derived.Test.YtfogkdaomfmbcaaGreatRows
import Derived.Test.YtfogkdaomfmbcaaGreatConB
import Derived.ProofKit
import Derived.Lib.SmallJoins
import Derived.OpenShut
set_option linter.unusedVariables false
set_option linter.unusedSimpArgs false
namespace Go.Proofs.YtfogkdaomfmbcaaGreat
open Go.ChangeShapes Go.WideShapes Go.ChangeAt Go.RowKit Go.Joins

theorem Tryz.own : ownKnob Tryz.prog.godebug = none := by kernel_rfl
theorem Tryz.laidOut : laidOutB Tryz.prog = true := by kernel_rfl
theorem Tryz.cells45 : Tryz.prog.cellsOf 45 = 3 := by kernel_rfl
theorem Tryz.cells47 : Tryz.prog.cellsOf 47 = 3 := by kernel_rfl

set_option maxRecDepth 100000 in
theorem wrong_lifted (os : Os) (started : os.Started) (H : Type) (enc : TypeId × Value → H) :
    ReturnsInHanded {} Tryz.checked os 5 .any (Rows.threadWrongSpec.pre6 enc Tryz.prog Tryz.f5 Rows.threadWrongRow.domain false) (Rows.threadWrongSpec.post enc Tryz.prog Tryz.f5 false true false false) := by
  refine returnsInHanded_of_change (C := Tryz.checked) Tryz.own started (by kernel_rfl) Tryz.func5
    (ChangeSpec.witness6 (enc := enc) (C := Tryz.checked) false ⟨#[], #[.agg #[.int .i64 0, .int .i64 0, .int .i64 0], .agg #[.int .i64 0, .int .i64 0, .int .i64 0]], []⟩ 8 (by kernel_rfl) (by kernel_rfl) (by kernel_rfl) (by kernel_rfl)) ?_
  intro W base args ds gs before hval0 hW hcnd _
  have hval : ∀ (j : Nat) t v, Tryz.f5.params[j]? = some t → args[j]? = some v → Value.okWide Tryz.prog W .any base t v := hval0
  have hW' := hW
  obtain ⟨p, q, hA0, hV, rfl, hfz, hnd⟩ := hW
  have hA : DataW.TrodAll enc Tryz.prog W 0 (fun _ => true) true Tryz.f5.params.toList args.toList ds p := hA0
  rw [Tryz.params5] at hA hval
  obtain ⟨v0, v1, d0, d1, p0, p1, rfl, rfl, rfl, h0, h1⟩ := trodAll_two hA
  obtain ⟨rfl, rfl⟩ := trodVars_none hV
  have k0 := h0
  have k1 := h1
  obtain ⟨c0, c1, c2, y0, y1, y2, m, rfl, rfl, rfl, hy0, hy1, hy2⟩ := open_agg3 Tryz.underlying45 (by kernel_rfl) Tryz.cells45 (hval 0 45 v0 rfl rfl) h0
  obtain ⟨V, e0, rfl, wV⟩ := DataW.trod_int Tryz.underlying3 hy0
  obtain ⟨S, e1, rfl, wS⟩ := DataW.trod_int Tryz.underlying3 hy1
  obtain ⟨T, e2, rfl, wT⟩ := DataW.trod_int Tryz.underlying3 hy2
  obtain ⟨c3, c4, c5, y3, y4, y5, m2, rfl, rfl, rfl, hy3, hy4, hy5⟩ := open_agg3 Tryz.underlying47 (by kernel_rfl) Tryz.cells47 (hval 1 47 v1 rfl rfl) h1
  obtain ⟨k, e3, rfl, wk⟩ := DataW.trod_int Tryz.underlying3 hy3
  obtain ⟨u, e4, rfl, wu⟩ := DataW.trod_int Tryz.underlying3 hy4
  obtain ⟨v, e5, rfl, wv⟩ := DataW.trod_int Tryz.underlying3 hy5
  simp at e0 e1 e2 e3 e4 e5
  subst e0 e1 e2 e3 e4 e5
  refine (Eng.Fn.calls (wrong_law (V := V) (S := S) (T := T) (k := k) (u := u) (v := v)) W).mono fun e W' ⟨v, Bs, he, ⟨hv, _⟩, hB⟩ => ?_
  subst he; subst hv
  refine ⟨_, rfl, _, _, _, [], _, [], hW', trodAll_mk1 (shut_bool Tryz.underlying4 true), trodAll_mk2 (Below.trod Tryz.laidOut (by kernel_rfl) (of_decide_eq_true (by kernel_rfl)) k0 hB (by simp)) (Below.trod Tryz.laidOut (by kernel_rfl) (of_decide_eq_true (by kernel_rfl)) k1 hB (by simp)), rfl, hB.frame _, fun h => by cases h⟩

theorem wrong_holds : Rows.ThreadWrongSaid :=
  OpenClaim.holds_of_wide 5 Tryz.f5 rfl rfl rfl rfl rfl rfl rfl ⟨rfl, rfl, rfl, rfl, rfl⟩ rfl rfl rfl rfl rfl (by kernel_rfl) Tryz.func5 (by kernel_rfl)
    (of_decide_eq_true (by kernel_rfl)) (by unfold Func.isWrapper; rw [if_neg (of_decide_eq_false (by kernel_rfl))]; exact ⟨rfl, rfl⟩)
    (fun os started H enc _ => wrong_lifted os started H enc)

end Go.Proofs.YtfogkdaomfmbcaaGreat
