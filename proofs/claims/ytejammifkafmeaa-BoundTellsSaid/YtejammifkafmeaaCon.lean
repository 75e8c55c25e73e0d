/-
  The contracts of the functions that the bounds' laws reach.
-/
import Derived.Test.YtejammifkafmeaaEng
import Derived.Test.YtejammifkafmeaaProg
import Derived.KernelRfl
set_option linter.unusedVariables false
set_option linter.unusedSimpArgs false
namespace Go.Proofs.Ytejammifkafmeaa
open Go.Eng
abbrev okL (V S T : Int) : Prop := 1 ≤ V ∧ V ≤ 16 ∧ 0 ≤ S ∧ S ≤ 48 ∧ 1 ≤ T ∧ T ≤ 8
def levI (x : Int) : Int := if x < 1 then 0 else if x < 2 then 1 else if x < 4 then 2 else if x < 8 then 3 else if x < 16 then 4 else 5
theorem levI_bd {x : Int} (_h0 : 0 ≤ x) (_h1 : x ≤ 16) : 0 ≤ levI x ∧ levI x ≤ 5 := by
  unfold levI
  repeat' split
  all_goals omega
theorem wsub1 {V : Int} (hV : -9223372036854775808 ≤ V ∧ V < 9223372036854775808) : (0 ≤ IntKind.i64.wrap (V - 1) ∧ IntKind.i64.wrap (V - 1) < 16 ↔ 1 ≤ V ∧ V ≤ 16) ∧ (0 ≤ IntKind.i64.wrap (V - 1) ∧ IntKind.i64.wrap (V - 1) < 8 ↔ 1 ≤ V ∧ V ≤ 8) := by
  by_cases h : V = -9223372036854775808
  · subst h; decide
  · rw [wr64 (by omega)]; omega
theorem lenTab {s : ByteArray} {x : Int} (h0 : 0 ≤ x) (h1 : x ≤ 16) (hs : (List.range 17).map (fun i => (s[i]?).map (·.toNat)) = [0, 1, 2, 2, 3, 3, 3, 3, 4, 4, 4, 4, 4, 4, 4, 4, 5].map some) : (s[x.toNat]?).map (fun b => (b.toNat : Int)) = some (levI x) := by
  have hx : x.toNat < 17 := by omega
  have h2 := congrArg (fun l => l[x.toNat]?) hs
  simp only [List.getElem?_map, List.getElem?_range hx, Option.map_some] at h2
  have h3 : x = (x.toNat : Int) := by omega
  rw [h3, Int.toNat_natCast]
  generalize x.toNat = i at *
  have : i = 0 ∨ i = 1 ∨ i = 2 ∨ i = 3 ∨ i = 4 ∨ i = 5 ∨ i = 6 ∨ i = 7 ∨ i = 8 ∨ i = 9 ∨ i = 10 ∨ i = 11 ∨ i = 12 ∨ i = 13 ∨ i = 14 ∨ i = 15 ∨ i = 16 := by omega
  cases hb : s[i]? with
  | none => rw [hb] at h2; rcases this with rfl | rfl | rfl | rfl | rfl | rfl | rfl | rfl | rfl | rfl | rfl | rfl | rfl | rfl | rfl | rfl | rfl <;> simp at h2
  | some b => rw [hb] at h2; rcases this with rfl | rfl | rfl | rfl | rfl | rfl | rfl | rfl | rfl | rfl | rfl | rfl | rfl | rfl | rfl | rfl | rfl <;> simp at h2 <;> simp [h2, levI]

def pw : Nat → Int
  | 0 => 1
  | n + 1 => pw n * 2
theorem pw_vals : pw 0 = 1 ∧ pw 1 = 2 ∧ pw 2 = 4 ∧ pw 3 = 8 ∧ pw 4 = 16 ∧ pw 5 = 32 := by decide
theorem five {x : Nat} (h : x ≤ 5) : x = 0 ∨ x = 1 ∨ x = 2 ∨ x = 3 ∨ x = 4 ∨ x = 5 := by omega
theorem lev_next {x : Nat} {V : Int} (h : x ≤ 5) (hV : V ≤ 16) (hp : pw x ≤ V) : x + 1 ≤ 5 ∧ 1 ≤ pw (x + 1) ∧ pw (x + 1) ≤ 32 ∧ (x + 1 = 0 ∨ pw (x + 1) ≤ 2 * V) := by
  obtain ⟨p0, p1, p2, p3, p4, p5⟩ := pw_vals
  rcases five h with rfl | rfl | rfl | rfl | rfl | rfl <;> simp only [p0, p1, p2, p3, p4, p5, Nat.reduceAdd] at * <;> omega
theorem lev_end {x : Nat} {V : Int} (h : x ≤ 5) (hp : ¬ pw x ≤ V) (hq : x = 0 ∨ pw x ≤ 2 * V) : (x : Int) = levI V := by
  obtain ⟨p0, p1, p2, p3, p4, p5⟩ := pw_vals
  unfold levI
  rcases five h with rfl | rfl | rfl | rfl | rfl | rfl <;> simp only [p0, p1, p2, p3, p4, p5] at * <;> repeat' split
  all_goals omega
def rowI (V S : Int) : Int := 400 * levI V * (S + 2) * (V + 2 * S + 2)
theorem row_eq (V S : Int) : rowI V S = 400 * levI V * (S + 2) * (V + 2 * S + 2) := rfl
theorem row_bds {V S T : Int} (h : okL V S T) : (0 ≤ levI V ∧ levI V ≤ 5) ∧ (0 ≤ 400 * levI V * (S + 2) ∧ 400 * levI V * (S + 2) ≤ 2000 * 50) ∧ (0 ≤ rowI V S ∧ rowI V S ≤ 2000 * 50 * 114) := by
  have h1 := levI_bd (x := V) (by omega) (by omega)
  have h2 := mul_bd (a := 400 * levI V) (A := 2000) (b := S + 2) (B := 50) (by omega) (by omega) (by omega) (by omega)
  exact ⟨h1, h2, mul_bd (A := 2000 * 50) (B := 114) (by omega) (by omega) (by omega) (by omega)⟩
def roundI (V S T : Int) : Int := T * (6 * (2 * (V + 2 * S) + 2) + rowI V S + 3 * T + 24) + 6 * (2 * (V + 2 * S) + 2) + 24
theorem round_bds {V S T : Int} (h : okL V S T) : (0 ≤ T * (6 * (2 * (V + 2 * S) + 2) + rowI V S + 3 * T + 24) ∧ T * (6 * (2 * (V + 2 * S) + 2) + rowI V S + 3 * T + 24) ≤ 8 * 20000000) ∧ (0 ≤ roundI V S T ∧ roundI V S T ≤ 200000000) ∧ (0 ≤ T * roundI V S T ∧ T * roundI V S T ≤ 8 * 200000000) := by
  obtain ⟨h1, h2, h3⟩ := row_bds h
  have h4 := mul_bd (a := T) (A := 8) (b := 6 * (2 * (V + 2 * S) + 2) + rowI V S + 3 * T + 24) (B := 20000000) (by omega) (by omega) (by omega) (by omega)
  have h5 : 0 ≤ roundI V S T ∧ roundI V S T ≤ 200000000 := by unfold roundI; omega
  exact ⟨h4, h5, mul_bd (by omega) (by omega) h5.1 h5.2⟩
theorem FnD.iteY {P : Program} {f : FuncId} {args : List Value} {As Bs : List Assn} {c : Prop} [Decidable c] {a b : Int} (h : FnD P f args As (.int .i64 (if c then a else b)) Bs) (hc : c) : FnD P f args As (.int .i64 a) Bs := by rwa [if_pos hc] at h
theorem FnD.iteN {P : Program} {f : FuncId} {args : List Value} {As Bs : List Assn} {c : Prop} [Decidable c] {a b : Int} (h : FnD P f args As (.int .i64 (if c then a else b)) Bs) (hc : ¬ c) : FnD P f args As (.int .i64 b) Bs := by rwa [if_neg hc] at h
theorem ok_in {V S T : Int} (h : okL V S T) : (-9223372036854775808 ≤ V ∧ V < 9223372036854775808) ∧ (-9223372036854775808 ≤ S ∧ S < 9223372036854775808) ∧ (-9223372036854775808 ≤ T ∧ T < 9223372036854775808) := by omega

theorem lev_mono {V V' : Int} (h : V ≤ V') : levI V ≤ levI V' := by
  unfold levI
  repeat' split
  all_goals omega
theorem le_row {V S V' S' : Int} (h0 : 1 ≤ V ∧ V ≤ 16 ∧ 0 ≤ S ∧ S ≤ 48) (h0' : 1 ≤ V' ∧ V' ≤ 16 ∧ 0 ≤ S' ∧ S' ≤ 48) (hV : V ≤ V') (hS : S ≤ S') : rowI V S ≤ rowI V' S' := by
  have h : okL V S 1 := by omega
  have h' : okL V' S' 1 := by omega
  have h1 := lev_mono hV
  obtain ⟨h2, h3, h4⟩ := row_bds h
  obtain ⟨h5, h6, h7⟩ := row_bds h'
  unfold rowI
  exact Int.mul_le_mul (Int.mul_le_mul (by omega) (by omega) (by omega) (by omega)) (by omega) (by omega) (by omega)
theorem le_round {V S T V' S' T' : Int} (h : okL V S T) (h' : okL V' S' T') (hV : V ≤ V') (hS : S ≤ S') (hT : T ≤ T') : roundI V S T ≤ roundI V' S' T' := by
  have h1 := le_row (by omega) (by omega) hV hS
  obtain ⟨h2, h3, h4⟩ := row_bds h
  obtain ⟨h5, h6, h7⟩ := row_bds h'
  have := Int.mul_le_mul (a := T) (b := 6 * (2 * (V + 2 * S) + 2) + rowI V S + 3 * T + 24) (c := T') (d := 6 * (2 * (V' + 2 * S') + 2) + rowI V' S' + 3 * T' + 24) hT (by omega) (by omega) (by omega)
  unfold roundI
  omega
theorem le_steps {V S T V' S' T' : Int} (h : okL V S T) (h' : okL V' S' T') (hV : V ≤ V') (hS : S ≤ S') (hT : T ≤ T') : T * roundI V S T ≤ T' * roundI V' S' T' := by
  have h1 := le_round h h' hV hS hT
  obtain ⟨_, h2, _⟩ := round_bds h
  exact Int.mul_le_mul hT h1 (by omega) (by omega)
theorem le_self {V S T : Int} (h : okL V S T) : roundI V S T ≤ T * roundI V S T := by
  obtain ⟨_, h2, _⟩ := round_bds h
  have := Int.mul_le_mul (a := 1) (b := roundI V S T) (c := T) (d := roundI V S T) (by omega) (Int.le_refl _) (by omega) (by omega)
  omega

theorem le_al {V S V' S' r r' : Int} (h : r ≤ r') (hV : V ≤ V') (hS : S ≤ S') : 4 * (2 * (V + 2 * S) + 2) + r + 24 ≤ 4 * (2 * (V' + 2 * S') + 2) + r' + 24 := by omega
theorem fc_f23_0_0 : fldB Try.prog 23 0 0 = true := by kernel_rfl
theorem fc_s3 : scalB Try.prog 3 = true := by kernel_rfl
theorem fc_c20 : callB Try.prog 20 = true := by kernel_rfl
theorem fc_f23_1_1 : fldB Try.prog 23 1 1 = true := by kernel_rfl
theorem fc_f23_2_2 : fldB Try.prog 23 2 2 = true := by kernel_rfl
theorem fc_f25_0_0 : fldB Try.prog 25 0 0 = true := by kernel_rfl
theorem fc_f25_1_1 : fldB Try.prog 25 1 1 = true := by kernel_rfl
theorem fc_f25_2_2 : fldB Try.prog 25 2 2 = true := by kernel_rfl
theorem fc_z25 : zeroV Try.prog 25 = some (.agg #[.int .i64 0, .int .i64 0, .int .i64 0]) := by kernel_rfl
theorem fc_q25 : placesB Try.prog 25 [(0, 1), (1, 1), (2, 1)] = true := by kernel_rfl
theorem fc_a25_3 : aggB Try.prog 25 3 = true := by kernel_rfl
theorem fc_u40 : (Try.prog.underlying 40).isSome = true := by kernel_rfl
theorem fc_i5_u8 : intB Try.prog 5 .u8 = true := by kernel_rfl
theorem fc_str : Try.prog.underlying 9 = some .string := by kernel_rfl
theorem fc_u5 : (Try.prog.underlying 5).isSome = true := by kernel_rfl
theorem fc_i3_i64 : intB Try.prog 3 .i64 = true := by kernel_rfl
theorem fc_c23 : callB Try.prog 23 = true := by kernel_rfl
theorem fc_u3 : (Try.prog.underlying 3).isSome = true := by kernel_rfl
theorem fc_i36_u64 : intB Try.prog 36 .u64 = true := by kernel_rfl
theorem fc_c21 : callB Try.prog 21 = true := by kernel_rfl
theorem fc_a23_3 : aggB Try.prog 23 3 = true := by kernel_rfl
theorem fc_c17 : callB Try.prog 17 = true := by kernel_rfl
theorem fc_c7 : callB Try.prog 7 = true := by kernel_rfl
theorem fc_c18 : callB Try.prog 18 = true := by kernel_rfl
theorem fc_m : Try.prog.follows .mixedOrders = true := by kernel_rfl
theorem fc_c19 : callB Try.prog 19 = true := by kernel_rfl
theorem fc_c8 : callB Try.prog 8 = true := by kernel_rfl
theorem fc_c9 : callB Try.prog 9 = true := by kernel_rfl
theorem fc_c11 : callB Try.prog 11 = true := by kernel_rfl
theorem fc_q23 : placesB Try.prog 23 [(0, 1), (1, 1), (2, 1)] = true := by kernel_rfl
theorem fc_z23 : zeroV Try.prog 23 = some (.agg #[.int .i64 0, .int .i64 0, .int .i64 0]) := by kernel_rfl
theorem fc_c10 : callB Try.prog 10 = true := by kernel_rfl
theorem fc_c12 : callB Try.prog 12 = true := by kernel_rfl
theorem fc_c15 : callB Try.prog 15 = true := by kernel_rfl
theorem fc_c16 : callB Try.prog 16 = true := by kernel_rfl
theorem fc_c6 : callB Try.prog 6 = true := by kernel_rfl
theorem fc_c5 : callB Try.prog 5 = true := by kernel_rfl
theorem fc_c14 : callB Try.prog 14 = true := by kernel_rfl
theorem fc_c13 : callB Try.prog 13 = true := by kernel_rfl

theorem below_ok {n m : Int} : FnD Try.prog 20 [.int .i64 n, .int .i64 m] [] (.bool (decide (0 ≤ n ∧ n < m))) [] := by
  refine Fn.enter (Try.func20) rfl rfl (fun w0 R => ?_)
  refine TC.seq ?_
  refine TC.region ?_
  refine TL.asg (.bool false) rfl rfl rfl ?_
  refine TL.done ?_
  refine TQ.then ?_
  refine TC.seq ?_
  refine TC.region ?_
  refine TL.mv (.int _ _) rfl rfl rfl ?_
  refine TL.geq rfl rfl rfl rfl (fun q1 => ?_) (fun q1 => ?_)
  · skip
    refine TL.mv (.bool true) rfl rfl rfl ?_
    refine TL.mv (.int _ _) rfl rfl rfl ?_
    refine TL.mv (.int _ _) rfl rfl rfl ?_
    refine TL.lssV rfl rfl rfl rfl ?_
    refine TL.pickT (.bool _) rfl rfl rfl rfl ?_
    refine TL.asg (.bool _) rfl rfl rfl ?_
    refine TL.done ?_
    refine TQ.then ?_
    refine TC.ret ?_
    refine FQ.ret1 (v := (.bool _)) (Bs := []) [] rfl rfl rfl trivial ?_
    first | exact ⟨bT (by omega), rfl⟩ | exact ⟨bF (by omega), rfl⟩ | exact ⟨congrArg Value.bool (decide_eq_decide.2 (by omega)), rfl⟩
  · skip
    refine TL.mv (.bool false) rfl rfl rfl ?_
    refine TL.off rfl rfl ?_
    refine TL.off rfl rfl ?_
    refine TL.off rfl rfl ?_
    refine TL.pickF (.bool false) rfl rfl rfl rfl ?_
    refine TL.asg (.bool false) rfl rfl rfl ?_
    refine TL.done ?_
    refine TQ.then ?_
    refine TC.ret ?_
    refine FQ.ret1 (v := (.bool false)) (Bs := []) [] rfl rfl rfl trivial ?_
    first | exact ⟨bT (by omega), rfl⟩ | exact ⟨bF (by omega), rfl⟩ | exact ⟨congrArg Value.bool (decide_eq_decide.2 (by omega)), rfl⟩

theorem layRight_ok {V S T : Int} (hV : -9223372036854775808 ≤ V ∧ V < 9223372036854775808) (hS : -9223372036854775808 ≤ S ∧ S < 9223372036854775808) (hT : -9223372036854775808 ≤ T ∧ T < 9223372036854775808) : FnD Try.prog 17 [.agg #[.int .i64 V, .int .i64 S, .int .i64 T]] [] (.bool (decide (okL V S T))) [] := by
  have e1 := wsub1 hV; have e2 := wsub1 hT
  refine Fn.enter (Try.func17) rfl rfl (fun w0 R => ?_)
  refine TC.seq ?_
  refine TC.region ?_
  refine TL.boxA 0 rfl rfl rfl (fun _ => trivial) (fun b0 => ?_)
  refine TL.asg (.bool false) rfl rfl rfl ?_
  refine TL.done ?_
  refine TQ.then ?_
  refine TC.seq ?_
  refine TC.region ?_
  refine TL.fa 0 rfl fc_f23_0_0 rfl rfl ?_
  refine TL.ld 0 (.int _ _) rfl rfl rfl fc_s3 rfl rfl ?_
  refine TL.sub _ rfl rfl (rfl) rfl rfl ?_
  refine TL.callD [] [] below_ok ⟨rfl, rfl, trivial⟩ trivial fc_c20 rfl rfl rfl rfl rfl trivial ?_
  refine TL.casesP rfl (fun q1 => ?_) (fun q1 => ?_)
  · skip
    refine TL.mv (.bool true) rfl rfl rfl ?_
    refine TL.fa 1 rfl fc_f23_1_1 rfl rfl ?_
    refine TL.ld 0 (.int _ _) rfl rfl rfl fc_s3 rfl rfl ?_
    refine TL.callD [] [] below_ok ⟨rfl, rfl, trivial⟩ trivial fc_c20 rfl rfl rfl rfl rfl trivial ?_
    refine TL.casesP rfl (fun q2 => ?_) (fun q2 => ?_)
    · skip
      refine TL.pickT (.bool true) rfl rfl rfl rfl ?_
      refine TL.mv (.bool true) rfl rfl rfl ?_
      refine TL.fa 2 rfl fc_f23_2_2 rfl rfl ?_
      refine TL.ld 0 (.int _ _) rfl rfl rfl fc_s3 rfl rfl ?_
      refine TL.sub _ rfl rfl (rfl) rfl rfl ?_
      refine TL.callD [] [] below_ok ⟨rfl, rfl, trivial⟩ trivial fc_c20 rfl rfl rfl rfl rfl trivial ?_
      refine TL.pickT (.bool _) rfl rfl rfl rfl ?_
      refine TL.asg (.bool _) rfl rfl rfl ?_
      refine TL.done ?_
      refine TQ.then ?_
      refine TC.ret ?_
      refine FQ.ret1 (v := (.bool _)) (Bs := []) [] rfl rfl rfl trivial ?_
      first | exact ⟨bT (by omega), rfl⟩ | exact ⟨bF (by omega), rfl⟩ | exact ⟨congrArg Value.bool (decide_eq_decide.2 (by omega)), rfl⟩
    · skip
      refine TL.pickT (.bool false) rfl rfl rfl rfl ?_
      refine TL.mv (.bool false) rfl rfl rfl ?_
      refine TL.off rfl rfl ?_
      refine TL.off rfl rfl ?_
      refine TL.off rfl rfl ?_
      refine TL.off rfl rfl ?_
      refine TL.pickF (.bool false) rfl rfl rfl rfl ?_
      refine TL.asg (.bool false) rfl rfl rfl ?_
      refine TL.done ?_
      refine TQ.then ?_
      refine TC.ret ?_
      refine FQ.ret1 (v := (.bool false)) (Bs := []) [] rfl rfl rfl trivial ?_
      first | exact ⟨bT (by omega), rfl⟩ | exact ⟨bF (by omega), rfl⟩ | exact ⟨congrArg Value.bool (decide_eq_decide.2 (by omega)), rfl⟩
  · skip
    refine TL.mv (.bool false) rfl rfl rfl ?_
    refine TL.off rfl rfl ?_
    refine TL.off rfl rfl ?_
    refine TL.off rfl rfl ?_
    refine TL.pickF (.bool false) rfl rfl rfl rfl ?_
    refine TL.mv (.bool false) rfl rfl rfl ?_
    refine TL.off rfl rfl ?_
    refine TL.off rfl rfl ?_
    refine TL.off rfl rfl ?_
    refine TL.off rfl rfl ?_
    refine TL.pickF (.bool false) rfl rfl rfl rfl ?_
    refine TL.asg (.bool false) rfl rfl rfl ?_
    refine TL.done ?_
    refine TQ.then ?_
    refine TC.ret ?_
    refine FQ.ret1 (v := (.bool false)) (Bs := []) [] rfl rfl rfl trivial ?_
    first | exact ⟨bT (by omega), rfl⟩ | exact ⟨bF (by omega), rfl⟩ | exact ⟨congrArg Value.bool (decide_eq_decide.2 (by omega)), rfl⟩

theorem refRight_ok {V S T : Int} : FnD Try.prog 5 [.agg #[.int .i64 V, .int .i64 S, .int .i64 T]] [] (.bool (decide (okL V S T))) [] := by
  refine Fn.enter (Try.func5) rfl rfl (fun w0 R => ?_)
  refine TC.seq ?_
  refine TC.region ?_
  refine TL.boxA 0 rfl rfl rfl (fun _ => trivial) (fun b0 => ?_)
  refine TL.asg (.bool false) rfl rfl rfl ?_
  refine TL.done ?_
  refine TQ.then ?_
  refine TC.seq ?_
  refine TC.region ?_
  refine TL.fa 0 rfl fc_f25_0_0 rfl rfl ?_
  refine TL.ld 0 (.int _ _) rfl rfl rfl fc_s3 rfl rfl ?_
  refine TL.geq rfl rfl rfl rfl (fun q1 => ?_) (fun q1 => ?_)
  · skip
    refine TL.mv (.bool true) rfl rfl rfl ?_
    refine TL.fa 0 rfl fc_f25_0_0 rfl rfl ?_
    refine TL.ld 0 (.int _ _) rfl rfl rfl fc_s3 rfl rfl ?_
    refine TL.leq rfl rfl rfl rfl (fun q2 => ?_) (fun q2 => ?_)
    · skip
      refine TL.pickT (.bool true) rfl rfl rfl rfl ?_
      refine TL.mv (.bool true) rfl rfl rfl ?_
      refine TL.fa 1 rfl fc_f25_1_1 rfl rfl ?_
      refine TL.ld 0 (.int _ _) rfl rfl rfl fc_s3 rfl rfl ?_
      refine TL.geq rfl rfl rfl rfl (fun q3 => ?_) (fun q3 => ?_)
      · skip
        refine TL.pickT (.bool true) rfl rfl rfl rfl ?_
        refine TL.mv (.bool true) rfl rfl rfl ?_
        refine TL.fa 1 rfl fc_f25_1_1 rfl rfl ?_
        refine TL.ld 0 (.int _ _) rfl rfl rfl fc_s3 rfl rfl ?_
        refine TL.leq rfl rfl rfl rfl (fun q4 => ?_) (fun q4 => ?_)
        · skip
          refine TL.pickT (.bool true) rfl rfl rfl rfl ?_
          refine TL.mv (.bool true) rfl rfl rfl ?_
          refine TL.fa 2 rfl fc_f25_2_2 rfl rfl ?_
          refine TL.ld 0 (.int _ _) rfl rfl rfl fc_s3 rfl rfl ?_
          refine TL.geq rfl rfl rfl rfl (fun q5 => ?_) (fun q5 => ?_)
          · skip
            refine TL.pickT (.bool true) rfl rfl rfl rfl ?_
            refine TL.mv (.bool true) rfl rfl rfl ?_
            refine TL.fa 2 rfl fc_f25_2_2 rfl rfl ?_
            refine TL.ld 0 (.int _ _) rfl rfl rfl fc_s3 rfl rfl ?_
            refine TL.leqV rfl rfl rfl rfl ?_
            refine TL.pickT (.bool _) rfl rfl rfl rfl ?_
            refine TL.asg (.bool _) rfl rfl rfl ?_
            refine TL.done ?_
            refine TQ.then ?_
            refine TC.ret ?_
            refine FQ.ret1 (v := (.bool _)) (Bs := []) [] rfl rfl rfl trivial ?_
            first | exact ⟨bT (by omega), rfl⟩ | exact ⟨bF (by omega), rfl⟩ | exact ⟨congrArg Value.bool (decide_eq_decide.2 (by omega)), rfl⟩
          · skip
            refine TL.pickT (.bool false) rfl rfl rfl rfl ?_
            refine TL.mv (.bool false) rfl rfl rfl ?_
            refine TL.off rfl rfl ?_
            refine TL.off rfl rfl ?_
            refine TL.off rfl rfl ?_
            refine TL.pickF (.bool false) rfl rfl rfl rfl ?_
            refine TL.asg (.bool false) rfl rfl rfl ?_
            refine TL.done ?_
            refine TQ.then ?_
            refine TC.ret ?_
            refine FQ.ret1 (v := (.bool false)) (Bs := []) [] rfl rfl rfl trivial ?_
            first | exact ⟨bT (by omega), rfl⟩ | exact ⟨bF (by omega), rfl⟩ | exact ⟨congrArg Value.bool (decide_eq_decide.2 (by omega)), rfl⟩
        · skip
          refine TL.pickT (.bool false) rfl rfl rfl rfl ?_
          refine TL.mv (.bool false) rfl rfl rfl ?_
          refine TL.off rfl rfl ?_
          refine TL.off rfl rfl ?_
          refine TL.off rfl rfl ?_
          refine TL.pickF (.bool false) rfl rfl rfl rfl ?_
          refine TL.mv (.bool false) rfl rfl rfl ?_
          refine TL.off rfl rfl ?_
          refine TL.off rfl rfl ?_
          refine TL.off rfl rfl ?_
          refine TL.pickF (.bool false) rfl rfl rfl rfl ?_
          refine TL.asg (.bool false) rfl rfl rfl ?_
          refine TL.done ?_
          refine TQ.then ?_
          refine TC.ret ?_
          refine FQ.ret1 (v := (.bool false)) (Bs := []) [] rfl rfl rfl trivial ?_
          first | exact ⟨bT (by omega), rfl⟩ | exact ⟨bF (by omega), rfl⟩ | exact ⟨congrArg Value.bool (decide_eq_decide.2 (by omega)), rfl⟩
      · skip
        refine TL.pickT (.bool false) rfl rfl rfl rfl ?_
        refine TL.mv (.bool false) rfl rfl rfl ?_
        refine TL.off rfl rfl ?_
        refine TL.off rfl rfl ?_
        refine TL.off rfl rfl ?_
        refine TL.pickF (.bool false) rfl rfl rfl rfl ?_
        refine TL.mv (.bool false) rfl rfl rfl ?_
        refine TL.off rfl rfl ?_
        refine TL.off rfl rfl ?_
        refine TL.off rfl rfl ?_
        refine TL.pickF (.bool false) rfl rfl rfl rfl ?_
        refine TL.mv (.bool false) rfl rfl rfl ?_
        refine TL.off rfl rfl ?_
        refine TL.off rfl rfl ?_
        refine TL.off rfl rfl ?_
        refine TL.pickF (.bool false) rfl rfl rfl rfl ?_
        refine TL.asg (.bool false) rfl rfl rfl ?_
        refine TL.done ?_
        refine TQ.then ?_
        refine TC.ret ?_
        refine FQ.ret1 (v := (.bool false)) (Bs := []) [] rfl rfl rfl trivial ?_
        first | exact ⟨bT (by omega), rfl⟩ | exact ⟨bF (by omega), rfl⟩ | exact ⟨congrArg Value.bool (decide_eq_decide.2 (by omega)), rfl⟩
    · skip
      refine TL.pickT (.bool false) rfl rfl rfl rfl ?_
      refine TL.mv (.bool false) rfl rfl rfl ?_
      refine TL.off rfl rfl ?_
      refine TL.off rfl rfl ?_
      refine TL.off rfl rfl ?_
      refine TL.pickF (.bool false) rfl rfl rfl rfl ?_
      refine TL.mv (.bool false) rfl rfl rfl ?_
      refine TL.off rfl rfl ?_
      refine TL.off rfl rfl ?_
      refine TL.off rfl rfl ?_
      refine TL.pickF (.bool false) rfl rfl rfl rfl ?_
      refine TL.mv (.bool false) rfl rfl rfl ?_
      refine TL.off rfl rfl ?_
      refine TL.off rfl rfl ?_
      refine TL.off rfl rfl ?_
      refine TL.pickF (.bool false) rfl rfl rfl rfl ?_
      refine TL.mv (.bool false) rfl rfl rfl ?_
      refine TL.off rfl rfl ?_
      refine TL.off rfl rfl ?_
      refine TL.off rfl rfl ?_
      refine TL.pickF (.bool false) rfl rfl rfl rfl ?_
      refine TL.asg (.bool false) rfl rfl rfl ?_
      refine TL.done ?_
      refine TQ.then ?_
      refine TC.ret ?_
      refine FQ.ret1 (v := (.bool false)) (Bs := []) [] rfl rfl rfl trivial ?_
      first | exact ⟨bT (by omega), rfl⟩ | exact ⟨bF (by omega), rfl⟩ | exact ⟨congrArg Value.bool (decide_eq_decide.2 (by omega)), rfl⟩
  · skip
    refine TL.mv (.bool false) rfl rfl rfl ?_
    refine TL.off rfl rfl ?_
    refine TL.off rfl rfl ?_
    refine TL.off rfl rfl ?_
    refine TL.pickF (.bool false) rfl rfl rfl rfl ?_
    refine TL.mv (.bool false) rfl rfl rfl ?_
    refine TL.off rfl rfl ?_
    refine TL.off rfl rfl ?_
    refine TL.off rfl rfl ?_
    refine TL.pickF (.bool false) rfl rfl rfl rfl ?_
    refine TL.mv (.bool false) rfl rfl rfl ?_
    refine TL.off rfl rfl ?_
    refine TL.off rfl rfl ?_
    refine TL.off rfl rfl ?_
    refine TL.pickF (.bool false) rfl rfl rfl rfl ?_
    refine TL.mv (.bool false) rfl rfl rfl ?_
    refine TL.off rfl rfl ?_
    refine TL.off rfl rfl ?_
    refine TL.off rfl rfl ?_
    refine TL.pickF (.bool false) rfl rfl rfl rfl ?_
    refine TL.mv (.bool false) rfl rfl rfl ?_
    refine TL.off rfl rfl ?_
    refine TL.off rfl rfl ?_
    refine TL.off rfl rfl ?_
    refine TL.pickF (.bool false) rfl rfl rfl rfl ?_
    refine TL.asg (.bool false) rfl rfl rfl ?_
    refine TL.done ?_
    refine TQ.then ?_
    refine TC.ret ?_
    refine FQ.ret1 (v := (.bool false)) (Bs := []) [] rfl rfl rfl trivial ?_
    first | exact ⟨bT (by omega), rfl⟩ | exact ⟨bF (by omega), rfl⟩ | exact ⟨congrArg Value.bool (decide_eq_decide.2 (by omega)), rfl⟩

theorem ref_ok {V S T : Int} : FnD Try.prog 6 [.agg #[.int .i64 V, .int .i64 S, .int .i64 T]] [] (.agg #[.int .i64 V, .int .i64 S, .int .i64 T]) [] := by
  refine Fn.enter (Try.func6) rfl rfl (fun w0 R => ?_)
  refine TC.seq ?_
  refine TC.region ?_
  refine TL.boxA 0 rfl rfl rfl (fun _ => trivial) (fun b0 => ?_)
  refine TL.alloc 1 (cs := #[.int .i64 0, .int .i64 0, .int .i64 0]) fc_z25 rfl rfl rfl (fun _ => trivial) (fun b1 => ?_)
  refine TL.done ?_
  refine TQ.then ?_
  refine TC.seq ?_
  refine TC.region ?_
  refine TL.fa 0 rfl fc_f23_0_0 rfl rfl ?_
  refine TL.ld 0 (.int _ _) rfl rfl rfl fc_s3 rfl rfl ?_
  refine TL.fa 1 rfl fc_f23_1_1 rfl rfl ?_
  refine TL.ld 0 (.int _ _) rfl rfl rfl fc_s3 rfl rfl ?_
  refine TL.fa 2 rfl fc_f23_2_2 rfl rfl ?_
  refine TL.ld 0 (.int _ _) rfl rfl rfl fc_s3 rfl rfl ?_
  refine TL.bld [.int .i64 0, .int .i64 0, .int .i64 0] [(.int _ _), (.int _ _), (.int _ _)] [_, _, _] fc_z25 fc_q25 ⟨rfl, rfl, rfl, trivial⟩ ⟨rfl, rfl⟩ rfl rfl ?_
  refine TL.stA 1 3 #[_, _, _] [_, _, _] rfl rfl rfl rfl rfl rfl rfl fc_a25_3 rfl rfl trivial ?_
  refine TL.done ?_
  refine TQ.then ?_
  refine TC.ret ?_
  refine FQ.retG (rs := [.cell 2 25]) [(.agg _)] (Bs := []) [] rfl ⟨⟨_, _, _, _, _, 1, rfl, rfl, .inr ⟨3, [_, _, _], fc_a25_3, rfl, rfl⟩⟩, trivial⟩ rfl rfl trivial ?_
  exact ⟨rfl, rfl⟩

theorem len64_ok {x : Int} (h0 : 0 ≤ x) (h1 : x ≤ 16) : FnD Try.prog 23 [.int .u64 x] [] (.int .i64 (levI x)) [] := by
  have hl := levI_bd h0 h1
  refine Fn.enter (Try.func23) rfl rfl (fun w0 R => ?_)
  refine TC.seq ?_
  refine TC.region ?_
  refine TL.asg (.int _ _) rfl rfl rfl ?_
  refine TL.done ?_
  refine TQ.then ?_
  refine TC.seq ?_
  refine TC.seq ?_
  refine TC.region ?_
  refine TL.mv (.int _ _) rfl rfl rfl ?_
  refine TL.geqF rfl rfl (by omega) rfl rfl ?_
  refine TL.done ?_
  refine TQ.then ?_
  refine TC.condF rfl ?_
  refine TC.skip ?_
  refine TQ.then ?_
  refine TC.seq ?_
  refine TC.seq ?_
  refine TC.region ?_
  refine TL.mv (.int _ _) rfl rfl rfl ?_
  refine TL.geqF rfl rfl (by omega) rfl rfl ?_
  refine TL.done ?_
  refine TQ.then ?_
  refine TC.condF rfl ?_
  refine TC.skip ?_
  refine TQ.then ?_
  refine TC.seq ?_
  refine TC.seq ?_
  refine TC.region ?_
  refine TL.mv (.int _ _) rfl rfl rfl ?_
  refine TL.geqF rfl rfl (by omega) rfl rfl ?_
  refine TL.done ?_
  refine TQ.then ?_
  refine TC.condF rfl ?_
  refine TC.skip ?_
  refine TQ.then ?_
  refine TC.seq ?_
  refine TC.region ?_
  refine TL.mv (.int _ _) rfl rfl rfl ?_
  refine TL.mv (.int _ _) rfl rfl rfl ?_
  refine TL.conv _ rfl fc_u40 fc_i5_u8 (wru8 (by omega)) rfl rfl ?_
  refine TL.ixS (levI x) rfl rfl fc_str (by omega) (lenTab h0 h1 (by kernel_rfl)) rfl rfl ?_
  refine TL.conv _ rfl fc_u5 fc_i3_i64 (wr64 (by omega)) rfl rfl ?_
  refine TL.add _ rfl rfl (wr64 (by omega)) rfl rfl ?_
  refine TL.asg (.int _ _) rfl rfl rfl ?_
  refine TL.done ?_
  refine TQ.then ?_
  refine TC.ret ?_
  refine FQ.ret1 (v := (.int _ _)) (Bs := []) [] rfl rfl rfl trivial ?_
  first | exact ⟨iE (by omega), rfl⟩ | (exfalso; omega)

theorem len_ok {x : Int} (h0 : 0 ≤ x) (h1 : x ≤ 16) : FnD Try.prog 21 [.int .u64 x] [] (.int .i64 (levI x)) [] := by
  refine Fn.enter (Try.func21) rfl rfl (fun w0 R => ?_)
  refine TC.seq ?_
  refine TC.region ?_
  refine TL.asg (.int _ _) rfl rfl rfl ?_
  refine TL.done ?_
  refine TQ.then ?_
  refine TC.seq ?_
  refine TC.condF rfl ?_
  refine TC.skip ?_
  refine TQ.then ?_
  refine TC.seq ?_
  refine TC.region ?_
  refine TL.mv (.int _ _) rfl rfl rfl ?_
  refine TL.callD [] [] (len64_ok h0 h1) ⟨rfl, trivial⟩ trivial fc_c23 rfl rfl rfl rfl rfl trivial ?_
  refine TL.asg (.int _ _) rfl rfl rfl ?_
  refine TL.done ?_
  refine TQ.then ?_
  refine TC.ret ?_
  refine FQ.ret1 (v := (.int _ _)) (Bs := []) [] rfl rfl rfl trivial ?_
  exact ⟨rfl, rfl⟩

theorem levels_ok {V S T : Int} (h0 : 0 ≤ V) (h1 : V ≤ 16) : FnD Try.prog 19 [.agg #[.int .i64 V, .int .i64 S, .int .i64 T]] [] (.int .i64 (levI V)) [] := by
  refine Fn.enter (Try.func19) rfl rfl (fun w0 R => ?_)
  refine TC.seq ?_
  refine TC.region ?_
  refine TL.boxA 0 rfl rfl rfl (fun _ => trivial) (fun b0 => ?_)
  refine TL.asg (.int _ _) rfl rfl rfl ?_
  refine TL.done ?_
  refine TQ.then ?_
  refine TC.seq ?_
  refine TC.region ?_
  refine TL.fa 0 rfl fc_f23_0_0 rfl rfl ?_
  refine TL.ld 0 (.int _ _) rfl rfl rfl fc_s3 rfl rfl ?_
  refine TL.conv _ rfl fc_u3 fc_i36_u64 (wru64 (by omega)) rfl rfl ?_
  refine TL.callD [] [] (len_ok h0 h1) ⟨rfl, trivial⟩ trivial fc_c21 rfl rfl rfl rfl rfl trivial ?_
  refine TL.asg (.int _ _) rfl rfl rfl ?_
  refine TL.done ?_
  refine TQ.then ?_
  refine TC.ret ?_
  refine FQ.ret1 (v := (.int _ _)) (Bs := []) [] rfl rfl rfl trivial ?_
  exact ⟨rfl, rfl⟩

theorem refLevels_ok {V S T : Int} (h0 : 1 ≤ V) (h1 : V ≤ 16) : FnD Try.prog 14 [.agg #[.int .i64 V, .int .i64 S, .int .i64 T]] [] (.int .i64 (levI V)) [] := by
  refine Fn.enter (Try.func14) rfl rfl (fun w0 R => ?_)
  refine TC.seq ?_
  refine TC.region ?_
  refine TL.boxA 0 rfl rfl rfl (fun _ => trivial) (fun b0 => ?_)
  refine TL.asg (.int _ _) rfl rfl rfl ?_
  refine TL.done ?_
  refine TQ.then ?_
  refine TC.seq ?_
  refine TC.region ?_
  refine TL.asg (.int _ _) rfl rfl rfl ?_
  refine TL.done ?_
  refine TQ.then ?_
  refine TC.seq ?_
  refine TC.seq ?_
  refine TC.region ?_
  refine TL.asg (.int _ _) rfl rfl rfl ?_
  refine TL.done ?_
  refine TQ.then ?_
  refine TC.block ?_
  refine TC.loopK (X := Nat) [1, 2] [0] (fun x => [(3, .int .i64 (x : Int)), (4, .int .i64 (pw x))]) (fun x => []) (fun x => x ≤ 5 ∧ 1 ≤ pw x ∧ pw x ≤ 32 ∧ (x = 0 ∨ pw x ≤ 2 * V)) (fun x => 6 - x) (0) ⟨by omega, by decide, by decide, .inl rfl⟩ ⟨rfl, rfl, trivial⟩ trivial (fun x hI => ?_)
  refine TC.seq ?_
  refine TC.seq ?_
  refine TC.region ?_
  refine TL.mv (.int _ _) rfl rfl rfl ?_
  refine TL.fa 0 rfl fc_f25_0_0 rfl rfl ?_
  refine TL.ld 0 (.int _ _) rfl rfl rfl fc_s3 rfl rfl ?_
  refine TL.leq rfl rfl rfl rfl (fun q1 => ?_) (fun q1 => ?_)
  · skip
    refine TL.done ?_
    refine TQ.then ?_
    refine TC.condT rfl ?_
    refine TC.skip ?_
    refine TQ.then ?_
    refine TC.seq ?_
    refine TC.block ?_
    refine TC.region ?_
    refine TL.mv (.int _ _) rfl rfl rfl ?_
    refine TL.add _ rfl rfl (wr64 (by omega)) rfl rfl ?_
    refine TL.asg (.int _ _) rfl rfl rfl ?_
    refine TL.done ?_
    refine TQ.inBlock ?_
    refine TQ.then ?_
    refine TC.region ?_
    refine TL.mv (.int _ _) rfl rfl rfl ?_
    refine TL.mul _ rfl rfl (wr64 (by omega)) rfl rfl ?_
    refine TL.asg (.int _ _) rfl rfl rfl ?_
    refine TL.done ?_
    refine TQ.roundK (x + 1) ⟨lev_next hI.1 h1 (by assumption), by omega⟩ ⟨rfl, rfl, trivial⟩ trivial ⟨rfl, rfl, trivial⟩ ⟨rfl, trivial⟩
  · skip
    refine TL.done ?_
    refine TQ.then ?_
    refine TC.condF rfl ?_
    refine TC.exit ?_
    refine TQ.thenExit ?_
    refine TQ.thenExit ?_
    refine TQ.blockHere ?_
    refine TQ.then ?_
    refine TC.seq ?_
    refine TC.region ?_
    refine TL.mv (.int _ _) rfl rfl rfl ?_
    refine TL.asg (.int _ _) rfl rfl rfl ?_
    refine TL.done ?_
    refine TQ.then ?_
    refine TC.ret ?_
    refine FQ.ret1 (v := (.int _ _)) (Bs := []) [] rfl rfl rfl trivial ?_
    exact ⟨iE (lev_end hI.1 (by assumption) hI.2.2.2), rfl⟩

theorem nodes_ok {V S T : Int} (hV : -9223372036854775808 ≤ V ∧ V < 9223372036854775808) (hS : -9223372036854775808 ≤ S ∧ S < 9223372036854775808) (hT : -9223372036854775808 ≤ T ∧ T < 9223372036854775808) : FnD Try.prog 7 [.agg #[.int .i64 V, .int .i64 S, .int .i64 T]] [] (.int .i64 (if okL V S T then V + 2 * S else 0)) [] := by
  refine Fn.enter (Try.func7) rfl rfl (fun w0 R => ?_)
  refine TC.seq ?_
  refine TC.region ?_
  refine TL.boxA 0 rfl rfl rfl (fun _ => trivial) (fun b0 => ?_)
  refine TL.asg (.int _ _) rfl rfl rfl ?_
  refine TL.done ?_
  refine TQ.then ?_
  refine TC.seq ?_
  refine TC.seq ?_
  refine TC.region ?_
  refine TL.ldA 0 3 [_, _, _] rfl rfl rfl fc_a23_3 rfl rfl ?_
  refine TL.callD [] [] (layRight_ok hV hS hT) ⟨rfl, trivial⟩ trivial fc_c17 rfl rfl rfl rfl rfl trivial ?_
  refine TL.casesP rfl (fun q1 => ?_) (fun q1 => ?_)
  · skip
    refine TL.not true false rfl rfl rfl rfl ?_
    refine TL.done ?_
    refine TQ.then ?_
    refine TC.condF rfl ?_
    refine TC.skip ?_
    refine TQ.then ?_
    refine TC.seq ?_
    refine TC.region ?_
    refine TL.fa 0 rfl fc_f23_0_0 rfl rfl ?_
    refine TL.ld 0 (.int _ _) rfl rfl rfl fc_s3 rfl rfl ?_
    refine TL.fa 1 rfl fc_f23_1_1 rfl rfl ?_
    refine TL.ld 0 (.int _ _) rfl rfl rfl fc_s3 rfl rfl ?_
    refine TL.mul _ rfl rfl (wr64 (by omega)) rfl rfl ?_
    refine TL.add _ rfl rfl (wr64 (by omega)) rfl rfl ?_
    refine TL.asg (.int _ _) rfl rfl rfl ?_
    refine TL.done ?_
    refine TQ.then ?_
    refine TC.ret ?_
    refine FQ.ret1 (v := (.int _ _)) (Bs := []) [] rfl rfl rfl trivial ?_
    first | exact ⟨iE (by rw [if_pos ‹okL V S T›]; first | done | rfl), rfl⟩ | exact ⟨iE (by rw [if_neg ‹¬ okL V S T›]), rfl⟩
  · skip
    refine TL.not false true rfl rfl rfl rfl ?_
    refine TL.done ?_
    refine TQ.then ?_
    refine TC.condT rfl ?_
    refine TC.seq ?_
    refine TC.region ?_
    refine TL.asg (.int _ _) rfl rfl rfl ?_
    refine TL.done ?_
    refine TQ.then ?_
    refine TC.ret ?_
    refine TQ.thenRet ?_
    refine FQ.ret1 (v := (.int _ _)) (Bs := []) [] rfl rfl rfl trivial ?_
    first | exact ⟨iE (by rw [if_pos ‹okL V S T›]; first | done | rfl), rfl⟩ | exact ⟨iE (by rw [if_neg ‹¬ okL V S T›]), rfl⟩

theorem way_ok {n : Int} (h : 0 ≤ n ∧ n ≤ 1048576) : FnD Try.prog 18 [.int .i64 n] [] (.int .i64 (2 * n + 2)) [] := by
  refine Fn.enter (Try.func18) rfl rfl (fun w0 R => ?_)
  refine TC.seq ?_
  refine TC.region ?_
  refine TL.asg (.int _ _) rfl rfl rfl ?_
  refine TL.done ?_
  refine TQ.then ?_
  refine TC.seq ?_
  refine TC.region ?_
  refine TL.mv (.int _ _) rfl rfl rfl ?_
  refine TL.mul _ rfl rfl (wr64 (by omega)) rfl rfl ?_
  refine TL.add _ rfl rfl (wr64 (by omega)) rfl rfl ?_
  refine TL.asg (.int _ _) rfl rfl rfl ?_
  refine TL.done ?_
  refine TQ.then ?_
  refine TC.ret ?_
  refine FQ.ret1 (v := (.int _ _)) (Bs := []) [] rfl rfl rfl trivial ?_
  exact ⟨rfl, rfl⟩

theorem climb_ok {V S T : Int} (hV : -9223372036854775808 ≤ V ∧ V < 9223372036854775808) (hS : -9223372036854775808 ≤ S ∧ S < 9223372036854775808) (hT : -9223372036854775808 ≤ T ∧ T < 9223372036854775808) : FnD Try.prog 8 [.agg #[.int .i64 V, .int .i64 S, .int .i64 T]] [] (.int .i64 (if okL V S T then 2 * (V + 2 * S) + 2 else 0)) [] := by
  refine Fn.enter (Try.func8) rfl rfl (fun w0 R => ?_)
  refine TC.seq ?_
  refine TC.region ?_
  refine TL.boxA 0 rfl rfl rfl (fun _ => trivial) (fun b0 => ?_)
  refine TL.asg (.int _ _) rfl rfl rfl ?_
  refine TL.done ?_
  refine TQ.then ?_
  refine TC.seq ?_
  refine TC.seq ?_
  refine TC.region ?_
  refine TL.ldA 0 3 [_, _, _] rfl rfl rfl fc_a23_3 rfl rfl ?_
  refine TL.callD [] [] (layRight_ok hV hS hT) ⟨rfl, trivial⟩ trivial fc_c17 rfl rfl rfl rfl rfl trivial ?_
  refine TL.casesP rfl (fun q1 => ?_) (fun q1 => ?_)
  · skip
    refine TL.not true false rfl rfl rfl rfl ?_
    refine TL.done ?_
    refine TQ.then ?_
    refine TC.condF rfl ?_
    refine TC.skip ?_
    refine TQ.then ?_
    refine TC.seq ?_
    refine TC.region ?_
    refine TL.ldA 0 3 [_, _, _] rfl rfl rfl fc_a23_3 rfl rfl ?_
    refine TL.callD [] [] (FnD.iteY (nodes_ok hV hS hT) q1) ⟨rfl, trivial⟩ trivial fc_c7 rfl rfl rfl rfl rfl trivial ?_
    refine TL.callD [] [] (way_ok (by omega)) ⟨rfl, trivial⟩ trivial fc_c18 rfl rfl rfl rfl rfl trivial ?_
    refine TL.asg (.int _ _) rfl rfl rfl ?_
    refine TL.done ?_
    refine TQ.then ?_
    refine TC.ret ?_
    refine FQ.ret1 (v := (.int _ _)) (Bs := []) [] rfl rfl rfl trivial ?_
    first | exact ⟨iE (by rw [if_pos ‹okL V S T›]; first | done | rfl), rfl⟩ | exact ⟨iE (by rw [if_neg ‹¬ okL V S T›]), rfl⟩
  · skip
    refine TL.not false true rfl rfl rfl rfl ?_
    refine TL.done ?_
    refine TQ.then ?_
    refine TC.condT rfl ?_
    refine TC.seq ?_
    refine TC.region ?_
    refine TL.asg (.int _ _) rfl rfl rfl ?_
    refine TL.done ?_
    refine TQ.then ?_
    refine TC.ret ?_
    refine TQ.thenRet ?_
    refine FQ.ret1 (v := (.int _ _)) (Bs := []) [] rfl rfl rfl trivial ?_
    first | exact ⟨iE (by rw [if_pos ‹okL V S T›]; first | done | rfl), rfl⟩ | exact ⟨iE (by rw [if_neg ‹¬ okL V S T›]), rfl⟩

theorem row_ok {V S T : Int} (hV : -9223372036854775808 ≤ V ∧ V < 9223372036854775808) (hS : -9223372036854775808 ≤ S ∧ S < 9223372036854775808) (hT : -9223372036854775808 ≤ T ∧ T < 9223372036854775808) : FnD Try.prog 9 [.agg #[.int .i64 V, .int .i64 S, .int .i64 T]] [] (.int .i64 (if okL V S T then rowI V S else 0)) [] := by
  refine Fn.enter (Try.func9) rfl rfl (fun w0 R => ?_)
  refine TC.seq ?_
  refine TC.region ?_
  refine TL.boxA 0 rfl rfl rfl (fun _ => trivial) (fun b0 => ?_)
  refine TL.asg (.int _ _) rfl rfl rfl ?_
  refine TL.done ?_
  refine TQ.then ?_
  refine TC.seq ?_
  refine TC.seq ?_
  refine TC.region ?_
  refine TL.ldA 0 3 [_, _, _] rfl rfl rfl fc_a23_3 rfl rfl ?_
  refine TL.callD [] [] (layRight_ok hV hS hT) ⟨rfl, trivial⟩ trivial fc_c17 rfl rfl rfl rfl rfl trivial ?_
  refine TL.casesP rfl (fun q1 => ?_) (fun q1 => ?_)
  · skip
    refine TL.not true false rfl rfl rfl rfl ?_
    refine TL.done ?_
    refine TQ.then ?_
    refine TC.condF rfl ?_
    refine TC.skip ?_
    refine TQ.then ?_
    refine TC.seq ?_
    refine TC.draw [(0, true), (3, true), (4, true), (5, true), (7, true), (1, false), (2, true), (6, true), (8, false), (9, true), (10, true), (11, true)] [0] fc_m (by kernel_rfl) ?_
    refine TL.ldA 0 3 [_, _, _] rfl rfl rfl fc_a23_3 rfl rfl ?_
    refine TL.fa 1 rfl fc_f23_1_1 rfl rfl ?_
    refine TL.ld 0 (.int _ _) rfl rfl rfl fc_s3 rfl rfl ?_
    refine TL.add _ rfl rfl (wr64 (by omega)) rfl rfl ?_
    refine TL.ldA 0 3 [_, _, _] rfl rfl rfl fc_a23_3 rfl rfl ?_
    refine TL.callD [] [] (levels_ok (by omega) (by omega)) ⟨rfl, trivial⟩ trivial fc_c19 rfl rfl rfl rfl rfl ⟨rfl, trivial⟩ ?_
    refine TL.mul _ rfl rfl (wr64 (by have := (row_bds q1).1; omega)) rfl rfl ?_
    refine TL.mul _ rfl rfl (wr64 (by have := (row_bds q1).2.1; omega)) rfl rfl ?_
    refine TL.callD [] [] (FnD.iteY (nodes_ok hV hS hT) q1) ⟨rfl, trivial⟩ trivial fc_c7 rfl rfl rfl rfl rfl ⟨rfl, trivial⟩ ?_
    refine TL.add _ rfl rfl (wr64 (by omega)) rfl rfl ?_
    refine TL.mul _ rfl rfl (wr64 (by have := (row_bds q1).2.2; rw [row_eq] at this; omega)) rfl rfl ?_
    refine TL.asg (.int _ _) rfl rfl rfl ?_
    refine TL.done ?_
    refine TQ.then ?_
    refine TC.ret ?_
    refine FQ.ret1 (v := (.int _ _)) (Bs := []) [] rfl rfl rfl trivial ?_
    first | exact ⟨iE (by rw [if_pos ‹okL V S T›]; first | done | rfl), rfl⟩ | exact ⟨iE (by rw [if_neg ‹¬ okL V S T›]), rfl⟩
  · skip
    refine TL.not false true rfl rfl rfl rfl ?_
    refine TL.done ?_
    refine TQ.then ?_
    refine TC.condT rfl ?_
    refine TC.seq ?_
    refine TC.region ?_
    refine TL.asg (.int _ _) rfl rfl rfl ?_
    refine TL.done ?_
    refine TQ.then ?_
    refine TC.ret ?_
    refine TQ.thenRet ?_
    refine FQ.ret1 (v := (.int _ _)) (Bs := []) [] rfl rfl rfl trivial ?_
    first | exact ⟨iE (by rw [if_pos ‹okL V S T›]; first | done | rfl), rfl⟩ | exact ⟨iE (by rw [if_neg ‹¬ okL V S T›]), rfl⟩

theorem alone_ok {V S T : Int} (hV : -9223372036854775808 ≤ V ∧ V < 9223372036854775808) (hS : -9223372036854775808 ≤ S ∧ S < 9223372036854775808) (hT : -9223372036854775808 ≤ T ∧ T < 9223372036854775808) : FnD Try.prog 10 [.agg #[.int .i64 V, .int .i64 S, .int .i64 T]] [] (.int .i64 (if okL V S T then 4 * (2 * (V + 2 * S) + 2) + rowI V S + 24 else 0)) [] := by
  refine Fn.enter (Try.func10) rfl rfl (fun w0 R => ?_)
  refine TC.seq ?_
  refine TC.region ?_
  refine TL.boxA 0 rfl rfl rfl (fun _ => trivial) (fun b0 => ?_)
  refine TL.asg (.int _ _) rfl rfl rfl ?_
  refine TL.done ?_
  refine TQ.then ?_
  refine TC.seq ?_
  refine TC.seq ?_
  refine TC.region ?_
  refine TL.ldA 0 3 [_, _, _] rfl rfl rfl fc_a23_3 rfl rfl ?_
  refine TL.callD [] [] (layRight_ok hV hS hT) ⟨rfl, trivial⟩ trivial fc_c17 rfl rfl rfl rfl rfl trivial ?_
  refine TL.casesP rfl (fun q1 => ?_) (fun q1 => ?_)
  · skip
    refine TL.not true false rfl rfl rfl rfl ?_
    refine TL.done ?_
    refine TQ.then ?_
    refine TC.condF rfl ?_
    refine TC.skip ?_
    refine TQ.then ?_
    refine TC.seq ?_
    refine TC.draw [(0, true), (3, true), (1, false), (2, true), (4, false), (5, true), (6, true), (7, true)] [0] fc_m (by kernel_rfl) ?_
    refine TL.ldA 0 3 [_, _, _] rfl rfl rfl fc_a23_3 rfl rfl ?_
    refine TL.ldA 0 3 [_, _, _] rfl rfl rfl fc_a23_3 rfl rfl ?_
    refine TL.callD [] [] (FnD.iteY (climb_ok hV hS hT) q1) ⟨rfl, trivial⟩ trivial fc_c8 rfl rfl rfl rfl rfl ⟨rfl, trivial⟩ ?_
    refine TL.mul _ rfl rfl (wr64 (by omega)) rfl rfl ?_
    refine TL.callD [] [] (FnD.iteY (row_ok hV hS hT) q1) ⟨rfl, trivial⟩ trivial fc_c9 rfl rfl rfl rfl rfl ⟨rfl, trivial⟩ ?_
    have hr := (row_bds q1).2.2
    refine TL.add _ rfl rfl (wr64 (by omega)) rfl rfl ?_
    refine TL.add _ rfl rfl (wr64 (by omega)) rfl rfl ?_
    refine TL.asg (.int _ _) rfl rfl rfl ?_
    refine TL.done ?_
    refine TQ.then ?_
    refine TC.ret ?_
    refine FQ.ret1 (v := (.int _ _)) (Bs := []) [] rfl rfl rfl trivial ?_
    first | exact ⟨iE (by rw [if_pos ‹okL V S T›]; first | done | rfl), rfl⟩ | exact ⟨iE (by rw [if_neg ‹¬ okL V S T›]), rfl⟩
  · skip
    refine TL.not false true rfl rfl rfl rfl ?_
    refine TL.done ?_
    refine TQ.then ?_
    refine TC.condT rfl ?_
    refine TC.seq ?_
    refine TC.region ?_
    refine TL.asg (.int _ _) rfl rfl rfl ?_
    refine TL.done ?_
    refine TQ.then ?_
    refine TC.ret ?_
    refine TQ.thenRet ?_
    refine FQ.ret1 (v := (.int _ _)) (Bs := []) [] rfl rfl rfl trivial ?_
    first | exact ⟨iE (by rw [if_pos ‹okL V S T›]; first | done | rfl), rfl⟩ | exact ⟨iE (by rw [if_neg ‹¬ okL V S T›]), rfl⟩

theorem rounds_ok {V S T : Int} (hV : -9223372036854775808 ≤ V ∧ V < 9223372036854775808) (hS : -9223372036854775808 ≤ S ∧ S < 9223372036854775808) (hT : -9223372036854775808 ≤ T ∧ T < 9223372036854775808) : FnD Try.prog 11 [.agg #[.int .i64 V, .int .i64 S, .int .i64 T]] [] (.int .i64 (if okL V S T then roundI V S T else 0)) [] := by
  refine Fn.enter (Try.func11) rfl rfl (fun w0 R => ?_)
  refine TC.seq ?_
  refine TC.region ?_
  refine TL.boxA 0 rfl rfl rfl (fun _ => trivial) (fun b0 => ?_)
  refine TL.asg (.int _ _) rfl rfl rfl ?_
  refine TL.done ?_
  refine TQ.then ?_
  refine TC.seq ?_
  refine TC.seq ?_
  refine TC.region ?_
  refine TL.ldA 0 3 [_, _, _] rfl rfl rfl fc_a23_3 rfl rfl ?_
  refine TL.callD [] [] (layRight_ok hV hS hT) ⟨rfl, trivial⟩ trivial fc_c17 rfl rfl rfl rfl rfl trivial ?_
  refine TL.casesP rfl (fun q1 => ?_) (fun q1 => ?_)
  · skip
    refine TL.not true false rfl rfl rfl rfl ?_
    refine TL.done ?_
    refine TQ.then ?_
    refine TC.condF rfl ?_
    refine TC.skip ?_
    refine TQ.then ?_
    refine TC.seq ?_
    refine TC.draw [(0, true), (3, true), (6, true), (7, true), (8, true), (1, false), (2, true), (4, false), (5, true), (9, true), (10, true), (11, true)] [0] fc_m (by kernel_rfl) ?_
    refine TL.ldA 0 3 [_, _, _] rfl rfl rfl fc_a23_3 rfl rfl ?_
    refine TL.ldA 0 3 [_, _, _] rfl rfl rfl fc_a23_3 rfl rfl ?_
    refine TL.fa 2 rfl fc_f23_2_2 rfl rfl ?_
    refine TL.ld 0 (.int _ _) rfl rfl rfl fc_s3 rfl rfl ?_
    refine TL.mul _ rfl rfl (wr64 (by omega)) rfl rfl ?_
    refine TL.callD [] [] (FnD.iteY (climb_ok hV hS hT) q1) ⟨rfl, trivial⟩ trivial fc_c8 rfl rfl rfl rfl rfl ⟨rfl, trivial⟩ ?_
    refine TL.mul _ rfl rfl (wr64 (by omega)) rfl rfl ?_
    refine TL.callD [] [] (FnD.iteY (row_ok hV hS hT) q1) ⟨rfl, trivial⟩ trivial fc_c9 rfl rfl rfl rfl rfl ⟨rfl, trivial⟩ ?_
    obtain ⟨hr1, hr2, hr⟩ := row_bds q1
    obtain ⟨hq, hq2, hq3⟩ := round_bds q1
    refine TL.add _ rfl rfl (wr64 (by omega)) rfl rfl ?_
    refine TL.add _ rfl rfl (wr64 (by omega)) rfl rfl ?_
    refine TL.add _ rfl rfl (wr64 (by omega)) rfl rfl ?_
    refine TL.asg (.int _ _) rfl rfl rfl ?_
    refine TL.done ?_
    refine TQ.then ?_
    refine TC.seq ?_
    refine TC.draw [(0, true), (1, true), (2, true), (3, true), (4, true), (5, false), (6, true), (7, true), (8, true), (9, true)] [0] fc_m (by kernel_rfl) ?_
    refine TL.fa 2 rfl fc_f23_2_2 rfl rfl ?_
    refine TL.ld 0 (.int _ _) rfl rfl rfl fc_s3 rfl rfl ?_
    refine TL.mv (.int _ _) rfl rfl rfl ?_
    refine TL.mul _ rfl rfl (wr64 (by omega)) rfl rfl ?_
    refine TL.ldA 0 3 [_, _, _] rfl rfl rfl fc_a23_3 rfl rfl ?_
    refine TL.callD [] [] (FnD.iteY (climb_ok hV hS hT) q1) ⟨rfl, trivial⟩ trivial fc_c8 rfl rfl rfl rfl rfl ⟨rfl, trivial⟩ ?_
    refine TL.mul _ rfl rfl (wr64 (by omega)) rfl rfl ?_
    refine TL.add _ rfl rfl (wr64 (by omega)) rfl rfl ?_
    refine TL.add _ rfl rfl (wr64 (by omega)) rfl rfl ?_
    refine TL.asg (.int _ _) rfl rfl rfl ?_
    refine TL.done ?_
    refine TQ.then ?_
    refine TC.ret ?_
    refine FQ.ret1 (v := (.int _ _)) (Bs := []) [] rfl rfl rfl trivial ?_
    first | exact ⟨iE (by rw [if_pos ‹okL V S T›]; first | done | rfl), rfl⟩ | exact ⟨iE (by rw [if_neg ‹¬ okL V S T›]), rfl⟩
  · skip
    refine TL.not false true rfl rfl rfl rfl ?_
    refine TL.done ?_
    refine TQ.then ?_
    refine TC.condT rfl ?_
    refine TC.seq ?_
    refine TC.region ?_
    refine TL.asg (.int _ _) rfl rfl rfl ?_
    refine TL.done ?_
    refine TQ.then ?_
    refine TC.ret ?_
    refine TQ.thenRet ?_
    refine FQ.ret1 (v := (.int _ _)) (Bs := []) [] rfl rfl rfl trivial ?_
    first | exact ⟨iE (by rw [if_pos ‹okL V S T›]; first | done | rfl), rfl⟩ | exact ⟨iE (by rw [if_neg ‹¬ okL V S T›]), rfl⟩

theorem steps_ok {V S T : Int} (hV : -9223372036854775808 ≤ V ∧ V < 9223372036854775808) (hS : -9223372036854775808 ≤ S ∧ S < 9223372036854775808) (hT : -9223372036854775808 ≤ T ∧ T < 9223372036854775808) : FnD Try.prog 12 [.agg #[.int .i64 V, .int .i64 S, .int .i64 T]] [] (.int .i64 (if okL V S T then T * roundI V S T else 0)) [] := by
  refine Fn.enter (Try.func12) rfl rfl (fun w0 R => ?_)
  refine TC.seq ?_
  refine TC.region ?_
  refine TL.boxA 0 rfl rfl rfl (fun _ => trivial) (fun b0 => ?_)
  refine TL.asg (.int _ _) rfl rfl rfl ?_
  refine TL.done ?_
  refine TQ.then ?_
  refine TC.seq ?_
  refine TC.seq ?_
  refine TC.region ?_
  refine TL.ldA 0 3 [_, _, _] rfl rfl rfl fc_a23_3 rfl rfl ?_
  refine TL.callD [] [] (layRight_ok hV hS hT) ⟨rfl, trivial⟩ trivial fc_c17 rfl rfl rfl rfl rfl trivial ?_
  refine TL.casesP rfl (fun q1 => ?_) (fun q1 => ?_)
  · skip
    refine TL.not true false rfl rfl rfl rfl ?_
    refine TL.done ?_
    refine TQ.then ?_
    refine TC.condF rfl ?_
    refine TC.skip ?_
    refine TQ.then ?_
    refine TC.seq ?_
    refine TC.draw [(0, true), (1, true), (2, true), (3, false), (4, true), (5, true)] [0] fc_m (by kernel_rfl) ?_
    refine TL.fa 2 rfl fc_f23_2_2 rfl rfl ?_
    refine TL.ld 0 (.int _ _) rfl rfl rfl fc_s3 rfl rfl ?_
    refine TL.ldA 0 3 [_, _, _] rfl rfl rfl fc_a23_3 rfl rfl ?_
    refine TL.callD [] [] (FnD.iteY (rounds_ok hV hS hT) q1) ⟨rfl, trivial⟩ trivial fc_c11 rfl rfl rfl rfl rfl ⟨rfl, trivial⟩ ?_
    obtain ⟨hq, hq2, hq3⟩ := round_bds q1
    refine TL.mul _ rfl rfl (wr64 (by omega)) rfl rfl ?_
    refine TL.asg (.int _ _) rfl rfl rfl ?_
    refine TL.done ?_
    refine TQ.then ?_
    refine TC.ret ?_
    refine FQ.ret1 (v := (.int _ _)) (Bs := []) [] rfl rfl rfl trivial ?_
    first | exact ⟨iE (by rw [if_pos ‹okL V S T›]; first | done | rfl), rfl⟩ | exact ⟨iE (by rw [if_neg ‹¬ okL V S T›]), rfl⟩
  · skip
    refine TL.not false true rfl rfl rfl rfl ?_
    refine TL.done ?_
    refine TQ.then ?_
    refine TC.condT rfl ?_
    refine TC.seq ?_
    refine TC.region ?_
    refine TL.asg (.int _ _) rfl rfl rfl ?_
    refine TL.done ?_
    refine TQ.then ?_
    refine TC.ret ?_
    refine TQ.thenRet ?_
    refine FQ.ret1 (v := (.int _ _)) (Bs := []) [] rfl rfl rfl trivial ?_
    first | exact ⟨iE (by rw [if_pos ‹okL V S T›]; first | done | rfl), rfl⟩ | exact ⟨iE (by rw [if_neg ‹¬ okL V S T›]), rfl⟩

theorem slots_ok {a b : Int} : FnD Try.prog 15 [.int .i64 a, .int .i64 b] [] (.int .i64 (max (min a b) 0)) [] := by
  refine Fn.enter (Try.func15) rfl rfl (fun w0 R => ?_)
  refine TC.seq ?_
  refine TC.region ?_
  refine TL.asg (.int _ _) rfl rfl rfl ?_
  refine TL.done ?_
  refine TQ.then ?_
  refine TC.seq ?_
  refine TC.region ?_
  refine TL.mv (.int _ _) rfl rfl rfl ?_
  refine TL.mv (.int _ _) rfl rfl rfl ?_
  refine TL.min2 rfl rfl rfl rfl ?_
  refine TL.max2 rfl rfl rfl rfl ?_
  refine TL.asg (.int _ _) rfl rfl rfl ?_
  refine TL.done ?_
  refine TQ.then ?_
  refine TC.ret ?_
  refine FQ.ret1 (v := (.int _ _)) (Bs := []) [] rfl rfl rfl trivial ?_
  exact ⟨rfl, rfl⟩

theorem ask_ok {a b : Int} (h : a < 0 ∨ b < 0 ∨ a ≤ 1048576 ∧ b ≤ 1048576) : FnD Try.prog 16 [.int .i64 a, .int .i64 b] [] (.int .i64 (if a < 0 ∨ b < 0 then 0 else 6 * (2 * a + 2) * (b + 1))) [] := by
  refine Fn.enter (Try.func16) rfl rfl (fun w0 R => ?_)
  refine TC.seq ?_
  refine TC.region ?_
  refine TL.asg (.int _ _) rfl rfl rfl ?_
  refine TL.done ?_
  refine TQ.then ?_
  refine TC.seq ?_
  refine TC.seq ?_
  refine TC.region ?_
  refine TL.mv (.int _ _) rfl rfl rfl ?_
  refine TL.lss rfl rfl rfl rfl (fun q1 => ?_) (fun q1 => ?_)
  · skip
    refine TL.mv (.bool true) rfl rfl rfl ?_
    refine TL.off rfl rfl ?_
    refine TL.off rfl rfl ?_
    refine TL.pickT (.bool true) rfl rfl rfl rfl ?_
    refine TL.done ?_
    refine TQ.then ?_
    refine TC.condT rfl ?_
    refine TC.seq ?_
    refine TC.region ?_
    refine TL.asg (.int _ _) rfl rfl rfl ?_
    refine TL.done ?_
    refine TQ.then ?_
    refine TC.ret ?_
    refine TQ.thenRet ?_
    refine FQ.ret1 (v := (.int _ _)) (Bs := []) [] rfl rfl rfl trivial ?_
    first | exact ⟨iE (by rw [if_pos (by omega)]), rfl⟩ | exact ⟨iE (by rw [if_neg (by omega)]), rfl⟩
  · skip
    refine TL.mv (.bool false) rfl rfl rfl ?_
    refine TL.mv (.int _ _) rfl rfl rfl ?_
    refine TL.lss rfl rfl rfl rfl (fun q2 => ?_) (fun q2 => ?_)
    · skip
      refine TL.pickF (.bool true) rfl rfl rfl rfl ?_
      refine TL.done ?_
      refine TQ.then ?_
      refine TC.condT rfl ?_
      refine TC.seq ?_
      refine TC.region ?_
      refine TL.asg (.int _ _) rfl rfl rfl ?_
      refine TL.done ?_
      refine TQ.then ?_
      refine TC.ret ?_
      refine TQ.thenRet ?_
      refine FQ.ret1 (v := (.int _ _)) (Bs := []) [] rfl rfl rfl trivial ?_
      first | exact ⟨iE (by rw [if_pos (by omega)]), rfl⟩ | exact ⟨iE (by rw [if_neg (by omega)]), rfl⟩
    · skip
      refine TL.pickF (.bool false) rfl rfl rfl rfl ?_
      refine TL.done ?_
      refine TQ.then ?_
      refine TC.condF rfl ?_
      refine TC.skip ?_
      refine TQ.then ?_
      refine TC.seq ?_
      refine TC.region ?_
      refine TL.mv (.int _ _) rfl rfl rfl ?_
      refine TL.callD [] [] (way_ok (by omega)) ⟨rfl, trivial⟩ trivial fc_c18 rfl rfl rfl rfl rfl trivial ?_
      refine TL.mul _ rfl rfl (wr64 (by omega)) rfl rfl ?_
      refine TL.mv (.int _ _) rfl rfl rfl ?_
      refine TL.add _ rfl rfl (wr64 (by omega)) rfl rfl ?_
      refine TL.mul _ rfl rfl (wr64 (by have := mul_bd (a := 6 * (2 * a + 2)) (A := 12582924) (b := b + 1) (B := 1048577) (by omega) (by omega) (by omega) (by omega); omega)) rfl rfl ?_
      refine TL.asg (.int _ _) rfl rfl rfl ?_
      refine TL.done ?_
      refine TQ.then ?_
      refine TC.ret ?_
      refine FQ.ret1 (v := (.int _ _)) (Bs := []) [] rfl rfl rfl trivial ?_
      first | exact ⟨iE (by rw [if_pos (by omega)]), rfl⟩ | exact ⟨iE (by rw [if_neg (by omega)]), rfl⟩

theorem awake_ok  : FnD Try.prog 13 [] [] (.bool true) [] := by
  refine Fn.enter (Try.func13) rfl rfl (fun w0 R => ?_)
  refine TC.seq ?_
  refine TC.region ?_
  refine TL.asg (.bool false) rfl rfl rfl ?_
  refine TL.done ?_
  refine TQ.then ?_
  refine TC.seq ?_
  refine TC.region ?_
  refine TL.bld [.int .i64 0, .int .i64 0, .int .i64 0] [(.int _ _), (.int _ _)] [_, _, _] fc_z23 fc_q23 ⟨rfl, rfl, trivial⟩ ⟨rfl, rfl⟩ rfl rfl ?_
  refine TL.alloc 0 (cs := #[.int .i64 0, .int .i64 0, .int .i64 0]) fc_z23 rfl rfl rfl (fun _ => trivial) (fun b0 => ?_)
  refine TL.stA 0 3 #[_, _, _] [_, _, _] rfl rfl rfl rfl rfl rfl rfl fc_a23_3 rfl rfl trivial ?_
  refine TL.done ?_
  refine TQ.then ?_
  refine TC.seq ?_
  refine TC.region ?_
  refine TL.ldA 0 3 [_, _, _] rfl rfl rfl fc_a23_3 rfl rfl ?_
  refine TL.callD [] [] (FnD.iteY (nodes_ok (by decide) (by decide) (by decide)) (by decide)) ⟨rfl, trivial⟩ trivial fc_c7 rfl rfl rfl rfl rfl trivial ?_
  refine TL.eqlT rfl rfl (by decide) rfl rfl ?_
  refine TL.mv (.bool true) rfl rfl rfl ?_
  refine TL.ldA 0 3 [_, _, _] rfl rfl rfl fc_a23_3 rfl rfl ?_
  refine TL.callD [] [] (FnD.iteY (climb_ok (by decide) (by decide) (by decide)) (by decide)) ⟨rfl, trivial⟩ trivial fc_c8 rfl rfl rfl rfl rfl trivial ?_
  refine TL.eqlT rfl rfl (by decide) rfl rfl ?_
  refine TL.pickT (.bool true) rfl rfl rfl rfl ?_
  refine TL.mv (.bool true) rfl rfl rfl ?_
  refine TL.ldA 0 3 [_, _, _] rfl rfl rfl fc_a23_3 rfl rfl ?_
  refine TL.callD [] [] (FnD.iteY (row_ok (by decide) (by decide) (by decide)) (by decide)) ⟨rfl, trivial⟩ trivial fc_c9 rfl rfl rfl rfl rfl trivial ?_
  refine TL.eqlT rfl rfl (by decide) rfl rfl ?_
  refine TL.pickT (.bool true) rfl rfl rfl rfl ?_
  refine TL.mv (.bool true) rfl rfl rfl ?_
  refine TL.ldA 0 3 [_, _, _] rfl rfl rfl fc_a23_3 rfl rfl ?_
  refine TL.callD [] [] (FnD.iteY (alone_ok (by decide) (by decide) (by decide)) (by decide)) ⟨rfl, trivial⟩ trivial fc_c10 rfl rfl rfl rfl rfl trivial ?_
  refine TL.eqlT rfl rfl (by decide) rfl rfl ?_
  refine TL.pickT (.bool true) rfl rfl rfl rfl ?_
  refine TL.mv (.bool true) rfl rfl rfl ?_
  refine TL.ldA 0 3 [_, _, _] rfl rfl rfl fc_a23_3 rfl rfl ?_
  refine TL.callD [] [] (FnD.iteY (rounds_ok (by decide) (by decide) (by decide)) (by decide)) ⟨rfl, trivial⟩ trivial fc_c11 rfl rfl rfl rfl rfl trivial ?_
  refine TL.eqlT rfl rfl (by decide) rfl rfl ?_
  refine TL.pickT (.bool true) rfl rfl rfl rfl ?_
  refine TL.mv (.bool true) rfl rfl rfl ?_
  refine TL.ldA 0 3 [_, _, _] rfl rfl rfl fc_a23_3 rfl rfl ?_
  refine TL.callD [] [] (FnD.iteY (steps_ok (by decide) (by decide) (by decide)) (by decide)) ⟨rfl, trivial⟩ trivial fc_c12 rfl rfl rfl rfl rfl trivial ?_
  refine TL.eqlT rfl rfl (by decide) rfl rfl ?_
  refine TL.pickT (.bool true) rfl rfl rfl rfl ?_
  refine TL.mv (.bool true) rfl rfl rfl ?_
  refine TL.callD [] [] slots_ok ⟨rfl, rfl, trivial⟩ trivial fc_c15 rfl rfl rfl rfl rfl trivial ?_
  refine TL.eqlT rfl rfl (by decide) rfl rfl ?_
  refine TL.pickT (.bool true) rfl rfl rfl rfl ?_
  refine TL.mv (.bool true) rfl rfl rfl ?_
  refine TL.callD [] [] slots_ok ⟨rfl, rfl, trivial⟩ trivial fc_c15 rfl rfl rfl rfl rfl trivial ?_
  refine TL.eqlT rfl rfl (by decide) rfl rfl ?_
  refine TL.pickT (.bool true) rfl rfl rfl rfl ?_
  refine TL.mv (.bool true) rfl rfl rfl ?_
  refine TL.callD [] [] (ask_ok (by decide)) ⟨rfl, rfl, trivial⟩ trivial fc_c16 rfl rfl rfl rfl rfl trivial ?_
  refine TL.eqlT rfl rfl (by decide) rfl rfl ?_
  refine TL.pickT (.bool true) rfl rfl rfl rfl ?_
  refine TL.mv (.bool true) rfl rfl rfl ?_
  refine TL.callD [] [] (ask_ok (by decide)) ⟨rfl, rfl, trivial⟩ trivial fc_c16 rfl rfl rfl rfl rfl trivial ?_
  refine TL.eqlT rfl rfl (by decide) rfl rfl ?_
  refine TL.pickT (.bool true) rfl rfl rfl rfl ?_
  refine TL.mv (.bool true) rfl rfl rfl ?_
  refine TL.bld [.int .i64 0, .int .i64 0, .int .i64 0] [] [_, _, _] fc_z23 fc_q23 trivial ⟨rfl, rfl⟩ rfl rfl ?_
  refine TL.callD [] [] (FnD.iteN (steps_ok (by decide) (by decide) (by decide)) (by decide)) ⟨rfl, trivial⟩ trivial fc_c12 rfl rfl rfl rfl rfl trivial ?_
  refine TL.eqlT rfl rfl (by decide) rfl rfl ?_
  refine TL.pickT (.bool true) rfl rfl rfl rfl ?_
  refine TL.asg (.bool true) rfl rfl rfl ?_
  refine TL.done ?_
  refine TQ.then ?_
  refine TC.ret ?_
  refine FQ.ret1 (v := (.bool true)) (Bs := []) [] rfl rfl rfl trivial ?_
  exact ⟨rfl, rfl⟩

theorem tells_ok {V S T a b : Int} (hV : -9223372036854775808 ≤ V ∧ V < 9223372036854775808) (hS : -9223372036854775808 ≤ S ∧ S < 9223372036854775808) (hT : -9223372036854775808 ≤ T ∧ T < 9223372036854775808) (ha : -9223372036854775808 ≤ a ∧ a < 9223372036854775808) (hb : -9223372036854775808 ≤ b ∧ b < 9223372036854775808) : FnD Try.prog 3 [.agg #[.int .i64 V, .int .i64 S, .int .i64 T], .int .i64 a, .int .i64 b] [] (.bool true) [] := by
  refine Fn.enter (Try.func3) rfl rfl (fun w0 R => ?_)
  refine TC.seq ?_
  refine TC.region ?_
  refine TL.boxA 0 rfl rfl rfl (fun _ => trivial) (fun b0 => ?_)
  refine TL.asg (.bool false) rfl rfl rfl ?_
  refine TL.done ?_
  refine TQ.then ?_
  refine TC.seq ?_
  refine TC.seq ?_
  refine TC.region ?_
  refine TL.ldA 0 3 [_, _, _] rfl rfl rfl fc_a23_3 rfl rfl ?_
  refine TL.callD [] [] ref_ok ⟨rfl, trivial⟩ trivial fc_c6 rfl rfl rfl rfl rfl trivial ?_
  refine TL.callD [] [] refRight_ok ⟨rfl, trivial⟩ trivial fc_c5 rfl rfl rfl rfl rfl trivial ?_
  refine TL.casesP rfl (fun q1 => ?_) (fun q1 => ?_)
  · skip
    refine TL.not true false rfl rfl rfl rfl ?_
    refine TL.done ?_
    refine TQ.then ?_
    refine TC.condF rfl ?_
    refine TC.skip ?_
    refine TQ.then ?_
    refine TC.seq ?_
    refine TC.region ?_
    refine TL.fa 0 rfl fc_f23_0_0 rfl rfl ?_
    refine TL.ld 0 (.int _ _) rfl rfl rfl fc_s3 rfl rfl ?_
    refine TL.fa 1 rfl fc_f23_1_1 rfl rfl ?_
    refine TL.ld 0 (.int _ _) rfl rfl rfl fc_s3 rfl rfl ?_
    refine TL.mul _ rfl rfl (wr64 (by omega)) rfl rfl ?_
    refine TL.add _ rfl rfl (wr64 (by omega)) rfl rfl ?_
    refine TL.asg (.int _ _) rfl rfl rfl ?_
    refine TL.done ?_
    refine TQ.then ?_
    refine TC.seq ?_
    refine TC.region ?_
    refine TL.mv (.int _ _) rfl rfl rfl ?_
    refine TL.mul _ rfl rfl (wr64 (by omega)) rfl rfl ?_
    refine TL.add _ rfl rfl (wr64 (by omega)) rfl rfl ?_
    refine TL.asg (.int _ _) rfl rfl rfl ?_
    refine TL.done ?_
    refine TQ.then ?_
    refine TC.seq ?_
    refine TC.draw [(0, true), (4, true), (5, true), (6, true), (8, true), (9, true), (1, false), (2, false), (3, true), (7, true), (10, true), (11, true)] [0] fc_m (by kernel_rfl) ?_
    refine TL.ldA 0 3 [_, _, _] rfl rfl rfl fc_a23_3 rfl rfl ?_
    refine TL.fa 1 rfl fc_f23_1_1 rfl rfl ?_
    refine TL.ld 0 (.int _ _) rfl rfl rfl fc_s3 rfl rfl ?_
    refine TL.add _ rfl rfl (wr64 (by omega)) rfl rfl ?_
    refine TL.mv (.int _ _) rfl rfl rfl ?_
    refine TL.add _ rfl rfl (wr64 (by omega)) rfl rfl ?_
    refine TL.callD [] [] ref_ok ⟨rfl, trivial⟩ trivial fc_c6 rfl rfl rfl rfl rfl ⟨rfl, trivial⟩ ?_
    refine TL.callD [] [] (refLevels_ok (by omega) (by omega)) ⟨rfl, trivial⟩ trivial fc_c14 rfl rfl rfl rfl rfl ⟨rfl, trivial⟩ ?_
    obtain ⟨hr1, hr2, hr⟩ := row_bds q1
    obtain ⟨hq, hq2, hq3⟩ := round_bds q1
    rw [row_eq] at hr
    have hq4 := hq3
    simp only [roundI, row_eq] at hq hq4
    refine TL.mul _ rfl rfl (wr64 (by omega)) rfl rfl ?_
    refine TL.mul _ rfl rfl (wr64 (by omega)) rfl rfl ?_
    refine TL.mul _ rfl rfl (wr64 (by omega)) rfl rfl ?_
    refine TL.asg (.int _ _) rfl rfl rfl ?_
    refine TL.done ?_
    refine TQ.then ?_
    refine TC.seq ?_
    refine TC.region ?_
    refine TL.fa 2 rfl fc_f23_2_2 rfl rfl ?_
    refine TL.ld 0 (.int _ _) rfl rfl rfl fc_s3 rfl rfl ?_
    refine TL.mv (.int _ _) rfl rfl rfl ?_
    refine TL.mul _ rfl rfl (wr64 (by omega)) rfl rfl ?_
    refine TL.mv (.int _ _) rfl rfl rfl ?_
    refine TL.add _ rfl rfl (wr64 (by omega)) rfl rfl ?_
    refine TL.fa 2 rfl fc_f23_2_2 rfl rfl ?_
    refine TL.ld 0 (.int _ _) rfl rfl rfl fc_s3 rfl rfl ?_
    refine TL.mul _ rfl rfl (wr64 (by omega)) rfl rfl ?_
    refine TL.add _ rfl rfl (wr64 (by omega)) rfl rfl ?_
    refine TL.add _ rfl rfl (wr64 (by omega)) rfl rfl ?_
    refine TL.mul _ rfl rfl (wr64 (by omega)) rfl rfl ?_
    refine TL.mv (.int _ _) rfl rfl rfl ?_
    refine TL.mul _ rfl rfl (wr64 (by omega)) rfl rfl ?_
    refine TL.add _ rfl rfl (wr64 (by omega)) rfl rfl ?_
    refine TL.add _ rfl rfl (wr64 (by omega)) rfl rfl ?_
    refine TL.asg (.int _ _) rfl rfl rfl ?_
    refine TL.done ?_
    refine TQ.then ?_
    refine TC.seq ?_
    refine TC.seq ?_
    refine TC.draw [(0, true), (2, true), (1, false), (3, true), (4, true), (5, true), (7, true), (6, false), (8, true), (9, true), (10, true), (11, true), (13, true), (12, false), (14, true), (15, true), (16, true), (17, true), (19, true), (20, true), (21, true), (22, true), (23, true), (18, false), (24, true), (25, true), (26, true), (27, true), (29, true), (28, false), (30, true), (31, true), (32, true), (33, true), (35, true), (36, true), (37, true), (38, true), (34, false), (39, true), (40, true)] [0] fc_m (by kernel_rfl) ?_
    refine TL.ldA 0 3 [_, _, _] rfl rfl rfl fc_a23_3 rfl rfl ?_
    refine TL.mv (.int _ _) rfl rfl rfl ?_
    refine TL.callD [] [] (FnD.iteY (nodes_ok hV hS hT) q1) ⟨rfl, trivial⟩ trivial fc_c7 rfl rfl rfl rfl rfl ⟨rfl, trivial⟩ ?_
    refine TL.neqF rfl rfl (fun h => h rfl) rfl rfl ?_
    refine TL.mv (.bool false) rfl rfl rfl ?_
    refine TL.ldA 0 3 [_, _, _] rfl rfl rfl fc_a23_3 rfl rfl ?_
    refine TL.mv (.int _ _) rfl rfl rfl ?_
    refine TL.callD [] [] (FnD.iteY (climb_ok hV hS hT) q1) ⟨rfl, trivial⟩ trivial fc_c8 rfl rfl rfl rfl rfl ⟨rfl, trivial⟩ ?_
    refine TL.neqF rfl rfl (fun h => h rfl) rfl rfl ?_
    refine TL.pickF (.bool false) rfl rfl rfl rfl ?_
    refine TL.mv (.bool false) rfl rfl rfl ?_
    refine TL.ldA 0 3 [_, _, _] rfl rfl rfl fc_a23_3 rfl rfl ?_
    refine TL.mv (.int _ _) rfl rfl rfl ?_
    refine TL.callD [] [] (FnD.iteY (row_ok hV hS hT) q1) ⟨rfl, trivial⟩ trivial fc_c9 rfl rfl rfl rfl rfl ⟨rfl, trivial⟩ ?_
    refine TL.neqF rfl rfl (fun h => h rfl) rfl rfl ?_
    refine TL.pickF (.bool false) rfl rfl rfl rfl ?_
    refine TL.mv (.bool false) rfl rfl rfl ?_
    refine TL.ldA 0 3 [_, _, _] rfl rfl rfl fc_a23_3 rfl rfl ?_
    refine TL.mv (.int _ _) rfl rfl rfl ?_
    refine TL.mul _ rfl rfl (wr64 (by omega)) rfl rfl ?_
    refine TL.mv (.int _ _) rfl rfl rfl ?_
    refine TL.add _ rfl rfl (wr64 (by omega)) rfl rfl ?_
    refine TL.add _ rfl rfl (wr64 (by omega)) rfl rfl ?_
    refine TL.callD [] [] (FnD.iteY (alone_ok hV hS hT) q1) ⟨rfl, trivial⟩ trivial fc_c10 rfl rfl rfl rfl rfl ⟨rfl, trivial⟩ ?_
    refine TL.neqF rfl rfl (fun h => h rfl) rfl rfl ?_
    refine TL.pickF (.bool false) rfl rfl rfl rfl ?_
    refine TL.mv (.bool false) rfl rfl rfl ?_
    refine TL.ldA 0 3 [_, _, _] rfl rfl rfl fc_a23_3 rfl rfl ?_
    refine TL.mv (.int _ _) rfl rfl rfl ?_
    refine TL.callD [] [] (FnD.iteY (rounds_ok hV hS hT) q1) ⟨rfl, trivial⟩ trivial fc_c11 rfl rfl rfl rfl rfl ⟨rfl, trivial⟩ ?_
    refine TL.neqF rfl rfl (fun h => h rfl) rfl rfl ?_
    refine TL.pickF (.bool false) rfl rfl rfl rfl ?_
    refine TL.mv (.bool false) rfl rfl rfl ?_
    refine TL.ldA 0 3 [_, _, _] rfl rfl rfl fc_a23_3 rfl rfl ?_
    refine TL.fa 2 rfl fc_f23_2_2 rfl rfl ?_
    refine TL.ld 0 (.int _ _) rfl rfl rfl fc_s3 rfl rfl ?_
    refine TL.mv (.int _ _) rfl rfl rfl ?_
    refine TL.mul _ rfl rfl (wr64 (by omega)) rfl rfl ?_
    refine TL.callD [] [] (FnD.iteY (steps_ok hV hS hT) q1) ⟨rfl, trivial⟩ trivial fc_c12 rfl rfl rfl rfl rfl ⟨rfl, trivial⟩ ?_
    refine TL.neqF rfl rfl (fun h => h rfl) rfl rfl ?_
    refine TL.pickF (.bool false) rfl rfl rfl rfl ?_
    refine TL.done ?_
    refine TQ.then ?_
    refine TC.condF rfl ?_
    refine TC.skip ?_
    refine TQ.then ?_
    refine TC.seq ?_
    refine TC.seq ?_
    refine TC.region ?_
    refine TL.mv (.int _ _) rfl rfl rfl ?_
    refine TL.lss rfl rfl rfl rfl (fun q2 => ?_) (fun q2 => ?_)
    · skip
      refine TL.mv (.bool true) rfl rfl rfl ?_
      refine TL.off rfl rfl ?_
      refine TL.off rfl rfl ?_
      refine TL.pickT (.bool true) rfl rfl rfl rfl ?_
      refine TL.done ?_
      refine TQ.then ?_
      refine TC.condT rfl ?_
      refine TC.seq ?_
      refine TC.region ?_
      refine TL.mv (.int _ _) rfl rfl rfl ?_
      refine TL.mv (.int _ _) rfl rfl rfl ?_
      refine TL.callD [] [] slots_ok ⟨rfl, rfl, trivial⟩ trivial fc_c15 rfl rfl rfl rfl rfl trivial ?_
      refine TL.eqlT rfl rfl (by omega) rfl rfl ?_
      refine TL.mv (.bool true) rfl rfl rfl ?_
      refine TL.mv (.int _ _) rfl rfl rfl ?_
      refine TL.mv (.int _ _) rfl rfl rfl ?_
      refine TL.callD [] [] (ask_ok (by omega)) ⟨rfl, rfl, trivial⟩ trivial fc_c16 rfl rfl rfl rfl rfl trivial ?_
      refine TL.eqlT rfl rfl (by rw [if_pos (by omega)]) rfl rfl ?_
      refine TL.pickT (.bool true) rfl rfl rfl rfl ?_
      refine TL.mv (.bool true) rfl rfl rfl ?_
      refine TL.callD [] [] awake_ok trivial trivial fc_c13 rfl rfl rfl rfl rfl trivial ?_
      refine TL.pickT (.bool _) rfl rfl rfl rfl ?_
      refine TL.asg (.bool _) rfl rfl rfl ?_
      refine TL.done ?_
      refine TQ.then ?_
      refine TC.ret ?_
      refine TQ.thenRet ?_
      refine FQ.ret1 (v := (.bool _)) (Bs := []) [] rfl rfl rfl trivial ?_
      exact ⟨rfl, rfl⟩
    · skip
      refine TL.mv (.bool false) rfl rfl rfl ?_
      refine TL.mv (.int _ _) rfl rfl rfl ?_
      refine TL.lss rfl rfl rfl rfl (fun q3 => ?_) (fun q3 => ?_)
      · skip
        refine TL.pickF (.bool true) rfl rfl rfl rfl ?_
        refine TL.done ?_
        refine TQ.then ?_
        refine TC.condT rfl ?_
        refine TC.seq ?_
        refine TC.region ?_
        refine TL.mv (.int _ _) rfl rfl rfl ?_
        refine TL.mv (.int _ _) rfl rfl rfl ?_
        refine TL.callD [] [] slots_ok ⟨rfl, rfl, trivial⟩ trivial fc_c15 rfl rfl rfl rfl rfl trivial ?_
        refine TL.eqlT rfl rfl (by omega) rfl rfl ?_
        refine TL.mv (.bool true) rfl rfl rfl ?_
        refine TL.mv (.int _ _) rfl rfl rfl ?_
        refine TL.mv (.int _ _) rfl rfl rfl ?_
        refine TL.callD [] [] (ask_ok (by omega)) ⟨rfl, rfl, trivial⟩ trivial fc_c16 rfl rfl rfl rfl rfl trivial ?_
        refine TL.eqlT rfl rfl (by rw [if_pos (by omega)]) rfl rfl ?_
        refine TL.pickT (.bool true) rfl rfl rfl rfl ?_
        refine TL.mv (.bool true) rfl rfl rfl ?_
        refine TL.callD [] [] awake_ok trivial trivial fc_c13 rfl rfl rfl rfl rfl trivial ?_
        refine TL.pickT (.bool _) rfl rfl rfl rfl ?_
        refine TL.asg (.bool _) rfl rfl rfl ?_
        refine TL.done ?_
        refine TQ.then ?_
        refine TC.ret ?_
        refine TQ.thenRet ?_
        refine FQ.ret1 (v := (.bool _)) (Bs := []) [] rfl rfl rfl trivial ?_
        exact ⟨rfl, rfl⟩
      · skip
        refine TL.pickF (.bool false) rfl rfl rfl rfl ?_
        refine TL.done ?_
        refine TQ.then ?_
        refine TC.condF rfl ?_
        refine TC.skip ?_
        refine TQ.then ?_
        refine TC.seq ?_
        refine TC.seq ?_
        refine TC.region ?_
        refine TL.mv (.int _ _) rfl rfl rfl ?_
        refine TL.gtr rfl rfl rfl rfl (fun q4 => ?_) (fun q4 => ?_)
        · skip
          refine TL.mv (.bool true) rfl rfl rfl ?_
          refine TL.off rfl rfl ?_
          refine TL.off rfl rfl ?_
          refine TL.pickT (.bool true) rfl rfl rfl rfl ?_
          refine TL.done ?_
          refine TQ.then ?_
          refine TC.condT rfl ?_
          refine TC.seq ?_
          refine TC.region ?_
          refine TL.callD [] [] awake_ok trivial trivial fc_c13 rfl rfl rfl rfl rfl trivial ?_
          refine TL.asg (.bool _) rfl rfl rfl ?_
          refine TL.done ?_
          refine TQ.then ?_
          refine TC.ret ?_
          refine TQ.thenRet ?_
          refine FQ.ret1 (v := (.bool _)) (Bs := []) [] rfl rfl rfl trivial ?_
          exact ⟨rfl, rfl⟩
        · skip
          refine TL.mv (.bool false) rfl rfl rfl ?_
          refine TL.mv (.int _ _) rfl rfl rfl ?_
          refine TL.gtr rfl rfl rfl rfl (fun q5 => ?_) (fun q5 => ?_)
          · skip
            refine TL.pickF (.bool true) rfl rfl rfl rfl ?_
            refine TL.done ?_
            refine TQ.then ?_
            refine TC.condT rfl ?_
            refine TC.seq ?_
            refine TC.region ?_
            refine TL.callD [] [] awake_ok trivial trivial fc_c13 rfl rfl rfl rfl rfl trivial ?_
            refine TL.asg (.bool _) rfl rfl rfl ?_
            refine TL.done ?_
            refine TQ.then ?_
            refine TC.ret ?_
            refine TQ.thenRet ?_
            refine FQ.ret1 (v := (.bool _)) (Bs := []) [] rfl rfl rfl trivial ?_
            exact ⟨rfl, rfl⟩
          · skip
            refine TL.pickF (.bool false) rfl rfl rfl rfl ?_
            refine TL.done ?_
            refine TQ.then ?_
            refine TC.condF rfl ?_
            refine TC.skip ?_
            refine TQ.then ?_
            refine TC.seq ?_
            refine TC.region ?_
            refine TL.mv (.int _ _) rfl rfl rfl ?_
            refine TL.mv (.int _ _) rfl rfl rfl ?_
            refine TL.callD [] [] slots_ok ⟨rfl, rfl, trivial⟩ trivial fc_c15 rfl rfl rfl rfl rfl trivial ?_
            refine TL.mv (.int _ _) rfl rfl rfl ?_
            refine TL.mv (.int _ _) rfl rfl rfl ?_
            refine TL.min2 rfl rfl rfl rfl ?_
            refine TL.eqlT rfl rfl (by omega) rfl rfl ?_
            refine TL.mv (.bool true) rfl rfl rfl ?_
            refine TL.mv (.int _ _) rfl rfl rfl ?_
            refine TL.mv (.int _ _) rfl rfl rfl ?_
            refine TL.callD [] [] (ask_ok (by omega)) ⟨rfl, rfl, trivial⟩ trivial fc_c16 rfl rfl rfl rfl rfl trivial ?_
            refine TL.mv (.int _ _) rfl rfl rfl ?_
            refine TL.add _ rfl rfl (wr64 (by omega)) rfl rfl ?_
            refine TL.mul _ rfl rfl (wr64 (by omega)) rfl rfl ?_
            refine TL.mv (.int _ _) rfl rfl rfl ?_
            refine TL.add _ rfl rfl (wr64 (by omega)) rfl rfl ?_
            refine TL.mul _ rfl rfl (wr64 (by have := mul_bd (a := 12 * (a + 1)) (A := 12582924) (b := b + 1) (B := 1048577) (by omega) (by omega) (by omega) (by omega); omega)) rfl rfl ?_
            refine TL.eqlT rfl rfl (by rw [if_neg (by omega)]; rw [show 6 * (2 * a + 2) = 12 * (a + 1) by omega]) rfl rfl ?_
            refine TL.pickT (.bool true) rfl rfl rfl rfl ?_
            refine TL.mv (.bool true) rfl rfl rfl ?_
            refine TL.callD [] [] awake_ok trivial trivial fc_c13 rfl rfl rfl rfl rfl trivial ?_
            refine TL.pickT (.bool _) rfl rfl rfl rfl ?_
            refine TL.asg (.bool _) rfl rfl rfl ?_
            refine TL.done ?_
            refine TQ.then ?_
            refine TC.ret ?_
            refine FQ.ret1 (v := (.bool _)) (Bs := []) [] rfl rfl rfl trivial ?_
            exact ⟨rfl, rfl⟩
  · skip
    refine TL.not false true rfl rfl rfl rfl ?_
    refine TL.done ?_
    refine TQ.then ?_
    refine TC.condT rfl ?_
    refine TC.seq ?_
    refine TC.draw [(0, true), (2, true), (5, true), (8, true), (11, true), (14, true), (1, false), (3, false), (4, true), (6, false), (7, true), (9, false), (10, true), (12, false), (13, true), (15, false), (16, true), (17, true), (18, true), (19, false), (20, true), (21, true)] [0] fc_m (by kernel_rfl) ?_
    refine TL.ldA 0 3 [_, _, _] rfl rfl rfl fc_a23_3 rfl rfl ?_
    refine TL.ldA 0 3 [_, _, _] rfl rfl rfl fc_a23_3 rfl rfl ?_
    refine TL.ldA 0 3 [_, _, _] rfl rfl rfl fc_a23_3 rfl rfl ?_
    refine TL.ldA 0 3 [_, _, _] rfl rfl rfl fc_a23_3 rfl rfl ?_
    refine TL.ldA 0 3 [_, _, _] rfl rfl rfl fc_a23_3 rfl rfl ?_
    refine TL.ldA 0 3 [_, _, _] rfl rfl rfl fc_a23_3 rfl rfl ?_
    refine TL.callD [] [] (FnD.iteN (nodes_ok hV hS hT) q1) ⟨rfl, trivial⟩ trivial fc_c7 rfl rfl rfl rfl rfl ⟨rfl, trivial⟩ ?_
    refine TL.callD [] [] (FnD.iteN (climb_ok hV hS hT) q1) ⟨rfl, trivial⟩ trivial fc_c8 rfl rfl rfl rfl rfl ⟨rfl, trivial⟩ ?_
    refine TL.add _ rfl rfl (wr64 (by omega)) rfl rfl ?_
    refine TL.callD [] [] (FnD.iteN (row_ok hV hS hT) q1) ⟨rfl, trivial⟩ trivial fc_c9 rfl rfl rfl rfl rfl ⟨rfl, trivial⟩ ?_
    refine TL.add _ rfl rfl (wr64 (by omega)) rfl rfl ?_
    refine TL.callD [] [] (FnD.iteN (alone_ok hV hS hT) q1) ⟨rfl, trivial⟩ trivial fc_c10 rfl rfl rfl rfl rfl ⟨rfl, trivial⟩ ?_
    refine TL.add _ rfl rfl (wr64 (by omega)) rfl rfl ?_
    refine TL.callD [] [] (FnD.iteN (rounds_ok hV hS hT) q1) ⟨rfl, trivial⟩ trivial fc_c11 rfl rfl rfl rfl rfl ⟨rfl, trivial⟩ ?_
    refine TL.add _ rfl rfl (wr64 (by omega)) rfl rfl ?_
    refine TL.callD [] [] (FnD.iteN (steps_ok hV hS hT) q1) ⟨rfl, trivial⟩ trivial fc_c12 rfl rfl rfl rfl rfl ⟨rfl, trivial⟩ ?_
    refine TL.add _ rfl rfl (wr64 (by omega)) rfl rfl ?_
    refine TL.eqlT rfl rfl (by omega) rfl rfl ?_
    refine TL.mv (.bool true) rfl rfl rfl ?_
    refine TL.callD [] [] awake_ok trivial trivial fc_c13 rfl rfl rfl rfl rfl ⟨rfl, trivial⟩ ?_
    refine TL.pickT (.bool _) rfl rfl rfl rfl ?_
    refine TL.asg (.bool _) rfl rfl rfl ?_
    refine TL.done ?_
    refine TQ.then ?_
    refine TC.ret ?_
    refine TQ.thenRet ?_
    refine FQ.ret1 (v := (.bool _)) (Bs := []) [] rfl rfl rfl trivial ?_
    exact ⟨rfl, rfl⟩

theorem grows_ok {V S T a : Int} (hV : -9223372036854775808 ≤ V ∧ V < 9223372036854775808) (hS : -9223372036854775808 ≤ S ∧ S < 9223372036854775808) (hT : -9223372036854775808 ≤ T ∧ T < 9223372036854775808) : FnD Try.prog 4 [.agg #[.int .i64 V, .int .i64 S, .int .i64 T], .int .i64 a] [] (.bool true) [] := by
  refine Fn.enter (Try.func4) rfl rfl (fun w0 R => ?_)
  refine TC.seq ?_
  refine TC.region ?_
  refine TL.boxA 0 rfl rfl rfl (fun _ => trivial) (fun b0 => ?_)
  refine TL.asg (.bool false) rfl rfl rfl ?_
  refine TL.done ?_
  refine TQ.then ?_
  refine TC.seq ?_
  refine TC.region ?_
  refine TL.ldA 0 3 [_, _, _] rfl rfl rfl fc_a23_3 rfl rfl ?_
  refine TL.alloc 1 (cs := #[.int .i64 0, .int .i64 0, .int .i64 0]) fc_z23 rfl rfl rfl (fun _ => trivial) (fun b1 => ?_)
  refine TL.stA 1 3 #[_, _, _] [_, _, _] rfl rfl rfl rfl rfl rfl rfl fc_a23_3 rfl rfl trivial ?_
  refine TL.done ?_
  refine TQ.then ?_
  refine TC.seq ?_
  refine TC.seq ?_
  refine TC.region ?_
  refine TL.mv (.int _ _) rfl rfl rfl ?_
  refine TL.done ?_
  refine TQ.then ?_
  refine TC.block ?_
  refine TC.seq ?_
  refine TC.region ?_
  refine TL.eql rfl rfl rfl rfl (fun q1 => ?_) (fun q1 => ?_)
  · skip
    refine TL.asg (.bool true) rfl rfl rfl ?_
    refine TL.done ?_
    refine TQ.then ?_
    refine TC.condT rfl ?_
    refine TC.region ?_
    refine TL.fa 0 rfl fc_f23_0_0 rfl rfl ?_
    refine TL.ld 0 (.int _ _) rfl rfl rfl fc_s3 rfl rfl ?_
    refine TL.max2 rfl rfl rfl rfl ?_
    refine TL.min2 rfl rfl rfl rfl ?_
    refine TL.add _ rfl rfl (wr64 (by omega)) rfl rfl ?_
    refine TL.fa 0 rfl fc_f23_0_0 rfl rfl ?_
    refine TL.st 1 #[_, _, _] (.int _ _) rfl rfl rfl rfl rfl rfl fc_s3 rfl rfl trivial ?_
    refine TL.done ?_
    refine TQ.inBlock ?_
    refine TQ.then ?_
    refine TC.seq ?_
    refine TC.seq ?_
    refine TC.region ?_
    refine TL.ldA 0 3 [_, _, _] rfl rfl rfl fc_a23_3 rfl rfl ?_
    refine TL.callD [] [] ref_ok ⟨rfl, trivial⟩ trivial fc_c6 rfl rfl rfl rfl rfl trivial ?_
    refine TL.callD [] [] refRight_ok ⟨rfl, trivial⟩ trivial fc_c5 rfl rfl rfl rfl rfl trivial ?_
    refine TL.casesP rfl (fun q2 => ?_) (fun q2 => ?_)
    · skip
      refine TL.not true false rfl rfl rfl rfl ?_
      refine TL.mv (.bool false) rfl rfl rfl ?_
      refine TL.ldA 1 3 [_, _, _] rfl rfl rfl fc_a23_3 rfl rfl ?_
      refine TL.callD [] [] ref_ok ⟨rfl, trivial⟩ trivial fc_c6 rfl rfl rfl rfl rfl trivial ?_
      refine TL.callD [] [] refRight_ok ⟨rfl, trivial⟩ trivial fc_c5 rfl rfl rfl rfl rfl trivial ?_
      refine TL.casesP rfl (fun q3 => ?_) (fun q3 => ?_)
      · skip
        refine TL.not true false rfl rfl rfl rfl ?_
        refine TL.pickF (.bool false) rfl rfl rfl rfl ?_
        refine TL.done ?_
        refine TQ.then ?_
        refine TC.condF rfl ?_
        refine TC.skip ?_
        refine TQ.then ?_
        refine TC.seq ?_
        refine TC.draw [(0, true), (2, true), (1, false), (3, false), (4, true), (5, true), (6, true), (8, true), (7, false), (9, false), (10, true), (11, true), (12, true), (13, true), (15, true), (14, false), (16, false), (17, true), (18, true), (19, true), (20, true), (22, true), (21, false), (23, false), (24, true), (25, true), (26, true), (27, true), (29, true), (28, false), (30, false), (31, true), (32, true), (33, true), (34, true), (36, true), (35, false), (37, false), (38, true), (39, true), (40, true), (41, true), (43, true), (42, false), (44, false), (45, true), (46, true), (47, true), (48, true), (50, true), (49, false), (51, false), (52, true), (53, true), (54, true), (55, false), (56, true), (57, true)] [0, 1] fc_m (by kernel_rfl) ?_
        refine TL.ldA 1 3 [_, _, _] rfl rfl rfl fc_a23_3 rfl rfl ?_
        refine TL.ldA 0 3 [_, _, _] rfl rfl rfl fc_a23_3 rfl rfl ?_
        refine TL.callD [] [] (FnD.iteY (nodes_ok (by omega) (by omega) (by omega)) (by assumption)) ⟨rfl, trivial⟩ trivial fc_c7 rfl rfl rfl rfl rfl ⟨rfl, rfl, trivial⟩ ?_
        refine TL.callD [] [] (FnD.iteY (nodes_ok (by omega) (by omega) (by omega)) (by assumption)) ⟨rfl, trivial⟩ trivial fc_c7 rfl rfl rfl rfl rfl ⟨rfl, rfl, trivial⟩ ?_
        refine TL.geqT rfl rfl (by omega) rfl rfl ?_
        refine TL.mv (.bool true) rfl rfl rfl ?_
        refine TL.ldA 1 3 [_, _, _] rfl rfl rfl fc_a23_3 rfl rfl ?_
        refine TL.ldA 0 3 [_, _, _] rfl rfl rfl fc_a23_3 rfl rfl ?_
        refine TL.callD [] [] (FnD.iteY (climb_ok (by omega) (by omega) (by omega)) (by assumption)) ⟨rfl, trivial⟩ trivial fc_c8 rfl rfl rfl rfl rfl ⟨rfl, rfl, trivial⟩ ?_
        refine TL.callD [] [] (FnD.iteY (climb_ok (by omega) (by omega) (by omega)) (by assumption)) ⟨rfl, trivial⟩ trivial fc_c8 rfl rfl rfl rfl rfl ⟨rfl, rfl, trivial⟩ ?_
        refine TL.geqT rfl rfl (by omega) rfl rfl ?_
        refine TL.pickT (.bool true) rfl rfl rfl rfl ?_
        refine TL.mv (.bool true) rfl rfl rfl ?_
        refine TL.ldA 1 3 [_, _, _] rfl rfl rfl fc_a23_3 rfl rfl ?_
        refine TL.ldA 0 3 [_, _, _] rfl rfl rfl fc_a23_3 rfl rfl ?_
        refine TL.callD [] [] (FnD.iteY (row_ok (by omega) (by omega) (by omega)) (by assumption)) ⟨rfl, trivial⟩ trivial fc_c9 rfl rfl rfl rfl rfl ⟨rfl, rfl, trivial⟩ ?_
        refine TL.callD [] [] (FnD.iteY (row_ok (by omega) (by omega) (by omega)) (by assumption)) ⟨rfl, trivial⟩ trivial fc_c9 rfl rfl rfl rfl rfl ⟨rfl, rfl, trivial⟩ ?_
        refine TL.geqT rfl rfl (by refine le_row ?_ ?_ ?_ ?_ <;> first | assumption | omega) rfl rfl ?_
        refine TL.pickT (.bool true) rfl rfl rfl rfl ?_
        refine TL.mv (.bool true) rfl rfl rfl ?_
        refine TL.ldA 1 3 [_, _, _] rfl rfl rfl fc_a23_3 rfl rfl ?_
        refine TL.ldA 0 3 [_, _, _] rfl rfl rfl fc_a23_3 rfl rfl ?_
        refine TL.callD [] [] (FnD.iteY (alone_ok (by omega) (by omega) (by omega)) (by assumption)) ⟨rfl, trivial⟩ trivial fc_c10 rfl rfl rfl rfl rfl ⟨rfl, rfl, trivial⟩ ?_
        refine TL.callD [] [] (FnD.iteY (alone_ok (by omega) (by omega) (by omega)) (by assumption)) ⟨rfl, trivial⟩ trivial fc_c10 rfl rfl rfl rfl rfl ⟨rfl, rfl, trivial⟩ ?_
        refine TL.geqT rfl rfl (by refine le_al (le_row ?_ ?_ ?_ ?_) ?_ ?_ <;> omega) rfl rfl ?_
        refine TL.pickT (.bool true) rfl rfl rfl rfl ?_
        refine TL.mv (.bool true) rfl rfl rfl ?_
        refine TL.ldA 1 3 [_, _, _] rfl rfl rfl fc_a23_3 rfl rfl ?_
        refine TL.ldA 0 3 [_, _, _] rfl rfl rfl fc_a23_3 rfl rfl ?_
        refine TL.callD [] [] (FnD.iteY (rounds_ok (by omega) (by omega) (by omega)) (by assumption)) ⟨rfl, trivial⟩ trivial fc_c11 rfl rfl rfl rfl rfl ⟨rfl, rfl, trivial⟩ ?_
        refine TL.callD [] [] (FnD.iteY (rounds_ok (by omega) (by omega) (by omega)) (by assumption)) ⟨rfl, trivial⟩ trivial fc_c11 rfl rfl rfl rfl rfl ⟨rfl, rfl, trivial⟩ ?_
        refine TL.geqT rfl rfl (by refine le_round ?_ ?_ ?_ ?_ ?_ <;> first | assumption | omega) rfl rfl ?_
        refine TL.pickT (.bool true) rfl rfl rfl rfl ?_
        refine TL.mv (.bool true) rfl rfl rfl ?_
        refine TL.ldA 1 3 [_, _, _] rfl rfl rfl fc_a23_3 rfl rfl ?_
        refine TL.ldA 0 3 [_, _, _] rfl rfl rfl fc_a23_3 rfl rfl ?_
        refine TL.callD [] [] (FnD.iteY (steps_ok (by omega) (by omega) (by omega)) (by assumption)) ⟨rfl, trivial⟩ trivial fc_c12 rfl rfl rfl rfl rfl ⟨rfl, rfl, trivial⟩ ?_
        refine TL.callD [] [] (FnD.iteY (steps_ok (by omega) (by omega) (by omega)) (by assumption)) ⟨rfl, trivial⟩ trivial fc_c12 rfl rfl rfl rfl rfl ⟨rfl, rfl, trivial⟩ ?_
        refine TL.geqT rfl rfl (by refine le_steps ?_ ?_ ?_ ?_ ?_ <;> first | assumption | omega) rfl rfl ?_
        refine TL.pickT (.bool true) rfl rfl rfl rfl ?_
        refine TL.mv (.bool true) rfl rfl rfl ?_
        refine TL.ldA 0 3 [_, _, _] rfl rfl rfl fc_a23_3 rfl rfl ?_
        refine TL.ldA 0 3 [_, _, _] rfl rfl rfl fc_a23_3 rfl rfl ?_
        refine TL.callD [] [] (FnD.iteY (alone_ok (by omega) (by omega) (by omega)) (by assumption)) ⟨rfl, trivial⟩ trivial fc_c10 rfl rfl rfl rfl rfl ⟨rfl, rfl, trivial⟩ ?_
        refine TL.callD [] [] (FnD.iteY (row_ok (by omega) (by omega) (by omega)) (by assumption)) ⟨rfl, trivial⟩ trivial fc_c9 rfl rfl rfl rfl rfl ⟨rfl, rfl, trivial⟩ ?_
        refine TL.gtrT rfl rfl (by omega) rfl rfl ?_
        refine TL.pickT (.bool true) rfl rfl rfl rfl ?_
        refine TL.mv (.bool true) rfl rfl rfl ?_
        refine TL.ldA 0 3 [_, _, _] rfl rfl rfl fc_a23_3 rfl rfl ?_
        refine TL.ldA 0 3 [_, _, _] rfl rfl rfl fc_a23_3 rfl rfl ?_
        refine TL.callD [] [] (FnD.iteY (steps_ok (by omega) (by omega) (by omega)) (by assumption)) ⟨rfl, trivial⟩ trivial fc_c12 rfl rfl rfl rfl rfl ⟨rfl, rfl, trivial⟩ ?_
        refine TL.callD [] [] (FnD.iteY (rounds_ok (by omega) (by omega) (by omega)) (by assumption)) ⟨rfl, trivial⟩ trivial fc_c11 rfl rfl rfl rfl rfl ⟨rfl, rfl, trivial⟩ ?_
        refine TL.geqT rfl rfl (le_self (by assumption)) rfl rfl ?_
        refine TL.pickT (.bool true) rfl rfl rfl rfl ?_
        refine TL.mv (.bool true) rfl rfl rfl ?_
        refine TL.callD [] [] awake_ok trivial trivial fc_c13 rfl rfl rfl rfl rfl ⟨rfl, rfl, trivial⟩ ?_
        refine TL.pickT (.bool _) rfl rfl rfl rfl ?_
        refine TL.asg (.bool _) rfl rfl rfl ?_
        refine TL.done ?_
        refine TQ.then ?_
        refine TC.ret ?_
        refine FQ.ret1 (v := (.bool _)) (Bs := []) [] rfl rfl rfl trivial ?_
        exact ⟨rfl, rfl⟩
      · skip
        refine TL.not false true rfl rfl rfl rfl ?_
        refine TL.pickF (.bool true) rfl rfl rfl rfl ?_
        refine TL.done ?_
        refine TQ.then ?_
        refine TC.condT rfl ?_
        refine TC.seq ?_
        refine TC.region ?_
        refine TL.callD [] [] awake_ok trivial trivial fc_c13 rfl rfl rfl rfl rfl trivial ?_
        refine TL.asg (.bool _) rfl rfl rfl ?_
        refine TL.done ?_
        refine TQ.then ?_
        refine TC.ret ?_
        refine TQ.thenRet ?_
        refine FQ.ret1 (v := (.bool _)) (Bs := []) [] rfl rfl rfl trivial ?_
        exact ⟨rfl, rfl⟩
    · skip
      refine TL.not false true rfl rfl rfl rfl ?_
      refine TL.mv (.bool true) rfl rfl rfl ?_
      refine TL.off rfl rfl ?_
      refine TL.off rfl rfl ?_
      refine TL.off rfl rfl ?_
      refine TL.off rfl rfl ?_
      refine TL.pickT (.bool true) rfl rfl rfl rfl ?_
      refine TL.done ?_
      refine TQ.then ?_
      refine TC.condT rfl ?_
      refine TC.seq ?_
      refine TC.region ?_
      refine TL.callD [] [] awake_ok trivial trivial fc_c13 rfl rfl rfl rfl rfl trivial ?_
      refine TL.asg (.bool _) rfl rfl rfl ?_
      refine TL.done ?_
      refine TQ.then ?_
      refine TC.ret ?_
      refine TQ.thenRet ?_
      refine FQ.ret1 (v := (.bool _)) (Bs := []) [] rfl rfl rfl trivial ?_
      exact ⟨rfl, rfl⟩
  · skip
    refine TL.asg (.bool false) rfl rfl rfl ?_
    refine TL.done ?_
    refine TQ.then ?_
    refine TC.condF rfl ?_
    refine TC.seq ?_
    refine TC.region ?_
    refine TL.eql rfl rfl rfl rfl (fun q2 => ?_) (fun q2 => ?_)
    · skip
      refine TL.asg (.bool true) rfl rfl rfl ?_
      refine TL.done ?_
      refine TQ.then ?_
      refine TC.condT rfl ?_
      refine TC.region ?_
      refine TL.fa 1 rfl fc_f23_1_1 rfl rfl ?_
      refine TL.ld 0 (.int _ _) rfl rfl rfl fc_s3 rfl rfl ?_
      refine TL.max2 rfl rfl rfl rfl ?_
      refine TL.min2 rfl rfl rfl rfl ?_
      refine TL.add _ rfl rfl (wr64 (by omega)) rfl rfl ?_
      refine TL.fa 1 rfl fc_f23_1_1 rfl rfl ?_
      refine TL.st 1 #[_, _, _] (.int _ _) rfl rfl rfl rfl rfl rfl fc_s3 rfl rfl trivial ?_
      refine TL.done ?_
      refine TQ.inBlock ?_
      refine TQ.then ?_
      refine TC.seq ?_
      refine TC.seq ?_
      refine TC.region ?_
      refine TL.ldA 0 3 [_, _, _] rfl rfl rfl fc_a23_3 rfl rfl ?_
      refine TL.callD [] [] ref_ok ⟨rfl, trivial⟩ trivial fc_c6 rfl rfl rfl rfl rfl trivial ?_
      refine TL.callD [] [] refRight_ok ⟨rfl, trivial⟩ trivial fc_c5 rfl rfl rfl rfl rfl trivial ?_
      refine TL.casesP rfl (fun q3 => ?_) (fun q3 => ?_)
      · skip
        refine TL.not true false rfl rfl rfl rfl ?_
        refine TL.mv (.bool false) rfl rfl rfl ?_
        refine TL.ldA 1 3 [_, _, _] rfl rfl rfl fc_a23_3 rfl rfl ?_
        refine TL.callD [] [] ref_ok ⟨rfl, trivial⟩ trivial fc_c6 rfl rfl rfl rfl rfl trivial ?_
        refine TL.callD [] [] refRight_ok ⟨rfl, trivial⟩ trivial fc_c5 rfl rfl rfl rfl rfl trivial ?_
        refine TL.casesP rfl (fun q4 => ?_) (fun q4 => ?_)
        · skip
          refine TL.not true false rfl rfl rfl rfl ?_
          refine TL.pickF (.bool false) rfl rfl rfl rfl ?_
          refine TL.done ?_
          refine TQ.then ?_
          refine TC.condF rfl ?_
          refine TC.skip ?_
          refine TQ.then ?_
          refine TC.seq ?_
          refine TC.draw [(0, true), (2, true), (1, false), (3, false), (4, true), (5, true), (6, true), (8, true), (7, false), (9, false), (10, true), (11, true), (12, true), (13, true), (15, true), (14, false), (16, false), (17, true), (18, true), (19, true), (20, true), (22, true), (21, false), (23, false), (24, true), (25, true), (26, true), (27, true), (29, true), (28, false), (30, false), (31, true), (32, true), (33, true), (34, true), (36, true), (35, false), (37, false), (38, true), (39, true), (40, true), (41, true), (43, true), (42, false), (44, false), (45, true), (46, true), (47, true), (48, true), (50, true), (49, false), (51, false), (52, true), (53, true), (54, true), (55, false), (56, true), (57, true)] [0, 1] fc_m (by kernel_rfl) ?_
          refine TL.ldA 1 3 [_, _, _] rfl rfl rfl fc_a23_3 rfl rfl ?_
          refine TL.ldA 0 3 [_, _, _] rfl rfl rfl fc_a23_3 rfl rfl ?_
          refine TL.callD [] [] (FnD.iteY (nodes_ok (by omega) (by omega) (by omega)) (by assumption)) ⟨rfl, trivial⟩ trivial fc_c7 rfl rfl rfl rfl rfl ⟨rfl, rfl, trivial⟩ ?_
          refine TL.callD [] [] (FnD.iteY (nodes_ok (by omega) (by omega) (by omega)) (by assumption)) ⟨rfl, trivial⟩ trivial fc_c7 rfl rfl rfl rfl rfl ⟨rfl, rfl, trivial⟩ ?_
          refine TL.geqT rfl rfl (by omega) rfl rfl ?_
          refine TL.mv (.bool true) rfl rfl rfl ?_
          refine TL.ldA 1 3 [_, _, _] rfl rfl rfl fc_a23_3 rfl rfl ?_
          refine TL.ldA 0 3 [_, _, _] rfl rfl rfl fc_a23_3 rfl rfl ?_
          refine TL.callD [] [] (FnD.iteY (climb_ok (by omega) (by omega) (by omega)) (by assumption)) ⟨rfl, trivial⟩ trivial fc_c8 rfl rfl rfl rfl rfl ⟨rfl, rfl, trivial⟩ ?_
          refine TL.callD [] [] (FnD.iteY (climb_ok (by omega) (by omega) (by omega)) (by assumption)) ⟨rfl, trivial⟩ trivial fc_c8 rfl rfl rfl rfl rfl ⟨rfl, rfl, trivial⟩ ?_
          refine TL.geqT rfl rfl (by omega) rfl rfl ?_
          refine TL.pickT (.bool true) rfl rfl rfl rfl ?_
          refine TL.mv (.bool true) rfl rfl rfl ?_
          refine TL.ldA 1 3 [_, _, _] rfl rfl rfl fc_a23_3 rfl rfl ?_
          refine TL.ldA 0 3 [_, _, _] rfl rfl rfl fc_a23_3 rfl rfl ?_
          refine TL.callD [] [] (FnD.iteY (row_ok (by omega) (by omega) (by omega)) (by assumption)) ⟨rfl, trivial⟩ trivial fc_c9 rfl rfl rfl rfl rfl ⟨rfl, rfl, trivial⟩ ?_
          refine TL.callD [] [] (FnD.iteY (row_ok (by omega) (by omega) (by omega)) (by assumption)) ⟨rfl, trivial⟩ trivial fc_c9 rfl rfl rfl rfl rfl ⟨rfl, rfl, trivial⟩ ?_
          refine TL.geqT rfl rfl (by refine le_row ?_ ?_ ?_ ?_ <;> first | assumption | omega) rfl rfl ?_
          refine TL.pickT (.bool true) rfl rfl rfl rfl ?_
          refine TL.mv (.bool true) rfl rfl rfl ?_
          refine TL.ldA 1 3 [_, _, _] rfl rfl rfl fc_a23_3 rfl rfl ?_
          refine TL.ldA 0 3 [_, _, _] rfl rfl rfl fc_a23_3 rfl rfl ?_
          refine TL.callD [] [] (FnD.iteY (alone_ok (by omega) (by omega) (by omega)) (by assumption)) ⟨rfl, trivial⟩ trivial fc_c10 rfl rfl rfl rfl rfl ⟨rfl, rfl, trivial⟩ ?_
          refine TL.callD [] [] (FnD.iteY (alone_ok (by omega) (by omega) (by omega)) (by assumption)) ⟨rfl, trivial⟩ trivial fc_c10 rfl rfl rfl rfl rfl ⟨rfl, rfl, trivial⟩ ?_
          refine TL.geqT rfl rfl (by refine le_al (le_row ?_ ?_ ?_ ?_) ?_ ?_ <;> omega) rfl rfl ?_
          refine TL.pickT (.bool true) rfl rfl rfl rfl ?_
          refine TL.mv (.bool true) rfl rfl rfl ?_
          refine TL.ldA 1 3 [_, _, _] rfl rfl rfl fc_a23_3 rfl rfl ?_
          refine TL.ldA 0 3 [_, _, _] rfl rfl rfl fc_a23_3 rfl rfl ?_
          refine TL.callD [] [] (FnD.iteY (rounds_ok (by omega) (by omega) (by omega)) (by assumption)) ⟨rfl, trivial⟩ trivial fc_c11 rfl rfl rfl rfl rfl ⟨rfl, rfl, trivial⟩ ?_
          refine TL.callD [] [] (FnD.iteY (rounds_ok (by omega) (by omega) (by omega)) (by assumption)) ⟨rfl, trivial⟩ trivial fc_c11 rfl rfl rfl rfl rfl ⟨rfl, rfl, trivial⟩ ?_
          refine TL.geqT rfl rfl (by refine le_round ?_ ?_ ?_ ?_ ?_ <;> first | assumption | omega) rfl rfl ?_
          refine TL.pickT (.bool true) rfl rfl rfl rfl ?_
          refine TL.mv (.bool true) rfl rfl rfl ?_
          refine TL.ldA 1 3 [_, _, _] rfl rfl rfl fc_a23_3 rfl rfl ?_
          refine TL.ldA 0 3 [_, _, _] rfl rfl rfl fc_a23_3 rfl rfl ?_
          refine TL.callD [] [] (FnD.iteY (steps_ok (by omega) (by omega) (by omega)) (by assumption)) ⟨rfl, trivial⟩ trivial fc_c12 rfl rfl rfl rfl rfl ⟨rfl, rfl, trivial⟩ ?_
          refine TL.callD [] [] (FnD.iteY (steps_ok (by omega) (by omega) (by omega)) (by assumption)) ⟨rfl, trivial⟩ trivial fc_c12 rfl rfl rfl rfl rfl ⟨rfl, rfl, trivial⟩ ?_
          refine TL.geqT rfl rfl (by refine le_steps ?_ ?_ ?_ ?_ ?_ <;> first | assumption | omega) rfl rfl ?_
          refine TL.pickT (.bool true) rfl rfl rfl rfl ?_
          refine TL.mv (.bool true) rfl rfl rfl ?_
          refine TL.ldA 0 3 [_, _, _] rfl rfl rfl fc_a23_3 rfl rfl ?_
          refine TL.ldA 0 3 [_, _, _] rfl rfl rfl fc_a23_3 rfl rfl ?_
          refine TL.callD [] [] (FnD.iteY (alone_ok (by omega) (by omega) (by omega)) (by assumption)) ⟨rfl, trivial⟩ trivial fc_c10 rfl rfl rfl rfl rfl ⟨rfl, rfl, trivial⟩ ?_
          refine TL.callD [] [] (FnD.iteY (row_ok (by omega) (by omega) (by omega)) (by assumption)) ⟨rfl, trivial⟩ trivial fc_c9 rfl rfl rfl rfl rfl ⟨rfl, rfl, trivial⟩ ?_
          refine TL.gtrT rfl rfl (by omega) rfl rfl ?_
          refine TL.pickT (.bool true) rfl rfl rfl rfl ?_
          refine TL.mv (.bool true) rfl rfl rfl ?_
          refine TL.ldA 0 3 [_, _, _] rfl rfl rfl fc_a23_3 rfl rfl ?_
          refine TL.ldA 0 3 [_, _, _] rfl rfl rfl fc_a23_3 rfl rfl ?_
          refine TL.callD [] [] (FnD.iteY (steps_ok (by omega) (by omega) (by omega)) (by assumption)) ⟨rfl, trivial⟩ trivial fc_c12 rfl rfl rfl rfl rfl ⟨rfl, rfl, trivial⟩ ?_
          refine TL.callD [] [] (FnD.iteY (rounds_ok (by omega) (by omega) (by omega)) (by assumption)) ⟨rfl, trivial⟩ trivial fc_c11 rfl rfl rfl rfl rfl ⟨rfl, rfl, trivial⟩ ?_
          refine TL.geqT rfl rfl (le_self (by assumption)) rfl rfl ?_
          refine TL.pickT (.bool true) rfl rfl rfl rfl ?_
          refine TL.mv (.bool true) rfl rfl rfl ?_
          refine TL.callD [] [] awake_ok trivial trivial fc_c13 rfl rfl rfl rfl rfl ⟨rfl, rfl, trivial⟩ ?_
          refine TL.pickT (.bool _) rfl rfl rfl rfl ?_
          refine TL.asg (.bool _) rfl rfl rfl ?_
          refine TL.done ?_
          refine TQ.then ?_
          refine TC.ret ?_
          refine FQ.ret1 (v := (.bool _)) (Bs := []) [] rfl rfl rfl trivial ?_
          exact ⟨rfl, rfl⟩
        · skip
          refine TL.not false true rfl rfl rfl rfl ?_
          refine TL.pickF (.bool true) rfl rfl rfl rfl ?_
          refine TL.done ?_
          refine TQ.then ?_
          refine TC.condT rfl ?_
          refine TC.seq ?_
          refine TC.region ?_
          refine TL.callD [] [] awake_ok trivial trivial fc_c13 rfl rfl rfl rfl rfl trivial ?_
          refine TL.asg (.bool _) rfl rfl rfl ?_
          refine TL.done ?_
          refine TQ.then ?_
          refine TC.ret ?_
          refine TQ.thenRet ?_
          refine FQ.ret1 (v := (.bool _)) (Bs := []) [] rfl rfl rfl trivial ?_
          exact ⟨rfl, rfl⟩
      · skip
        refine TL.not false true rfl rfl rfl rfl ?_
        refine TL.mv (.bool true) rfl rfl rfl ?_
        refine TL.off rfl rfl ?_
        refine TL.off rfl rfl ?_
        refine TL.off rfl rfl ?_
        refine TL.off rfl rfl ?_
        refine TL.pickT (.bool true) rfl rfl rfl rfl ?_
        refine TL.done ?_
        refine TQ.then ?_
        refine TC.condT rfl ?_
        refine TC.seq ?_
        refine TC.region ?_
        refine TL.callD [] [] awake_ok trivial trivial fc_c13 rfl rfl rfl rfl rfl trivial ?_
        refine TL.asg (.bool _) rfl rfl rfl ?_
        refine TL.done ?_
        refine TQ.then ?_
        refine TC.ret ?_
        refine TQ.thenRet ?_
        refine FQ.ret1 (v := (.bool _)) (Bs := []) [] rfl rfl rfl trivial ?_
        exact ⟨rfl, rfl⟩
    · skip
      refine TL.asg (.bool false) rfl rfl rfl ?_
      refine TL.done ?_
      refine TQ.then ?_
      refine TC.condF rfl ?_
      refine TC.region ?_
      refine TL.fa 2 rfl fc_f23_2_2 rfl rfl ?_
      refine TL.ld 0 (.int _ _) rfl rfl rfl fc_s3 rfl rfl ?_
      refine TL.max2 rfl rfl rfl rfl ?_
      refine TL.min2 rfl rfl rfl rfl ?_
      refine TL.add _ rfl rfl (wr64 (by omega)) rfl rfl ?_
      refine TL.fa 2 rfl fc_f23_2_2 rfl rfl ?_
      refine TL.st 1 #[_, _, _] (.int _ _) rfl rfl rfl rfl rfl rfl fc_s3 rfl rfl trivial ?_
      refine TL.done ?_
      refine TQ.inBlock ?_
      refine TQ.then ?_
      refine TC.seq ?_
      refine TC.seq ?_
      refine TC.region ?_
      refine TL.ldA 0 3 [_, _, _] rfl rfl rfl fc_a23_3 rfl rfl ?_
      refine TL.callD [] [] ref_ok ⟨rfl, trivial⟩ trivial fc_c6 rfl rfl rfl rfl rfl trivial ?_
      refine TL.callD [] [] refRight_ok ⟨rfl, trivial⟩ trivial fc_c5 rfl rfl rfl rfl rfl trivial ?_
      refine TL.casesP rfl (fun q3 => ?_) (fun q3 => ?_)
      · skip
        refine TL.not true false rfl rfl rfl rfl ?_
        refine TL.mv (.bool false) rfl rfl rfl ?_
        refine TL.ldA 1 3 [_, _, _] rfl rfl rfl fc_a23_3 rfl rfl ?_
        refine TL.callD [] [] ref_ok ⟨rfl, trivial⟩ trivial fc_c6 rfl rfl rfl rfl rfl trivial ?_
        refine TL.callD [] [] refRight_ok ⟨rfl, trivial⟩ trivial fc_c5 rfl rfl rfl rfl rfl trivial ?_
        refine TL.casesP rfl (fun q4 => ?_) (fun q4 => ?_)
        · skip
          refine TL.not true false rfl rfl rfl rfl ?_
          refine TL.pickF (.bool false) rfl rfl rfl rfl ?_
          refine TL.done ?_
          refine TQ.then ?_
          refine TC.condF rfl ?_
          refine TC.skip ?_
          refine TQ.then ?_
          refine TC.seq ?_
          refine TC.draw [(0, true), (2, true), (1, false), (3, false), (4, true), (5, true), (6, true), (8, true), (7, false), (9, false), (10, true), (11, true), (12, true), (13, true), (15, true), (14, false), (16, false), (17, true), (18, true), (19, true), (20, true), (22, true), (21, false), (23, false), (24, true), (25, true), (26, true), (27, true), (29, true), (28, false), (30, false), (31, true), (32, true), (33, true), (34, true), (36, true), (35, false), (37, false), (38, true), (39, true), (40, true), (41, true), (43, true), (42, false), (44, false), (45, true), (46, true), (47, true), (48, true), (50, true), (49, false), (51, false), (52, true), (53, true), (54, true), (55, false), (56, true), (57, true)] [0, 1] fc_m (by kernel_rfl) ?_
          refine TL.ldA 1 3 [_, _, _] rfl rfl rfl fc_a23_3 rfl rfl ?_
          refine TL.ldA 0 3 [_, _, _] rfl rfl rfl fc_a23_3 rfl rfl ?_
          refine TL.callD [] [] (FnD.iteY (nodes_ok (by omega) (by omega) (by omega)) (by assumption)) ⟨rfl, trivial⟩ trivial fc_c7 rfl rfl rfl rfl rfl ⟨rfl, rfl, trivial⟩ ?_
          refine TL.callD [] [] (FnD.iteY (nodes_ok (by omega) (by omega) (by omega)) (by assumption)) ⟨rfl, trivial⟩ trivial fc_c7 rfl rfl rfl rfl rfl ⟨rfl, rfl, trivial⟩ ?_
          refine TL.geqT rfl rfl (by omega) rfl rfl ?_
          refine TL.mv (.bool true) rfl rfl rfl ?_
          refine TL.ldA 1 3 [_, _, _] rfl rfl rfl fc_a23_3 rfl rfl ?_
          refine TL.ldA 0 3 [_, _, _] rfl rfl rfl fc_a23_3 rfl rfl ?_
          refine TL.callD [] [] (FnD.iteY (climb_ok (by omega) (by omega) (by omega)) (by assumption)) ⟨rfl, trivial⟩ trivial fc_c8 rfl rfl rfl rfl rfl ⟨rfl, rfl, trivial⟩ ?_
          refine TL.callD [] [] (FnD.iteY (climb_ok (by omega) (by omega) (by omega)) (by assumption)) ⟨rfl, trivial⟩ trivial fc_c8 rfl rfl rfl rfl rfl ⟨rfl, rfl, trivial⟩ ?_
          refine TL.geqT rfl rfl (by omega) rfl rfl ?_
          refine TL.pickT (.bool true) rfl rfl rfl rfl ?_
          refine TL.mv (.bool true) rfl rfl rfl ?_
          refine TL.ldA 1 3 [_, _, _] rfl rfl rfl fc_a23_3 rfl rfl ?_
          refine TL.ldA 0 3 [_, _, _] rfl rfl rfl fc_a23_3 rfl rfl ?_
          refine TL.callD [] [] (FnD.iteY (row_ok (by omega) (by omega) (by omega)) (by assumption)) ⟨rfl, trivial⟩ trivial fc_c9 rfl rfl rfl rfl rfl ⟨rfl, rfl, trivial⟩ ?_
          refine TL.callD [] [] (FnD.iteY (row_ok (by omega) (by omega) (by omega)) (by assumption)) ⟨rfl, trivial⟩ trivial fc_c9 rfl rfl rfl rfl rfl ⟨rfl, rfl, trivial⟩ ?_
          refine TL.geqT rfl rfl (by refine le_row ?_ ?_ ?_ ?_ <;> first | assumption | omega) rfl rfl ?_
          refine TL.pickT (.bool true) rfl rfl rfl rfl ?_
          refine TL.mv (.bool true) rfl rfl rfl ?_
          refine TL.ldA 1 3 [_, _, _] rfl rfl rfl fc_a23_3 rfl rfl ?_
          refine TL.ldA 0 3 [_, _, _] rfl rfl rfl fc_a23_3 rfl rfl ?_
          refine TL.callD [] [] (FnD.iteY (alone_ok (by omega) (by omega) (by omega)) (by assumption)) ⟨rfl, trivial⟩ trivial fc_c10 rfl rfl rfl rfl rfl ⟨rfl, rfl, trivial⟩ ?_
          refine TL.callD [] [] (FnD.iteY (alone_ok (by omega) (by omega) (by omega)) (by assumption)) ⟨rfl, trivial⟩ trivial fc_c10 rfl rfl rfl rfl rfl ⟨rfl, rfl, trivial⟩ ?_
          refine TL.geqT rfl rfl (by refine le_al (le_row ?_ ?_ ?_ ?_) ?_ ?_ <;> omega) rfl rfl ?_
          refine TL.pickT (.bool true) rfl rfl rfl rfl ?_
          refine TL.mv (.bool true) rfl rfl rfl ?_
          refine TL.ldA 1 3 [_, _, _] rfl rfl rfl fc_a23_3 rfl rfl ?_
          refine TL.ldA 0 3 [_, _, _] rfl rfl rfl fc_a23_3 rfl rfl ?_
          refine TL.callD [] [] (FnD.iteY (rounds_ok (by omega) (by omega) (by omega)) (by assumption)) ⟨rfl, trivial⟩ trivial fc_c11 rfl rfl rfl rfl rfl ⟨rfl, rfl, trivial⟩ ?_
          refine TL.callD [] [] (FnD.iteY (rounds_ok (by omega) (by omega) (by omega)) (by assumption)) ⟨rfl, trivial⟩ trivial fc_c11 rfl rfl rfl rfl rfl ⟨rfl, rfl, trivial⟩ ?_
          refine TL.geqT rfl rfl (by refine le_round ?_ ?_ ?_ ?_ ?_ <;> first | assumption | omega) rfl rfl ?_
          refine TL.pickT (.bool true) rfl rfl rfl rfl ?_
          refine TL.mv (.bool true) rfl rfl rfl ?_
          refine TL.ldA 1 3 [_, _, _] rfl rfl rfl fc_a23_3 rfl rfl ?_
          refine TL.ldA 0 3 [_, _, _] rfl rfl rfl fc_a23_3 rfl rfl ?_
          refine TL.callD [] [] (FnD.iteY (steps_ok (by omega) (by omega) (by omega)) (by assumption)) ⟨rfl, trivial⟩ trivial fc_c12 rfl rfl rfl rfl rfl ⟨rfl, rfl, trivial⟩ ?_
          refine TL.callD [] [] (FnD.iteY (steps_ok (by omega) (by omega) (by omega)) (by assumption)) ⟨rfl, trivial⟩ trivial fc_c12 rfl rfl rfl rfl rfl ⟨rfl, rfl, trivial⟩ ?_
          refine TL.geqT rfl rfl (by refine le_steps ?_ ?_ ?_ ?_ ?_ <;> first | assumption | omega) rfl rfl ?_
          refine TL.pickT (.bool true) rfl rfl rfl rfl ?_
          refine TL.mv (.bool true) rfl rfl rfl ?_
          refine TL.ldA 0 3 [_, _, _] rfl rfl rfl fc_a23_3 rfl rfl ?_
          refine TL.ldA 0 3 [_, _, _] rfl rfl rfl fc_a23_3 rfl rfl ?_
          refine TL.callD [] [] (FnD.iteY (alone_ok (by omega) (by omega) (by omega)) (by assumption)) ⟨rfl, trivial⟩ trivial fc_c10 rfl rfl rfl rfl rfl ⟨rfl, rfl, trivial⟩ ?_
          refine TL.callD [] [] (FnD.iteY (row_ok (by omega) (by omega) (by omega)) (by assumption)) ⟨rfl, trivial⟩ trivial fc_c9 rfl rfl rfl rfl rfl ⟨rfl, rfl, trivial⟩ ?_
          refine TL.gtrT rfl rfl (by omega) rfl rfl ?_
          refine TL.pickT (.bool true) rfl rfl rfl rfl ?_
          refine TL.mv (.bool true) rfl rfl rfl ?_
          refine TL.ldA 0 3 [_, _, _] rfl rfl rfl fc_a23_3 rfl rfl ?_
          refine TL.ldA 0 3 [_, _, _] rfl rfl rfl fc_a23_3 rfl rfl ?_
          refine TL.callD [] [] (FnD.iteY (steps_ok (by omega) (by omega) (by omega)) (by assumption)) ⟨rfl, trivial⟩ trivial fc_c12 rfl rfl rfl rfl rfl ⟨rfl, rfl, trivial⟩ ?_
          refine TL.callD [] [] (FnD.iteY (rounds_ok (by omega) (by omega) (by omega)) (by assumption)) ⟨rfl, trivial⟩ trivial fc_c11 rfl rfl rfl rfl rfl ⟨rfl, rfl, trivial⟩ ?_
          refine TL.geqT rfl rfl (le_self (by assumption)) rfl rfl ?_
          refine TL.pickT (.bool true) rfl rfl rfl rfl ?_
          refine TL.mv (.bool true) rfl rfl rfl ?_
          refine TL.callD [] [] awake_ok trivial trivial fc_c13 rfl rfl rfl rfl rfl ⟨rfl, rfl, trivial⟩ ?_
          refine TL.pickT (.bool _) rfl rfl rfl rfl ?_
          refine TL.asg (.bool _) rfl rfl rfl ?_
          refine TL.done ?_
          refine TQ.then ?_
          refine TC.ret ?_
          refine FQ.ret1 (v := (.bool _)) (Bs := []) [] rfl rfl rfl trivial ?_
          exact ⟨rfl, rfl⟩
        · skip
          refine TL.not false true rfl rfl rfl rfl ?_
          refine TL.pickF (.bool true) rfl rfl rfl rfl ?_
          refine TL.done ?_
          refine TQ.then ?_
          refine TC.condT rfl ?_
          refine TC.seq ?_
          refine TC.region ?_
          refine TL.callD [] [] awake_ok trivial trivial fc_c13 rfl rfl rfl rfl rfl trivial ?_
          refine TL.asg (.bool _) rfl rfl rfl ?_
          refine TL.done ?_
          refine TQ.then ?_
          refine TC.ret ?_
          refine TQ.thenRet ?_
          refine FQ.ret1 (v := (.bool _)) (Bs := []) [] rfl rfl rfl trivial ?_
          exact ⟨rfl, rfl⟩
      · skip
        refine TL.not false true rfl rfl rfl rfl ?_
        refine TL.mv (.bool true) rfl rfl rfl ?_
        refine TL.off rfl rfl ?_
        refine TL.off rfl rfl ?_
        refine TL.off rfl rfl ?_
        refine TL.off rfl rfl ?_
        refine TL.pickT (.bool true) rfl rfl rfl rfl ?_
        refine TL.done ?_
        refine TQ.then ?_
        refine TC.condT rfl ?_
        refine TC.seq ?_
        refine TC.region ?_
        refine TL.callD [] [] awake_ok trivial trivial fc_c13 rfl rfl rfl rfl rfl trivial ?_
        refine TL.asg (.bool _) rfl rfl rfl ?_
        refine TL.done ?_
        refine TQ.then ?_
        refine TC.ret ?_
        refine TQ.thenRet ?_
        refine FQ.ret1 (v := (.bool _)) (Bs := []) [] rfl rfl rfl trivial ?_
        exact ⟨rfl, rfl⟩

end Go.Proofs.Ytejammifkafmeaa
