import Derived.Test.YtfmjfdbmpkcndaaGreatEngD
import Derived.Test.YtfmjfdbmpkcndaaGreatProg
import Derived.KernelRfl
import Derived.Tactics2
import Derived.StillTactics
import Derived.Laws.Tables
set_option linter.unusedVariables false
set_option linter.unusedSimpArgs false
set_option maxRecDepth 20000
namespace Go.Proofs.YtfmjfdbmpkcndaaGreat
open Go.Eng Go.Tm
open Go.Eng Go.Tm
abbrev layV (l : Lay) : Value := .agg #[.int .i64 l.V, .int .i64 l.S, .int .i64 l.T]
abbrev thingV (t : Thing) : Value := .agg #[.bool t.arc, .int .i64 t.level, .int .i64 t.vertex, .int .i64 t.slot, .int .i64 t.side]
abbrev wdV (w : Wd) : Value := .agg #[.int .i64 w.old, .int .i64 w.new, .int .i64 w.thread, .int .i64 w.tag]
theorem levI_bd {x : Int} (_h0 : 0 ≤ x) (_h1 : x ≤ 16) : 0 ≤ levI x ∧ levI x ≤ 5 := by
  unfold levI
  repeat' split
  all_goals omega
theorem lenTab {s : ByteArray} {x : Int} (h0 : 0 ≤ x) (h1 : x ≤ 16) (hs : (List.range 17).map (fun i => (s[i]?).map (·.toNat)) = [0, 1, 2, 2, 3, 3, 3, 3, 4, 4, 4, 4, 4, 4, 4, 4, 5].map some) : (s[x.toNat]?).map (fun b => (b.toNat : Int)) = some (levI x) := by
  have hx : x.toNat < 17 := by omega
  have h2 := congrArg (fun l => l[x.toNat]?) hs
  simp only [List.getElem?_map, List.getElem?_range hx, Option.map_some] at h2
  have h3 : x = (x.toNat : Int) := by omega
  rw [h3, Int.toNat_natCast]
  generalize x.toNat = i at *
  have : i = 0 ∨ i = 1 ∨ i = 2 ∨ i = 3 ∨ i = 4 ∨ i = 5 ∨ i = 6 ∨ i = 7 ∨ i = 8 ∨ i = 9 ∨ i = 10 ∨ i = 11 ∨ i = 12 ∨ i = 13 ∨ i = 14 ∨ i = 15 ∨ i = 16 := by omega
  cases hb : s[i]? with
  | none => rw [hb] at h2; rcases this with rfl | rfl | rfl | rfl | rfl | rfl | rfl | rfl | rfl | rfl | rfl | rfl | rfl | rfl | rfl | rfl | rfl <;> simp at h2
  | some b => rw [hb] at h2; rcases this with rfl | rfl | rfl | rfl | rfl | rfl | rfl | rfl | rfl | rfl | rfl | rfl | rfl | rfl | rfl | rfl | rfl <;> simp at h2 <;> simp [h2, levI]
theorem lok_bds {l : Lay} (h : l.Ok) : 1 ≤ (l.V : Int) ∧ (l.V : Int) ≤ 16 ∧ (l.S : Int) ≤ 48 ∧ 1 ≤ (l.T : Int) ∧ (l.T : Int) ≤ 8 := by
  obtain ⟨h1, h2, h3, h4, h5⟩ := h; omega
theorem lev_bd {l : Lay} (h : l.Ok) : 1 ≤ l.lev ∧ l.lev ≤ 5 := by
  have := lok_bds h
  unfold Lay.lev levI
  repeat' split
  all_goals omega
theorem lay_bds {l : Lay} (h : l.Ok) : (1 ≤ (l.V : Int) ∧ (l.V : Int) ≤ 16 ∧ (l.S : Int) ≤ 48 ∧ 1 ≤ (l.T : Int) ∧ (l.T : Int) ≤ 8) ∧ (1 ≤ l.lev ∧ l.lev ≤ 5) ∧ l.arcs = 2 * l.lev ∧ l.free = l.T ∧ (0 ≤ l.lev * l.V ∧ l.lev * l.V ≤ 5 * 16) ∧ (0 ≤ (l.V : Int) * l.lev ∧ (l.V : Int) * l.lev ≤ 16 * 5) ∧
    (0 ≤ (l.S : Int) * l.arcs ∧ (l.S : Int) * l.arcs ≤ 48 * 10) ∧ l.nodes = l.lev * l.V + l.S * l.arcs ∧ l.heads = l.T + 1 + l.S * 7 ∧ l.edges = l.heads + l.V * l.lev ∧ (0 ≤ (l.V : Int) * (l.V - 1) ∧ (l.V : Int) * (l.V - 1) ≤ 16 * 15) ∧
    l.base = l.edges + (l.V : Int) * (l.V - 1) / 2 ∧ l.cells = l.base + l.nodes * 7 := by
  have h1 := lok_bds h
  have h2 := lev_bd h
  have h3 : l.arcs = 2 * l.lev := rfl
  exact ⟨h1, h2, h3, rfl, mul_bd (by omega) (by omega) (by omega) (by omega), mul_bd (by omega) (by omega) (by omega) (by omega), mul_bd (by omega) (by omega) (by omega) (by omega), rfl, rfl, rfl, mul_bd (by omega) (by omega) (by omega) (by omega), rfl, rfl⟩
theorem quo64 {a b : Int} (h0 : 0 ≤ a) (hb : 0 < b) (ha : a < 9223372036854775808) : IntKind.i64.wrap (a.tdiv b) = a / b := by
  rw [Int.tdiv_eq_ediv_of_nonneg h0]
  exact wr64 ⟨by have := Int.ediv_nonneg h0 (Int.le_of_lt hb); omega, by have := Int.ediv_le_self b h0; omega⟩
theorem rem64 {a b : Int} (h0 : 0 ≤ a) : a.tmod b = a % b := Int.tmod_eq_emod_of_nonneg h0
theorem edge_bd {x V : Int} (h0 : 0 ≤ x) (h1 : x < V) (h2 : V ≤ 16) : 0 ≤ x * (2 * V - x - 1) ∧ x * (2 * V - x - 1) ≤ 16 * 32 := mul_bd h0 (by omega) (by omega) (by omega)
abbrev treesV (l : Lay) (mt : TypeId) (mv : Value) (p : Pen) : Value := .agg #[.int .i64 l.V, .int .i64 l.S, .int .i64 l.T, .iface mt mv, .int .i64 p.thread, .int .i64 p.tag]
abbrev edgesV (l : Lay) (mt : TypeId) (mv : Value) : Value := .agg #[.int .i64 l.V, .int .i64 l.S, .int .i64 l.T, .iface mt mv]
abbrev adjV (l : Lay) (mt : TypeId) (mv : Value) (p : Pen) : Value := .agg #[.int .i64 l.V, .int .i64 l.S, .int .i64 l.T, .iface mt mv, .int .i64 p.thread, .int .i64 p.tag, .int .i64 l.V, .int .i64 l.S, .int .i64 l.T, .iface mt mv]
theorem lone_rng (l : Lay) (x m : Int) : 0 ≤ loneV l x m ∧ loneV l x m < 18446744073709551616 := by
  unfold loneV; split <;> exact orU_rng _ _
theorem renewV_rng {S : Type} [MemLike S] (l : Lay) (σ : S) (x m : Int) (i : Nat) : 0 ≤ (renewV l σ x m i).1 ∧ (renewV l σ x m i).1 < 18446744073709551616 := by
  cases i with
  | zero => exact lone_rng _ _ _
  | succ i => exact orU_rng _ _
abbrev edgV (e : Edg) : Value := .agg #[.int .i64 e.u, .int .i64 e.v, .int .i64 e.level, .bool e.tree]
theorem quo2 (z : Int) : IntKind.i64.wrap ((IntKind.i64.wrap z).tdiv 2) = (IntKind.i64.wrap z).tdiv 2 := by
  have h : -9223372036854775808 ≤ IntKind.i64.wrap z ∧ IntKind.i64.wrap z < 9223372036854775808 := by
    rw [IntKind.wrap_i64]; omega
  generalize IntKind.i64.wrap z = y at *
  refine wr64 ?_
  have h1 := Int.mul_tdiv_add_tmod y 2
  have h2 := Int.tmod_lt_of_pos y (show (0:Int) < 2 by omega)
  have h3 := Int.lt_tmod_of_pos y (show (0:Int) < 2 by omega)
  omega

theorem fc_u110 : (Tryz.prog.underlying 110).isSome = true := by kernel_rfl
theorem fc_i5_u8 : intB Tryz.prog 5 .u8 = true := by kernel_rfl
theorem fc_str : Tryz.prog.underlying 9 = some .string := by kernel_rfl
theorem fc_u5 : (Tryz.prog.underlying 5).isSome = true := by kernel_rfl
theorem fc_i3_i64 : intB Tryz.prog 3 .i64 = true := by kernel_rfl
theorem fc_c103 : callB Tryz.prog 103 = true := by kernel_rfl
theorem fc_f23_0_0 : fldB Tryz.prog 23 0 0 = true := by kernel_rfl
theorem fc_s3 : scalB Tryz.prog 3 = true := by kernel_rfl
theorem fc_u3 : (Tryz.prog.underlying 3).isSome = true := by kernel_rfl
theorem fc_i112_u64 : intB Tryz.prog 112 .u64 = true := by kernel_rfl
theorem fc_c61 : callB Tryz.prog 61 = true := by kernel_rfl
theorem fc_a23_3 : aggB Tryz.prog 23 3 = true := by kernel_rfl
theorem fc_c19 : callB Tryz.prog 19 = true := by kernel_rfl
theorem fc_m : Tryz.prog.follows .mixedOrders = true := by kernel_rfl
theorem fc_f23_1_1 : fldB Tryz.prog 23 1 1 = true := by kernel_rfl
theorem fc_c93 : callB Tryz.prog 93 = true := by kernel_rfl
theorem fc_c95 : callB Tryz.prog 95 = true := by kernel_rfl
theorem fc_f23_2_2 : fldB Tryz.prog 23 2 2 = true := by kernel_rfl
theorem fc_c153 : callB Tryz.prog 153 = true := by kernel_rfl
theorem fc_c127 : callB Tryz.prog 127 = true := by kernel_rfl
theorem fc_c141 : callB Tryz.prog 141 = true := by kernel_rfl
theorem fc_c131 : callB Tryz.prog 131 = true := by kernel_rfl
theorem fc_c53 : callB Tryz.prog 53 = true := by kernel_rfl
theorem fc_c92 : callB Tryz.prog 92 = true := by kernel_rfl
theorem fc_z114 : zeroV Tryz.prog 114 = some (.agg #[.bool false, .int .i64 0, .int .i64 0, .int .i64 0, .int .i64 0]) := by kernel_rfl
theorem fc_q114 : placesB Tryz.prog 114 [(0, 1), (1, 1), (2, 1), (3, 1), (4, 1)] = true := by kernel_rfl
theorem fc_a114_5 : aggB Tryz.prog 114 5 = true := by kernel_rfl
theorem fc_f184_2_2 : fldB Tryz.prog 184 2 2 = true := by kernel_rfl
theorem fc_f184_0_0 : fldB Tryz.prog 184 0 0 = true := by kernel_rfl
theorem fc_c166 : callB Tryz.prog 166 = true := by kernel_rfl
theorem fc_f184_1_1 : fldB Tryz.prog 184 1 1 = true := by kernel_rfl
theorem fc_f184_3_3 : fldB Tryz.prog 184 3 3 = true := by kernel_rfl
theorem fc_a184_4 : aggB Tryz.prog 184 4 = true := by kernel_rfl
theorem fc_c167 : callB Tryz.prog 167 = true := by kernel_rfl
theorem fc_c165 : callB Tryz.prog 165 = true := by kernel_rfl
theorem fc_i110_u64 : intB Tryz.prog 110 .u64 = true := by kernel_rfl
theorem fc_z184 : zeroV Tryz.prog 184 = some (.agg #[.int .i64 0, .int .i64 0, .int .i64 0, .int .i64 0]) := by kernel_rfl
theorem fc_c164 : callB Tryz.prog 164 = true := by kernel_rfl
theorem fc_q184 : placesB Tryz.prog 184 [(0, 1), (1, 1), (2, 1), (3, 1)] = true := by kernel_rfl
theorem fc_f41_0_0 : fldB Tryz.prog 41 0 0 = true := by kernel_rfl
theorem fc_f41_1_1 : fldB Tryz.prog 41 1 1 = true := by kernel_rfl
theorem fc_c162 : callB Tryz.prog 162 = true := by kernel_rfl
theorem fc_c155 : callB Tryz.prog 155 = true := by kernel_rfl
theorem fc_c163 : callB Tryz.prog 163 = true := by kernel_rfl
theorem fc_c154 : callB Tryz.prog 154 = true := by kernel_rfl
theorem fc_f43_1_3 : fldB Tryz.prog 43 1 3 = true := by kernel_rfl
theorem fc_s39 : scalB Tryz.prog 39 = true := by kernel_rfl
theorem fc_f43_0_0 : fldB Tryz.prog 43 0 0 = true := by kernel_rfl
theorem fc_c55 : callB Tryz.prog 55 = true := by kernel_rfl
theorem fc_c63 : callB Tryz.prog 63 = true := by kernel_rfl
theorem fc_f114_1_1 : fldB Tryz.prog 114 1 1 = true := by kernel_rfl
theorem fc_a43_6 : aggB Tryz.prog 43 6 = true := by kernel_rfl
theorem fc_c132 : callB Tryz.prog 132 = true := by kernel_rfl
theorem fc_c152 : callB Tryz.prog 152 = true := by kernel_rfl
theorem fc_c139 : callB Tryz.prog 139 = true := by kernel_rfl
theorem fc_f43_2_4 : fldB Tryz.prog 43 2 4 = true := by kernel_rfl
theorem fc_a41_2 : aggB Tryz.prog 41 2 = true := by kernel_rfl
theorem fc_c133 : callB Tryz.prog 133 = true := by kernel_rfl
theorem fc_c96 : callB Tryz.prog 96 = true := by kernel_rfl
theorem fc_f114_0_0 : fldB Tryz.prog 114 0 0 = true := by kernel_rfl
theorem fc_s4 : scalB Tryz.prog 4 = true := by kernel_rfl
theorem fc_c98 : callB Tryz.prog 98 = true := by kernel_rfl
theorem fc_z70 : zeroV Tryz.prog 70 = some (.agg #[.int .i64 0, .int .i64 0]) := by kernel_rfl
theorem fc_r70_2_3_1 : arrayB Tryz.prog 70 2 3 1 = true := by kernel_rfl
theorem fc_c146 : callB Tryz.prog 146 = true := by kernel_rfl
theorem fc_c159 : callB Tryz.prog 159 = true := by kernel_rfl
theorem fc_c97 : callB Tryz.prog 97 = true := by kernel_rfl
theorem fc_c126 : callB Tryz.prog 126 = true := by kernel_rfl
theorem fc_c150 : callB Tryz.prog 150 = true := by kernel_rfl
theorem fc_c147 : callB Tryz.prog 147 = true := by kernel_rfl
theorem fc_c148 : callB Tryz.prog 148 = true := by kernel_rfl
theorem fc_c151 : callB Tryz.prog 151 = true := by kernel_rfl
theorem fc_c161 : callB Tryz.prog 161 = true := by kernel_rfl
theorem fc_c160 : callB Tryz.prog 160 = true := by kernel_rfl
theorem fc_c149 : callB Tryz.prog 149 = true := by kernel_rfl
theorem fc_c138 : callB Tryz.prog 138 = true := by kernel_rfl
theorem fc_c140 : callB Tryz.prog 140 = true := by kernel_rfl
theorem fc_f45_0_0 : fldB Tryz.prog 45 0 0 = true := by kernel_rfl
theorem fc_c82 : callB Tryz.prog 82 = true := by kernel_rfl
theorem fc_c81 : callB Tryz.prog 81 = true := by kernel_rfl
theorem fc_c124 : callB Tryz.prog 124 = true := by kernel_rfl
theorem fc_c125 : callB Tryz.prog 125 = true := by kernel_rfl
theorem fc_c122 : callB Tryz.prog 122 = true := by kernel_rfl
theorem fc_c119 : callB Tryz.prog 119 = true := by kernel_rfl
theorem fc_c121 : callB Tryz.prog 121 = true := by kernel_rfl
theorem fc_a45_6 : aggB Tryz.prog 45 6 = true := by kernel_rfl
theorem fc_c80 : callB Tryz.prog 80 = true := by kernel_rfl
theorem fc_c123 : callB Tryz.prog 123 = true := by kernel_rfl
theorem fc_c56 : callB Tryz.prog 56 = true := by kernel_rfl
theorem fc_f47_1_3 : fldB Tryz.prog 47 1 3 = true := by kernel_rfl
theorem fc_f47_0_0 : fldB Tryz.prog 47 0 0 = true := by kernel_rfl
theorem fc_c101 : callB Tryz.prog 101 = true := by kernel_rfl
theorem fc_c129 : callB Tryz.prog 129 = true := by kernel_rfl
theorem fc_c83 : callB Tryz.prog 83 = true := by kernel_rfl
theorem fc_c128 : callB Tryz.prog 128 = true := by kernel_rfl
theorem fc_z98 : zeroV Tryz.prog 98 = some (.agg #[.int .i64 0, .int .i64 0, .int .i64 0, .bool false]) := by kernel_rfl
theorem fc_a47_4 : aggB Tryz.prog 47 4 = true := by kernel_rfl
theorem fc_c90 : callB Tryz.prog 90 = true := by kernel_rfl
theorem fc_c91 : callB Tryz.prog 91 = true := by kernel_rfl
theorem fc_q98 : placesB Tryz.prog 98 [(0, 1), (1, 1), (2, 1), (3, 1)] = true := by kernel_rfl
theorem fc_a98_4 : aggB Tryz.prog 98 4 = true := by kernel_rfl
theorem fc_f49_1_6 : fldB Tryz.prog 49 1 6 = true := by kernel_rfl
theorem fc_c157 : callB Tryz.prog 157 = true := by kernel_rfl
theorem fc_c156 : callB Tryz.prog 156 = true := by kernel_rfl
theorem fc_a49_10 : aggB Tryz.prog 49 10 = true := by kernel_rfl
theorem fc_c106 : callB Tryz.prog 106 = true := by kernel_rfl
theorem fc_c105 : callB Tryz.prog 105 = true := by kernel_rfl
theorem fc_f49_0_0 : fldB Tryz.prog 49 0 0 = true := by kernel_rfl
theorem fc_b4 : boolB Tryz.prog 4 = true := by kernel_rfl
theorem fc_c120 : callB Tryz.prog 120 = true := by kernel_rfl
theorem fc_c135 : callB Tryz.prog 135 = true := by kernel_rfl
theorem fc_c136 : callB Tryz.prog 136 = true := by kernel_rfl
theorem fc_c134 : callB Tryz.prog 134 = true := by kernel_rfl
theorem fc_c137 : callB Tryz.prog 137 = true := by kernel_rfl
theorem fc_c47 : callB Tryz.prog 47 = true := by kernel_rfl
theorem fc_f98_0_0 : fldB Tryz.prog 98 0 0 = true := by kernel_rfl
theorem fc_f98_2_2 : fldB Tryz.prog 98 2 2 = true := by kernel_rfl
theorem fc_c100 : callB Tryz.prog 100 = true := by kernel_rfl
theorem fc_c130 : callB Tryz.prog 130 = true := by kernel_rfl
theorem fc_f98_1_1 : fldB Tryz.prog 98 1 1 = true := by kernel_rfl
theorem fc_c99 : callB Tryz.prog 99 = true := by kernel_rfl
theorem fc_f51_0_0 : fldB Tryz.prog 51 0 0 = true := by kernel_rfl
theorem fc_c84 : callB Tryz.prog 84 = true := by kernel_rfl
theorem fc_c78 : callB Tryz.prog 78 = true := by kernel_rfl
theorem fc_a51_10 : aggB Tryz.prog 51 10 = true := by kernel_rfl
theorem fc_c77 : callB Tryz.prog 77 = true := by kernel_rfl
theorem fc_g98_2_2_3 : fldTB Tryz.prog 98 2 2 3 = true := by kernel_rfl
theorem fc_c79 : callB Tryz.prog 79 = true := by kernel_rfl
theorem fc_c31 : callB Tryz.prog 31 = true := by kernel_rfl
theorem fc_c58 : callB Tryz.prog 58 = true := by kernel_rfl
theorem fc_c88 : callB Tryz.prog 88 = true := by kernel_rfl
theorem fc_c104 : callB Tryz.prog 104 = true := by kernel_rfl
theorem fc_c62 : callB Tryz.prog 62 = true := by kernel_rfl
theorem fc_c27 : callB Tryz.prog 27 = true := by kernel_rfl
theorem fc_f114_2_2 : fldB Tryz.prog 114 2 2 = true := by kernel_rfl
theorem fc_c64 : callB Tryz.prog 64 = true := by kernel_rfl
theorem fc_c30 : callB Tryz.prog 30 = true := by kernel_rfl
theorem fc_c60 : callB Tryz.prog 60 = true := by kernel_rfl
theorem fc_c76 : callB Tryz.prog 76 = true := by kernel_rfl
theorem fc_q43 : placesB Tryz.prog 43 [(0, 3), (3, 1), (4, 2)] = true := by kernel_rfl
theorem fc_z43 : zeroV Tryz.prog 43 = some (.agg #[.int .i64 0, .int .i64 0, .int .i64 0, .nilIface, .int .i64 0, .int .i64 0]) := by kernel_rfl
theorem fc_q45 : placesB Tryz.prog 45 [(0, 6)] = true := by kernel_rfl
theorem fc_z45 : zeroV Tryz.prog 45 = some (.agg #[.int .i64 0, .int .i64 0, .int .i64 0, .nilIface, .int .i64 0, .int .i64 0]) := by kernel_rfl
theorem fc_q47 : placesB Tryz.prog 47 [(0, 3), (3, 1)] = true := by kernel_rfl
theorem fc_z47 : zeroV Tryz.prog 47 = some (.agg #[.int .i64 0, .int .i64 0, .int .i64 0, .nilIface]) := by kernel_rfl
theorem fc_q49 : placesB Tryz.prog 49 [(0, 6), (6, 4)] = true := by kernel_rfl
theorem fc_z49 : zeroV Tryz.prog 49 = some (.agg #[.int .i64 0, .int .i64 0, .int .i64 0, .nilIface, .int .i64 0, .int .i64 0, .int .i64 0, .int .i64 0, .int .i64 0, .nilIface]) := by kernel_rfl
theorem fc_q51 : placesB Tryz.prog 51 [(0, 10)] = true := by kernel_rfl
theorem fc_z51 : zeroV Tryz.prog 51 = some (.agg #[.int .i64 0, .int .i64 0, .int .i64 0, .nilIface, .int .i64 0, .int .i64 0, .int .i64 0, .int .i64 0, .int .i64 0, .nilIface]) := by kernel_rfl
theorem fc_c87 : callB Tryz.prog 87 = true := by kernel_rfl
theorem fc_c32 : callB Tryz.prog 32 = true := by kernel_rfl
theorem fc_c26 : callB Tryz.prog 26 = true := by kernel_rfl
theorem fc_c20 : callB Tryz.prog 20 = true := by kernel_rfl
theorem fc_c59 : callB Tryz.prog 59 = true := by kernel_rfl
theorem fc_c28 : callB Tryz.prog 28 = true := by kernel_rfl
theorem fc_f149_0_0 : fldB Tryz.prog 149 0 0 = true := by kernel_rfl
theorem fc_s24 : scalB Tryz.prog 24 = true := by kernel_rfl
theorem fc_l24_110_1 : sliceB Tryz.prog 24 110 1 = true := by kernel_rfl
theorem fc_f149_1_1 : fldB Tryz.prog 149 1 1 = true := by kernel_rfl
theorem fc_f147_0_0 : fldB Tryz.prog 147 0 0 = true := by kernel_rfl
theorem fc_c94 : callB Tryz.prog 94 = true := by kernel_rfl
theorem fc_p150 : ptrB Tryz.prog 150 = true := by kernel_rfl
theorem fc_s110 : scalB Tryz.prog 110 = true := by kernel_rfl
theorem fc_f147_1_1 : fldB Tryz.prog 147 1 1 = true := by kernel_rfl
theorem fc_f107_0_0 : fldB Tryz.prog 107 0 0 = true := by kernel_rfl
theorem fc_s37 : scalB Tryz.prog 37 = true := by kernel_rfl
theorem fc_c65 : callB Tryz.prog 65 = true := by kernel_rfl
theorem fc_c54 : callB Tryz.prog 54 = true := by kernel_rfl
theorem fc_k24_110_1 : appB Tryz.prog 24 110 1 = true := by kernel_rfl
theorem fc_z110 : zeroV Tryz.prog 110 = some (.int .u64 0) := by kernel_rfl
theorem fc_q149 : placesB Tryz.prog 149 [(0, 1), (1, 5)] = true := by kernel_rfl
theorem fc_z149 : zeroV Tryz.prog 149 = some (.agg #[.slice none 0 0, .int .i64 0, .int .i64 0, .int .i64 0, .int .i64 0, .int .i64 0]) := by kernel_rfl
theorem fc_z107 : zeroV Tryz.prog 107 = some (.agg #[.pointer none]) := by kernel_rfl
theorem fc_q107 : placesB Tryz.prog 107 [(0, 1)] = true := by kernel_rfl
theorem fc_a107_1 : aggB Tryz.prog 107 1 = true := by kernel_rfl
theorem fc_l77_3_1 : sliceB Tryz.prog 77 3 1 = true := by kernel_rfl
theorem fc_z3 : zeroV Tryz.prog 3 = some (.int .i64 0) := by kernel_rfl
theorem fc_l122_70_2 : sliceB Tryz.prog 122 70 2 = true := by kernel_rfl
theorem fc_c109 : callB Tryz.prog 109 = true := by kernel_rfl
theorem fc_k77_3_1 : appB Tryz.prog 77 3 1 = true := by kernel_rfl
theorem fc_f54_3_14 : fldB Tryz.prog 54 3 14 = true := by kernel_rfl
theorem fc_s52 : scalB Tryz.prog 52 = true := by kernel_rfl
theorem fc_l52_65_5 : sliceB Tryz.prog 52 65 5 = true := by kernel_rfl
theorem fc_a65_5 : aggB Tryz.prog 65 5 = true := by kernel_rfl
theorem fc_z65 : zeroV Tryz.prog 65 = some (.agg #[.int .i64 0, .int .i64 0, .int .i64 0, .int .i64 0, .bool false]) := by kernel_rfl
theorem fc_f65_0_0 : fldB Tryz.prog 65 0 0 = true := by kernel_rfl
theorem fc_f65_4_4 : fldB Tryz.prog 65 4 4 = true := by kernel_rfl
theorem fc_f65_3_3 : fldB Tryz.prog 65 3 3 = true := by kernel_rfl
theorem fc_f65_1_1 : fldB Tryz.prog 65 1 1 = true := by kernel_rfl
theorem fc_f65_2_2 : fldB Tryz.prog 65 2 2 = true := by kernel_rfl
theorem fc_k122_70_2 : appB Tryz.prog 122 70 2 = true := by kernel_rfl
theorem fc_c69 : callB Tryz.prog 69 = true := by kernel_rfl
theorem fc_f33_2_2 : fldB Tryz.prog 33 2 2 = true := by kernel_rfl
theorem fc_f33_3_3 : fldB Tryz.prog 33 3 3 = true := by kernel_rfl
theorem fc_c24 : callB Tryz.prog 24 = true := by kernel_rfl
theorem fc_f54_2_4 : fldB Tryz.prog 54 2 4 = true := by kernel_rfl
theorem fc_f33_1_1 : fldB Tryz.prog 33 1 1 = true := by kernel_rfl
theorem fc_q65 : placesB Tryz.prog 65 [(0, 1), (1, 1), (2, 1), (3, 1), (4, 1)] = true := by kernel_rfl
theorem fc_k52_65_5 : appB Tryz.prog 52 65 5 = true := by kernel_rfl
theorem fc_f54_0_0 : fldB Tryz.prog 54 0 0 = true := by kernel_rfl
theorem fc_z23 : zeroV Tryz.prog 23 = some (.agg #[.int .i64 0, .int .i64 0, .int .i64 0]) := by kernel_rfl
theorem fc_c23 : callB Tryz.prog 23 = true := by kernel_rfl
theorem fc_f33_0_0 : fldB Tryz.prog 33 0 0 = true := by kernel_rfl
theorem fc_a33_4 : aggB Tryz.prog 33 4 = true := by kernel_rfl
theorem fc_c57 : callB Tryz.prog 57 = true := by kernel_rfl
theorem fc_f27_0_0 : fldB Tryz.prog 27 0 0 = true := by kernel_rfl
theorem fc_c51 : callB Tryz.prog 51 = true := by kernel_rfl
theorem fc_c50 : callB Tryz.prog 50 = true := by kernel_rfl
theorem fc_p37 : ptrB Tryz.prog 37 = true := by kernel_rfl
theorem fc_q41 : placesB Tryz.prog 41 [(0, 1), (1, 1)] = true := by kernel_rfl
theorem fc_z41 : zeroV Tryz.prog 41 = some (.agg #[.int .i64 0, .int .i64 0]) := by kernel_rfl
theorem fc_c52 : callB Tryz.prog 52 = true := by kernel_rfl
theorem fc_n107 : notIface Tryz.prog 107 = true := by kernel_rfl
theorem fc_f27_1_3 : fldB Tryz.prog 27 1 3 = true := by kernel_rfl
theorem fc_q54 : placesB Tryz.prog 54 [(0, 3), (3, 1), (4, 10), (14, 1)] = true := by kernel_rfl
theorem fc_z54 : zeroV Tryz.prog 54 = some (.agg #[.int .i64 0, .int .i64 0, .int .i64 0, .pointer none, .int .i64 0, .int .i64 0, .int .i64 0, .nilIface, .int .i64 0, .int .i64 0, .int .i64 0, .int .i64 0, .int .i64 0, .nilIface, .slice none 0 0]) := by kernel_rfl
theorem fc_f57_0_0 : fldB Tryz.prog 57 0 0 = true := by kernel_rfl
theorem fc_f57_1_1 : fldB Tryz.prog 57 1 1 = true := by kernel_rfl
theorem fc_f57_2_2 : fldB Tryz.prog 57 2 2 = true := by kernel_rfl
theorem fc_z57 : zeroV Tryz.prog 57 = some (.agg #[.int .i64 0, .int .i64 0, .int .i64 0]) := by kernel_rfl
theorem fc_q57 : placesB Tryz.prog 57 [(0, 1), (1, 1), (2, 1)] = true := by kernel_rfl
theorem fc_a57_3 : aggB Tryz.prog 57 3 = true := by kernel_rfl
theorem fc_c49 : callB Tryz.prog 49 = true := by kernel_rfl
theorem fc_c48 : callB Tryz.prog 48 = true := by kernel_rfl
theorem fc_f27_2_4 : fldB Tryz.prog 27 2 4 = true := by kernel_rfl
theorem fc_s25 : scalB Tryz.prog 25 = true := by kernel_rfl
theorem fc_l25_33_4 : sliceB Tryz.prog 25 33 4 = true := by kernel_rfl
theorem fc_q23 : placesB Tryz.prog 23 [(0, 1), (1, 1), (2, 1)] = true := by kernel_rfl
theorem fc_q27 : placesB Tryz.prog 27 [(0, 3), (3, 1), (4, 1)] = true := by kernel_rfl
theorem fc_z27 : zeroV Tryz.prog 27 = some (.agg #[.int .i64 0, .int .i64 0, .int .i64 0, .slice none 0 0, .slice none 0 0]) := by kernel_rfl
theorem fc_c16 : callB Tryz.prog 16 = true := by kernel_rfl
theorem fc_p30 : ptrB Tryz.prog 30 = true := by kernel_rfl
theorem fc_q33 : placesB Tryz.prog 33 [(0, 1), (1, 1), (2, 1), (3, 1)] = true := by kernel_rfl
theorem fc_z33 : zeroV Tryz.prog 33 = some (.agg #[.int .i64 0, .int .i64 0, .int .i64 0, .int .i64 0]) := by kernel_rfl
theorem fc_c17 : callB Tryz.prog 17 = true := by kernel_rfl
theorem fc_c29 : callB Tryz.prog 29 = true := by kernel_rfl
theorem fc_a27_5 : aggB Tryz.prog 27 5 = true := by kernel_rfl
theorem fc_c14 : callB Tryz.prog 14 = true := by kernel_rfl
theorem fc_c15 : callB Tryz.prog 15 = true := by kernel_rfl
theorem fc_c68 : callB Tryz.prog 68 = true := by kernel_rfl
theorem fc_q132 : placesB Tryz.prog 132 [(0, 1), (1, 1), (2, 1), (3, 1)] = true := by kernel_rfl
theorem fc_z132 : zeroV Tryz.prog 132 = some (.agg #[.int .i64 0, .int .i64 0, .int .i64 0, .int .i64 0]) := by kernel_rfl
theorem fc_l58_132_4 : sliceB Tryz.prog 58 132 4 = true := by kernel_rfl
theorem fc_k58_132_4 : appB Tryz.prog 58 132 4 = true := by kernel_rfl
theorem fc_c108 : callB Tryz.prog 108 = true := by kernel_rfl
theorem fc_f61_3_5 : fldB Tryz.prog 61 3 5 = true := by kernel_rfl
theorem fc_s59 : scalB Tryz.prog 59 = true := by kernel_rfl
theorem fc_K59_132_3 : mapKB Tryz.prog 59 132 3 = true := by kernel_rfl
theorem fc_f61_2_4 : fldB Tryz.prog 61 2 4 = true := by kernel_rfl
theorem fc_z61 : zeroV Tryz.prog 61 = some (.agg #[.int .i64 0, .int .i64 0, .int .i64 0, .slice none 0 0, .slice none 0 0, .map none, .slice none 0 0]) := by kernel_rfl
theorem fc_c107 : callB Tryz.prog 107 = true := by kernel_rfl
theorem fc_q61 : placesB Tryz.prog 61 [(0, 3), (3, 1), (4, 1), (5, 1), (6, 1)] = true := by kernel_rfl
theorem fc_a61_7 : aggB Tryz.prog 61 7 = true := by kernel_rfl
theorem fc_f61_1_3 : fldB Tryz.prog 61 1 3 = true := by kernel_rfl
theorem fc_s58 : scalB Tryz.prog 58 = true := by kernel_rfl
theorem fc_a132_4 : aggB Tryz.prog 132 4 = true := by kernel_rfl
theorem fc_f61_0_0 : fldB Tryz.prog 61 0 0 = true := by kernel_rfl
theorem fc_c67 : callB Tryz.prog 67 = true := by kernel_rfl
theorem fc_z176 : zeroV Tryz.prog 176 = some (.agg #[.int .i64 0, .int .i64 0, .int .i64 0, .int .i64 0]) := by kernel_rfl
theorem fc_q176 : placesB Tryz.prog 176 [(0, 1), (1, 1), (2, 1), (3, 1)] = true := by kernel_rfl
theorem fc_a176_4 : aggB Tryz.prog 176 4 = true := by kernel_rfl
theorem fc_f176_0_0 : fldB Tryz.prog 176 0 0 = true := by kernel_rfl
theorem fc_f176_2_2 : fldB Tryz.prog 176 2 2 = true := by kernel_rfl
theorem fc_f176_3_3 : fldB Tryz.prog 176 3 3 = true := by kernel_rfl
theorem fc_c142 : callB Tryz.prog 142 = true := by kernel_rfl
theorem fc_g176_1_1_3 : fldTB Tryz.prog 176 1 1 3 = true := by kernel_rfl
theorem fc_f132_0_0 : fldB Tryz.prog 132 0 0 = true := by kernel_rfl
theorem fc_f132_1_1 : fldB Tryz.prog 132 1 1 = true := by kernel_rfl
theorem fc_f132_2_2 : fldB Tryz.prog 132 2 2 = true := by kernel_rfl
theorem fc_f61_4_6 : fldB Tryz.prog 61 4 6 = true := by kernel_rfl
theorem fc_eg132 : Tryz.prog.eqGuardType Tryz.prog.depth 132 = false := by kernel_rfl
theorem fc_c115 : callB Tryz.prog 115 = true := by kernel_rfl
theorem fc_c110 : callB Tryz.prog 110 = true := by kernel_rfl
theorem fc_c111 : callB Tryz.prog 111 = true := by kernel_rfl
theorem fc_c112 : callB Tryz.prog 112 = true := by kernel_rfl
theorem fc_a70_2 : aggB Tryz.prog 70 2 = true := by kernel_rfl
theorem fc_f165_1_1 : fldB Tryz.prog 165 1 1 = true := by kernel_rfl
theorem fc_f169_6_6 : fldB Tryz.prog 169 6 6 = true := by kernel_rfl
theorem fc_f169_5_5 : fldB Tryz.prog 169 5 5 = true := by kernel_rfl
theorem fc_f169_4_4 : fldB Tryz.prog 169 4 4 = true := by kernel_rfl
theorem fc_f169_3_3 : fldB Tryz.prog 169 3 3 = true := by kernel_rfl
theorem fc_a165_4 : aggB Tryz.prog 165 4 = true := by kernel_rfl
theorem fc_c158 : callB Tryz.prog 158 = true := by kernel_rfl
theorem fc_f165_2_2 : fldB Tryz.prog 165 2 2 = true := by kernel_rfl
theorem fc_s77 : scalB Tryz.prog 77 = true := by kernel_rfl
theorem fc_q169 : placesB Tryz.prog 169 [(0, 1), (1, 1), (2, 1), (3, 1), (4, 1), (5, 1), (6, 1)] = true := by kernel_rfl
theorem fc_z169 : zeroV Tryz.prog 169 = some (.agg #[.int .i64 0, .int .i64 0, .int .i64 0, .int .i64 0, .int .i64 0, .int .i64 0, .int .i64 0]) := by kernel_rfl
theorem fc_a169_7 : aggB Tryz.prog 169 7 = true := by kernel_rfl
theorem fc_f165_3_3 : fldB Tryz.prog 165 3 3 = true := by kernel_rfl
theorem fc_s163 : scalB Tryz.prog 163 = true := by kernel_rfl
theorem fc_l163_4_1 : sliceB Tryz.prog 163 4 1 = true := by kernel_rfl
theorem fc_c143 : callB Tryz.prog 143 = true := by kernel_rfl
theorem fc_f169_1_1 : fldB Tryz.prog 169 1 1 = true := by kernel_rfl
theorem fc_f169_2_2 : fldB Tryz.prog 169 2 2 = true := by kernel_rfl
theorem fc_l166_169_7 : sliceB Tryz.prog 166 169 7 = true := by kernel_rfl
theorem fc_k166_169_7 : appB Tryz.prog 166 169 7 = true := by kernel_rfl
theorem fc_f165_0_0 : fldB Tryz.prog 165 0 0 = true := by kernel_rfl
theorem fc_s125 : scalB Tryz.prog 125 = true := by kernel_rfl
theorem fc_l125_77_1 : sliceB Tryz.prog 125 77 1 = true := by kernel_rfl
theorem fc_c113 : callB Tryz.prog 113 = true := by kernel_rfl
theorem fc_c114 : callB Tryz.prog 114 = true := by kernel_rfl
theorem fc_z77 : zeroV Tryz.prog 77 = some (.slice none 0 0) := by kernel_rfl
theorem fc_k125_77_1 : appB Tryz.prog 125 77 1 = true := by kernel_rfl
theorem fc_q165 : placesB Tryz.prog 165 [(0, 1), (1, 1), (2, 1), (3, 1)] = true := by kernel_rfl
theorem fc_z165 : zeroV Tryz.prog 165 = some (.agg #[.slice none 0 0, .slice none 0 0, .slice none 0 0, .slice none 0 0]) := by kernel_rfl
theorem fc_z4 : zeroV Tryz.prog 4 = some (.bool false) := by kernel_rfl
theorem fc_k163_4_1 : appB Tryz.prog 163 4 1 = true := by kernel_rfl
theorem fc_c116 : callB Tryz.prog 116 = true := by kernel_rfl
theorem fc_f169_0_0 : fldB Tryz.prog 169 0 0 = true := by kernel_rfl
theorem fc_c117 : callB Tryz.prog 117 = true := by kernel_rfl
theorem fc_c144 : callB Tryz.prog 144 = true := by kernel_rfl
theorem fc_c145 : callB Tryz.prog 145 = true := by kernel_rfl
theorem fc_f132_3_3 : fldB Tryz.prog 132 3 3 = true := by kernel_rfl
theorem fc_c118 : callB Tryz.prog 118 = true := by kernel_rfl
theorem fc_c22 : callB Tryz.prog 22 = true := by kernel_rfl
theorem fc_c70 : callB Tryz.prog 70 = true := by kernel_rfl
theorem fc_c71 : callB Tryz.prog 71 = true := by kernel_rfl
theorem fc_c72 : callB Tryz.prog 72 = true := by kernel_rfl
theorem fc_c73 : callB Tryz.prog 73 = true := by kernel_rfl
theorem fc_c74 : callB Tryz.prog 74 = true := by kernel_rfl
theorem fc_c75 : callB Tryz.prog 75 = true := by kernel_rfl
theorem fc_f54_1_3 : fldB Tryz.prog 54 1 3 = true := by kernel_rfl
theorem fc_c66 : callB Tryz.prog 66 = true := by kernel_rfl
theorem fc_c21 : callB Tryz.prog 21 = true := by kernel_rfl
theorem fc_c25 : callB Tryz.prog 25 = true := by kernel_rfl
theorem fc_eg65 : Tryz.prog.eqGuardType Tryz.prog.depth 65 = false := by kernel_rfl
theorem fc_c18 : callB Tryz.prog 18 = true := by kernel_rfl

theorem below_ok {n m : Int} : FnD Tryz.prog 95 [.int .i64 n, .int .i64 m] [] (.bool (decide (0 ≤ n ∧ n < m))) [] := by
  refine Fn.enter (Tryz.func95) rfl rfl (fun w0 R => ?_)
  refine sA (xaf rfl (dA (xmi rfl (TL.geq rfl rfl rfl rfl (fun q1 => ?_) (fun q1 => ?_)))))
  refine xmt rfl (xmi rfl (xmi rfl (TL.lssV rfl rfl rfl rfl (TL.pickT (.bool _) rfl rfl rfl rfl (xab rfl (dR ?_))))))
  refine FQ.ret1 (v := (.bool _)) (Bs := []) [] rfl rfl rfl trivial ?_
  first | exact ⟨bT (by omega), rfl⟩ | exact ⟨bF (by omega), rfl⟩ | exact ⟨congrArg Value.bool (decide_eq_decide.2 (by omega)), rfl⟩
  refine xmf rfl (xo rfl (xo rfl (xo rfl (xpF rfl (xaf rfl (dR ?_))))))
  refine FQ.ret1 (v := (.bool false)) (Bs := []) [] rfl rfl rfl trivial ?_
  first | exact ⟨bT (by omega), rfl⟩ | exact ⟨bF (by omega), rfl⟩ | exact ⟨congrArg Value.bool (decide_eq_decide.2 (by omega)), rfl⟩

theorem len64_ok {x : Int} (h0 : 0 ≤ x) (h1 : x ≤ 16) : FnD Tryz.prog 103 [.int .u64 x] [] (.int .i64 (levI x)) [] := by
  have hl := levI_bd h0 h1
  refine Fn.enter (Tryz.func103) rfl rfl (fun w0 R => ?_)
  refine sA (xai rfl (dB (xmi rfl (TL.geqF rfl rfl (by omega) rfl rfl (TL.done (TQ.then (TC.condF rfl (TC.skip ?_))))))))
  refine TQ.then (sB (xmi rfl (TL.geqF rfl rfl (by omega) rfl rfl (TL.done (TQ.then (TC.condF rfl (TC.skip (TQ.then ?_))))))))
  refine sB (xmi rfl (TL.geqF rfl rfl (by omega) rfl rfl (dF rfl (xmi rfl (xmi rfl (TL.conv _ rfl fc_u110 fc_i5_u8 (wru8 (by omega)) rfl rfl (TL.ixS (levI x) rfl rfl fc_str (by omega) (lenTab h0 h1 (by kernel_rfl)) rfl rfl (TL.conv _ rfl fc_u5 fc_i3_i64 (wr64 (by omega)) rfl rfl ?_))))))))
  refine TL.add _ rfl rfl (wr64 (by omega)) rfl rfl (xai rfl (dR ?_))
  refine FQ.ret1 (v := (.int _ _)) (Bs := []) [] rfl rfl rfl trivial ?_
  exact ⟨iE (by omega), rfl⟩

theorem len_ok {x : Int} (h0 : 0 ≤ x) (h1 : x ≤ 16) : FnD Tryz.prog 61 [.int .u64 x] [] (.int .i64 (levI x)) [] := by
  refine Fn.enter (Tryz.func61) rfl rfl (fun w0 R => ?_)
  refine sA (xai rfl (dS (TC.condF rfl (TC.skip (TQ.then (sA (xmi rfl (TL.callD [] [] (len64_ok (by omega) (by omega)) ⟨rfl, trivial⟩ trivial fc_c103 rfl rfl rfl rfl rfl trivial ?_))))))))
  refine xai rfl (dR ?_)
  refine FQ.ret1 (v := (.int _ _)) (Bs := []) [] rfl rfl rfl trivial ?_
  exact ⟨rfl, rfl⟩

theorem levels_ok {l : Lay} (hl : l.Ok)  : FnD Tryz.prog 19 [layV l] [] (.int .i64 l.lev) [] := by
  have hb := lok_bds hl
  refine Fn.enter (Tryz.func19) rfl rfl (fun w0 R => ?_)
  refine sA (xB 0 rfl (fun bk0 => (xai rfl (dA (xf 0 fc_f23_0_0 rfl (xli 0 fc_s3 rfl rfl (TL.conv _ rfl fc_u3 fc_i112_u64 (wru64 (by omega)) rfl rfl (TL.callD [] [] (len_ok (by omega) (by omega)) ⟨rfl, trivial⟩ trivial fc_c61 rfl rfl rfl rfl rfl trivial (xai rfl ?_)))))))))
  refine dR ?_
  refine FQ.ret1 (v := (.int _ _)) (Bs := []) [] rfl rfl rfl trivial ?_
  exact ⟨rfl, rfl⟩

theorem arcs_ok {l : Lay} (hl : l.Ok)  : FnD Tryz.prog 93 [layV l] [] (.int .i64 l.arcs) [] := by
  have hb := lay_bds hl
  refine Fn.enter (Tryz.func93) rfl rfl (fun w0 R => ?_)
  refine sA (xB 0 rfl (fun bk0 => (xai rfl (dA (xL3 0 fc_a23_3 rfl rfl (TL.callD [] [] (levels_ok hl) ⟨rfl, trivial⟩ trivial fc_c19 rfl rfl rfl rfl rfl trivial (TL.mul _ rfl rfl (wr64 (by omega)) rfl rfl (xai rfl (dR ?_)))))))))
  refine FQ.ret1 (v := (.int _ _)) (Bs := []) [] rfl rfl rfl trivial ?_
  exact ⟨rfl, rfl⟩

theorem nodes_ok {l : Lay} (hl : l.Ok)  : FnD Tryz.prog 53 [layV l] [] (.int .i64 l.nodes) [] := by
  have hb := lay_bds hl
  refine Fn.enter (Tryz.func53) rfl rfl (fun w0 R => ?_)
  refine sA (xB 0 rfl (fun bk0 => (xai rfl (dS (TC.draw [(0, true), (2, true), (3, true), (5, true), (6, true), (7, true), (1, false), (4, true), (8, false), (9, true), (10, true), (11, true)] [0] fc_m (by kernel_rfl) (xL3 0 fc_a23_3 rfl rfl (xf 0 fc_f23_0_0 rfl (xli 0 fc_s3 rfl rfl (xf 1 fc_f23_1_1 rfl ?_)))))))))
  refine xli 0 fc_s3 rfl rfl (xL3 0 fc_a23_3 rfl rfl (TL.callD [] [] (levels_ok hl) ⟨rfl, trivial⟩ trivial fc_c19 rfl rfl rfl rfl rfl (kL1 rfl trivial) (TL.mul _ rfl rfl (wr64 (by omega)) rfl rfl (TL.callD [] [] (arcs_ok hl) ⟨rfl, trivial⟩ trivial fc_c93 rfl rfl rfl rfl rfl (kL1 rfl trivial) (TL.mul _ rfl rfl (wr64 (by omega)) rfl rfl (TL.add _ rfl rfl (wr64 (by omega)) rfl rfl (xai rfl (dR ?_))))))))
  refine FQ.ret1 (v := (.int _ _)) (Bs := []) [] rfl rfl rfl trivial ?_
  exact ⟨rfl, rfl⟩

theorem vertex_ok {l : Lay} (hl : l.Ok) {i v : Int} : FnD Tryz.prog 82 [layV l, .int .i64 i, .int .i64 v] [] (.int .i64 (l.vertex i v)) [] := by
  have hb := lay_bds hl
  refine Fn.enter (Tryz.func82) rfl rfl (fun w0 R => ?_)
  refine sA (xB 0 rfl (fun bk0 => (xai rfl (dB (xmi rfl (xL3 0 fc_a23_3 rfl rfl (TL.callD [] [] (levels_ok hl) ⟨rfl, trivial⟩ trivial fc_c19 rfl rfl rfl rfl rfl trivial (TL.callD [] [] below_ok ⟨rfl, rfl, trivial⟩ trivial fc_c95 rfl rfl rfl rfl rfl trivial (TL.casesP rfl (fun q1 => ?_) (fun q1 => ?_))))))))))
  refine xnt rfl (xmf rfl (xmi rfl (xf 0 fc_f23_0_0 rfl (xli 0 fc_s3 rfl rfl (TL.callD [] [] below_ok ⟨rfl, rfl, trivial⟩ trivial fc_c95 rfl rfl rfl rfl rfl trivial (TL.casesP rfl (fun q2 => ?_) (fun q2 => ?_)))))))
  refine xnt rfl (xpF rfl (dF rfl (xmi rfl (xf 0 fc_f23_0_0 rfl (xli 0 fc_s3 rfl rfl (TL.mul _ rfl rfl (wr64 (by have := mul_bd (a := i) (A := 5) (b := (l.V : Int)) (B := 16) (by omega) (by omega) (by omega) (by omega); omega)) rfl rfl (TL.add _ rfl rfl (wr64 (by have := mul_bd (a := i) (A := 5) (b := (l.V : Int)) (B := 16) (by omega) (by omega) (by omega) (by omega); omega)) rfl rfl (xmi rfl ?_))))))))
  refine TL.add _ rfl rfl (wr64 (by have := mul_bd (a := i) (A := 5) (b := (l.V : Int)) (B := 16) (by omega) (by omega) (by omega) (by omega); omega)) rfl rfl (xai rfl (dR ?_))
  refine FQ.ret1 (v := (.int _ _)) (Bs := []) [] rfl rfl rfl trivial ?_
  first | exact ⟨iE (by unfold Lay.vertex; rw [if_pos (by omega)]), rfl⟩ | exact ⟨iE (by unfold Lay.vertex; rw [if_neg (by omega)]), rfl⟩
  refine xnf rfl (xpH rfl (dT rfl (xai rfl (dRR ?_))))
  refine FQ.ret1 (v := (.int _ _)) (Bs := []) [] rfl rfl rfl trivial ?_
  first | exact ⟨iE (by unfold Lay.vertex; rw [if_pos (by omega)]), rfl⟩ | exact ⟨iE (by unfold Lay.vertex; rw [if_neg (by omega)]), rfl⟩
  refine xnf rfl (xmt rfl (xo rfl (xo rfl (xo rfl (xo rfl (xo rfl (xpT rfl (dT rfl ?_))))))))
  refine xai rfl (dRR ?_)
  refine FQ.ret1 (v := (.int _ _)) (Bs := []) [] rfl rfl rfl trivial ?_
  first | exact ⟨iE (by unfold Lay.vertex; rw [if_pos (by omega)]), rfl⟩ | exact ⟨iE (by unfold Lay.vertex; rw [if_neg (by omega)]), rfl⟩

theorem arc_ok {l : Lay} (hl : l.Ok) {s i d : Int} : FnD Tryz.prog 121 [layV l, .int .i64 s, .int .i64 i, .int .i64 d] [] (.int .i64 (l.arc s i d)) [] := by
  have hb := lay_bds hl
  refine Fn.enter (Tryz.func121) rfl rfl (fun w0 R => ?_)
  refine sA (xB 0 rfl (fun bk0 => (xai rfl (dB (xmi rfl (xf 1 fc_f23_1_1 rfl (xli 0 fc_s3 rfl rfl (TL.callD [] [] below_ok ⟨rfl, rfl, trivial⟩ trivial fc_c95 rfl rfl rfl rfl rfl trivial (TL.casesP rfl (fun q1 => ?_) (fun q1 => ?_))))))))))
  refine xnt rfl (xmf rfl (xmi rfl (xL3 0 fc_a23_3 rfl rfl (TL.callD [] [] (levels_ok hl) ⟨rfl, trivial⟩ trivial fc_c19 rfl rfl rfl rfl rfl trivial (TL.callD [] [] below_ok ⟨rfl, rfl, trivial⟩ trivial fc_c95 rfl rfl rfl rfl rfl trivial (TL.casesP rfl (fun q2 => ?_) (fun q2 => ?_)))))))
  refine xnt rfl (xpF rfl (xmf rfl (xmi rfl (TL.callD [] [] below_ok ⟨rfl, rfl, trivial⟩ trivial fc_c95 rfl rfl rfl rfl rfl trivial (TL.casesP rfl (fun q3 => ?_) (fun q3 => ?_))))))
  refine xnt rfl (xpF rfl (TL.done (TQ.then (TC.condF rfl (TC.skip (TQ.then (TC.seq (TC.draw [(0, true), (2, true), (3, true), (6, true), (7, true), (11, true), (12, true), (14, true), (1, false), (4, true), (5, true), (8, false), (9, true), (10, true), (13, true), (15, true), (16, true)] [0] fc_m (by kernel_rfl) ?_))))))))
  refine xL3 0 fc_a23_3 rfl rfl (xf 0 fc_f23_0_0 rfl (xli 0 fc_s3 rfl rfl (xmi rfl (xL3 0 fc_a23_3 rfl rfl (xmi rfl (TL.mul _ rfl rfl (wr64 (by omega)) rfl rfl (xmi rfl (TL.callD [] [] (levels_ok hl) ⟨rfl, trivial⟩ trivial fc_c19 rfl rfl rfl rfl rfl (kL1 rfl trivial) ?_))))))))
  refine TL.mul _ rfl rfl (wr64 (by omega)) rfl rfl (TL.add _ rfl rfl (wr64 (by omega)) rfl rfl (TL.callD [] [] (arcs_ok hl) ⟨rfl, trivial⟩ trivial fc_c93 rfl rfl rfl rfl rfl (kL1 rfl trivial) (TL.mul _ rfl rfl (wr64 (by have := mul_bd (a := s) (A := 48) (b := l.arcs) (B := 10) (by omega) (by omega) (by omega) (by omega); omega)) rfl rfl (TL.add _ rfl rfl (wr64 (by have := mul_bd (a := s) (A := 48) (b := l.arcs) (B := 10) (by omega) (by omega) (by omega) (by omega); omega)) rfl rfl (TL.add _ rfl rfl (wr64 (by have := mul_bd (a := s) (A := 48) (b := l.arcs) (B := 10) (by omega) (by omega) (by omega) (by omega); omega)) rfl rfl ?_)))))
  refine TL.add _ rfl rfl (wr64 (by have := mul_bd (a := s) (A := 48) (b := l.arcs) (B := 10) (by omega) (by omega) (by omega) (by omega); omega)) rfl rfl (xai rfl (dR ?_))
  refine FQ.ret1 (v := (.int _ _)) (Bs := []) [] rfl rfl rfl trivial ?_
  first | exact ⟨iE (by unfold Lay.arc; rw [if_pos (by omega)]), rfl⟩ | exact ⟨iE (by unfold Lay.arc; rw [if_neg (by omega)]), rfl⟩
  refine xnf rfl (xpH rfl (dT rfl (xai rfl (dRR ?_))))
  refine FQ.ret1 (v := (.int _ _)) (Bs := []) [] rfl rfl rfl trivial ?_
  first | exact ⟨iE (by unfold Lay.arc; rw [if_pos (by omega)]), rfl⟩ | exact ⟨iE (by unfold Lay.arc; rw [if_neg (by omega)]), rfl⟩
  refine xnf rfl (xpH rfl (xmt rfl (xo rfl (xo rfl (xo rfl (xpT rfl (dT rfl (xai rfl ?_))))))))
  refine dRR ?_
  refine FQ.ret1 (v := (.int _ _)) (Bs := []) [] rfl rfl rfl trivial ?_
  first | exact ⟨iE (by unfold Lay.arc; rw [if_pos (by omega)]), rfl⟩ | exact ⟨iE (by unfold Lay.arc; rw [if_neg (by omega)]), rfl⟩
  refine xnf rfl (xmt rfl (xo rfl (xo rfl (xo rfl (xo rfl (xo rfl (xpT rfl (xmt rfl ?_))))))))
  refine xo rfl (xo rfl (xo rfl (xpT rfl (dT rfl (xai rfl (dRR ?_))))))
  refine FQ.ret1 (v := (.int _ _)) (Bs := []) [] rfl rfl rfl trivial ?_
  first | exact ⟨iE (by unfold Lay.arc; rw [if_pos (by omega)]), rfl⟩ | exact ⟨iE (by unfold Lay.arc; rw [if_neg (by omega)]), rfl⟩

theorem free_ok {l : Lay} (hl : l.Ok)  : FnD Tryz.prog 153 [layV l] [] (.int .i64 l.free) [] := by
  have hb := lay_bds hl
  refine Fn.enter (Tryz.func153) rfl rfl (fun w0 R => ?_)
  refine sA (xB 0 rfl (fun bk0 => (xai rfl (dA (xf 2 fc_f23_2_2 rfl (xli 0 fc_s3 rfl rfl (xai rfl (dR ?_))))))))
  refine FQ.ret1 (v := (.int _ _)) (Bs := []) [] rfl rfl rfl trivial ?_
  exact ⟨rfl, rfl⟩

theorem of_ok {l : Lay} (hl : l.Ok) {s f : Int} (hf : 0 ≤ f ∧ f ≤ 8) : FnD Tryz.prog 127 [layV l, .int .i64 s, .int .i64 f] [] (.int .i64 (l.of s f)) [] := by
  have hb := lay_bds hl
  refine Fn.enter (Tryz.func127) rfl rfl (fun w0 R => ?_)
  refine sA (xB 0 rfl (fun bk0 => (xai rfl (dB (xmi rfl (xf 1 fc_f23_1_1 rfl (xli 0 fc_s3 rfl rfl (TL.callD [] [] below_ok ⟨rfl, rfl, trivial⟩ trivial fc_c95 rfl rfl rfl rfl rfl trivial (TL.casesP rfl (fun q1 => ?_) (fun q1 => ?_))))))))))
  refine xnt rfl (dF rfl (xL3 0 fc_a23_3 rfl rfl (TL.callD [] [] (free_ok hl) ⟨rfl, trivial⟩ trivial fc_c153 rfl rfl rfl rfl rfl trivial (TL.add _ rfl rfl (wr64 (by omega)) rfl rfl (xmi rfl (TL.mul _ rfl rfl (wr64 (by omega)) rfl rfl (TL.add _ rfl rfl (wr64 (by omega)) rfl rfl (xmi rfl ?_))))))))
  refine TL.add _ rfl rfl (wr64 (by omega)) rfl rfl (xai rfl (dR ?_))
  refine FQ.ret1 (v := (.int _ _)) (Bs := []) [] rfl rfl rfl trivial ?_
  first | exact ⟨iE (by unfold Lay.of Lay.free at *; rw [if_pos (by omega)]), rfl⟩ | exact ⟨iE (by unfold Lay.of Lay.free at *; rw [if_neg (by omega)]), rfl⟩
  refine xnf rfl (dT rfl (xai rfl (dRR ?_)))
  refine FQ.ret1 (v := (.int _ _)) (Bs := []) [] rfl rfl rfl trivial ?_
  first | exact ⟨iE (by unfold Lay.of Lay.free at *; rw [if_pos (by omega)]), rfl⟩ | exact ⟨iE (by unfold Lay.of Lay.free at *; rw [if_neg (by omega)]), rfl⟩

theorem ends_ok {l : Lay} (hl : l.Ok) {s : Int} : FnD Tryz.prog 129 [layV l, .int .i64 s] [] (.int .i64 (l.ends s)) [] := by
  have hb := lay_bds hl
  refine Fn.enter (Tryz.func129) rfl rfl (fun w0 R => ?_)
  refine sA (xB 0 rfl (fun bk0 => (xai rfl (dA (xL3 0 fc_a23_3 rfl rfl (xmi rfl (TL.callD [] [] (of_ok hl (by omega)) ⟨rfl, rfl, rfl, trivial⟩ trivial fc_c127 rfl rfl rfl rfl rfl trivial (xai rfl (dR ?_)))))))))
  refine FQ.ret1 (v := (.int _ _)) (Bs := []) [] rfl rfl rfl trivial ?_
  exact ⟨rfl, rfl⟩

theorem level_ok {l : Lay} (hl : l.Ok) {s : Int} : FnD Tryz.prog 83 [layV l, .int .i64 s] [] (.int .i64 (l.level s)) [] := by
  have hb := lay_bds hl
  refine Fn.enter (Tryz.func83) rfl rfl (fun w0 R => ?_)
  refine sA (xB 0 rfl (fun bk0 => (xai rfl (dA (xL3 0 fc_a23_3 rfl rfl (xmi rfl (TL.callD [] [] (of_ok hl (by omega)) ⟨rfl, rfl, rfl, trivial⟩ trivial fc_c127 rfl rfl rfl rfl rfl trivial (xai rfl (dR ?_)))))))))
  refine FQ.ret1 (v := (.int _ _)) (Bs := []) [] rfl rfl rfl trivial ?_
  exact ⟨rfl, rfl⟩

theorem next_ok {l : Lay} (hl : l.Ok) {s d : Int} : FnD Tryz.prog 157 [layV l, .int .i64 s, .int .i64 d] [] (.int .i64 (l.next s d)) [] := by
  have hb := lay_bds hl
  refine Fn.enter (Tryz.func157) rfl rfl (fun w0 R => ?_)
  refine sA (xB 0 rfl (fun bk0 => (xai rfl (dB (xmi rfl (TL.callD [] [] below_ok ⟨rfl, rfl, trivial⟩ trivial fc_c95 rfl rfl rfl rfl rfl trivial (TL.casesP rfl (fun q1 => ?_) (fun q1 => ?_))))))))
  refine xnt rfl (dF rfl (xL3 0 fc_a23_3 rfl rfl (xmi rfl (xmi rfl (TL.add _ rfl rfl (wr64 (by omega)) rfl rfl (TL.callD [] [] (of_ok hl (by omega)) ⟨rfl, rfl, rfl, trivial⟩ trivial fc_c127 rfl rfl rfl rfl rfl trivial (xai rfl (dR ?_))))))))
  refine FQ.ret1 (v := (.int _ _)) (Bs := []) [] rfl rfl rfl trivial ?_
  first | exact ⟨iE (by unfold Lay.next; rw [if_pos (by omega)]), rfl⟩ | exact ⟨iE (by unfold Lay.next; rw [if_neg (by omega)]), rfl⟩
  refine xnf rfl (dT rfl (xai rfl (dRR ?_)))
  refine FQ.ret1 (v := (.int _ _)) (Bs := []) [] rfl rfl rfl trivial ?_
  first | exact ⟨iE (by unfold Lay.next; rw [if_pos (by omega)]), rfl⟩ | exact ⟨iE (by unfold Lay.next; rw [if_neg (by omega)]), rfl⟩

theorem prev_ok {l : Lay} (hl : l.Ok) {s d : Int} : FnD Tryz.prog 156 [layV l, .int .i64 s, .int .i64 d] [] (.int .i64 (l.prev s d)) [] := by
  have hb := lay_bds hl
  refine Fn.enter (Tryz.func156) rfl rfl (fun w0 R => ?_)
  refine sA (xB 0 rfl (fun bk0 => (xai rfl (dB (xmi rfl (TL.callD [] [] below_ok ⟨rfl, rfl, trivial⟩ trivial fc_c95 rfl rfl rfl rfl rfl trivial (TL.casesP rfl (fun q1 => ?_) (fun q1 => ?_))))))))
  refine xnt rfl (dF rfl (xL3 0 fc_a23_3 rfl rfl (xmi rfl (xmi rfl (TL.add _ rfl rfl (wr64 (by omega)) rfl rfl (TL.callD [] [] (of_ok hl (by omega)) ⟨rfl, rfl, rfl, trivial⟩ trivial fc_c127 rfl rfl rfl rfl rfl trivial (xai rfl (dR ?_))))))))
  refine FQ.ret1 (v := (.int _ _)) (Bs := []) [] rfl rfl rfl trivial ?_
  first | exact ⟨iE (by unfold Lay.prev; rw [if_pos (by omega)]), rfl⟩ | exact ⟨iE (by unfold Lay.prev; rw [if_neg (by omega)]), rfl⟩
  refine xnf rfl (dT rfl (xai rfl (dRR ?_)))
  refine FQ.ret1 (v := (.int _ _)) (Bs := []) [] rfl rfl rfl trivial ?_
  first | exact ⟨iE (by unfold Lay.prev; rw [if_pos (by omega)]), rfl⟩ | exact ⟨iE (by unfold Lay.prev; rw [if_neg (by omega)]), rfl⟩

theorem heads_ok {l : Lay} (hl : l.Ok)  : FnD Tryz.prog 141 [layV l] [] (.int .i64 l.heads) [] := by
  have hb := lay_bds hl
  refine Fn.enter (Tryz.func141) rfl rfl (fun w0 R => ?_)
  refine sA (xB 0 rfl (fun bk0 => (xai rfl (dS (TC.draw [(0, true), (3, true), (4, true), (5, true), (1, false), (2, true), (6, true), (7, true)] [0] fc_m (by kernel_rfl) (xL3 0 fc_a23_3 rfl rfl (xf 1 fc_f23_1_1 rfl (xli 0 fc_s3 rfl rfl (TL.mul _ rfl rfl (wr64 (by omega)) rfl rfl ?_)))))))))
  refine TL.callD [] [] (free_ok hl) ⟨rfl, trivial⟩ trivial fc_c153 rfl rfl rfl rfl rfl (kL1 rfl trivial) (TL.add _ rfl rfl (wr64 (by omega)) rfl rfl (TL.add _ rfl rfl (wr64 (by omega)) rfl rfl (xai rfl (dR ?_))))
  refine FQ.ret1 (v := (.int _ _)) (Bs := []) [] rfl rfl rfl trivial ?_
  exact ⟨rfl, rfl⟩

theorem head_ok {l : Lay} (hl : l.Ok) {v i : Int} : FnD Tryz.prog 106 [layV l, .int .i64 v, .int .i64 i] [] (.int .i64 (l.head v i)) [] := by
  have hb := lay_bds hl
  refine Fn.enter (Tryz.func106) rfl rfl (fun w0 R => ?_)
  refine sA (xB 0 rfl (fun bk0 => (xai rfl (dB (xmi rfl (xf 0 fc_f23_0_0 rfl (xli 0 fc_s3 rfl rfl (TL.callD [] [] below_ok ⟨rfl, rfl, trivial⟩ trivial fc_c95 rfl rfl rfl rfl rfl trivial (TL.casesP rfl (fun q1 => ?_) (fun q1 => ?_))))))))))
  refine xnt rfl (xmf rfl (xmi rfl (xL3 0 fc_a23_3 rfl rfl (TL.callD [] [] (levels_ok hl) ⟨rfl, trivial⟩ trivial fc_c19 rfl rfl rfl rfl rfl trivial (TL.callD [] [] below_ok ⟨rfl, rfl, trivial⟩ trivial fc_c95 rfl rfl rfl rfl rfl trivial (TL.casesP rfl (fun q2 => ?_) (fun q2 => ?_)))))))
  refine xnt rfl (xpF rfl (TL.done (TQ.then (TC.condF rfl (TC.skip (TQ.then (TC.seq (TC.draw [(0, true), (2, true), (3, true), (7, true), (1, false), (4, false), (5, true), (6, true), (8, true), (9, true)] [0] fc_m (by kernel_rfl) ?_))))))))
  refine xL3 0 fc_a23_3 rfl rfl (xmi rfl (xL3 0 fc_a23_3 rfl rfl (xmi rfl (TL.callD [] [] (heads_ok hl) ⟨rfl, trivial⟩ trivial fc_c141 rfl rfl rfl rfl rfl (kL1 rfl trivial) (TL.callD [] [] (levels_ok hl) ⟨rfl, trivial⟩ trivial fc_c19 rfl rfl rfl rfl rfl (kL1 rfl trivial) (TL.mul _ rfl rfl (wr64 (by have := mul_bd (a := v) (A := 16) (b := l.lev) (B := 5) (by omega) (by omega) (by omega) (by omega); omega)) rfl rfl (TL.add _ rfl rfl (wr64 (by have := mul_bd (a := v) (A := 16) (b := l.lev) (B := 5) (by omega) (by omega) (by omega) (by omega); omega)) rfl rfl (TL.add _ rfl rfl (wr64 (by have := mul_bd (a := v) (A := 16) (b := l.lev) (B := 5) (by omega) (by omega) (by omega) (by omega); omega)) rfl rfl ?_))))))))
  refine xai rfl (dR ?_)
  refine FQ.ret1 (v := (.int _ _)) (Bs := []) [] rfl rfl rfl trivial ?_
  first | exact ⟨iE (by unfold Lay.head; rw [if_pos (by omega)]), rfl⟩ | exact ⟨iE (by unfold Lay.head; rw [if_neg (by omega)]), rfl⟩
  refine xnf rfl (xpH rfl (dT rfl (xai rfl (dRR ?_))))
  refine FQ.ret1 (v := (.int _ _)) (Bs := []) [] rfl rfl rfl trivial ?_
  first | exact ⟨iE (by unfold Lay.head; rw [if_pos (by omega)]), rfl⟩ | exact ⟨iE (by unfold Lay.head; rw [if_neg (by omega)]), rfl⟩
  refine xnf rfl (xmt rfl (xo rfl (xo rfl (xo rfl (xo rfl (xo rfl (xpT rfl (dT rfl ?_))))))))
  refine xai rfl (dRR ?_)
  refine FQ.ret1 (v := (.int _ _)) (Bs := []) [] rfl rfl rfl trivial ?_
  first | exact ⟨iE (by unfold Lay.head; rw [if_pos (by omega)]), rfl⟩ | exact ⟨iE (by unfold Lay.head; rw [if_neg (by omega)]), rfl⟩

theorem edges_ok {l : Lay} (hl : l.Ok)  : FnD Tryz.prog 131 [layV l] [] (.int .i64 l.edges) [] := by
  have hb := lay_bds hl
  refine Fn.enter (Tryz.func131) rfl rfl (fun w0 R => ?_)
  refine sA (xB 0 rfl (fun bk0 => (xai rfl (dS (TC.draw [(0, true), (2, true), (3, true), (4, true), (1, false), (5, false), (6, true), (7, true), (8, true)] [0] fc_m (by kernel_rfl) (xL3 0 fc_a23_3 rfl rfl (xf 0 fc_f23_0_0 rfl (xli 0 fc_s3 rfl rfl (xL3 0 fc_a23_3 rfl rfl ?_)))))))))
  refine TL.callD [] [] (heads_ok hl) ⟨rfl, trivial⟩ trivial fc_c141 rfl rfl rfl rfl rfl (kL1 rfl trivial) (TL.callD [] [] (levels_ok hl) ⟨rfl, trivial⟩ trivial fc_c19 rfl rfl rfl rfl rfl (kL1 rfl trivial) (TL.mul _ rfl rfl (wr64 (by omega)) rfl rfl (TL.add _ rfl rfl (wr64 (by omega)) rfl rfl (xai rfl (dR ?_)))))
  refine FQ.ret1 (v := (.int _ _)) (Bs := []) [] rfl rfl rfl trivial ?_
  exact ⟨rfl, rfl⟩

theorem edge_ok {l : Lay} (hl : l.Ok) {a b : Int} : FnD Tryz.prog 101 [layV l, .int .i64 a, .int .i64 b] [] (.int .i64 (l.edge a b)) [] := by
  have hb := lay_bds hl
  refine Fn.enter (Tryz.func101) rfl rfl (fun w0 R => ?_)
  refine sA (xB 0 rfl (fun bk0 => (xai rfl (dA (xmi rfl (xmi rfl (TL.min2 rfl rfl rfl rfl (xmi rfl (xmi rfl ?_)))))))))
  refine TL.max2 rfl rfl rfl rfl (xai rfl (xai rfl (dB (xmi rfl (xmi rfl (TL.eql rfl rfl rfl rfl (fun q1 => ?_) (fun q1 => ?_)))))))
  refine xmt rfl (xo rfl (xo rfl (xo rfl (xo rfl (xo rfl (xpT rfl (xmt rfl (xo rfl ?_))))))))
  refine xo rfl (xo rfl (xo rfl (xo rfl (xpT rfl (dT rfl (xai rfl (dRR ?_)))))))
  refine FQ.ret1 (v := (.int _ _)) (Bs := []) [] rfl rfl rfl trivial ?_
  first | exact ⟨iE (by unfold Lay.edge; rw [if_neg (by omega)]), rfl⟩ | exact ⟨iE (by unfold Lay.edge; rw [if_pos (by omega)]), rfl⟩
  refine xmf rfl (xmi rfl (xf 0 fc_f23_0_0 rfl (xli 0 fc_s3 rfl rfl (TL.callD [] [] below_ok ⟨rfl, rfl, trivial⟩ trivial fc_c95 rfl rfl rfl rfl rfl trivial (TL.casesP rfl (fun q2 => ?_) (fun q2 => ?_))))))
  refine xnt rfl (xpF rfl (xmf rfl (xmi rfl (xf 0 fc_f23_0_0 rfl (xli 0 fc_s3 rfl rfl (TL.callD [] [] below_ok ⟨rfl, rfl, trivial⟩ trivial fc_c95 rfl rfl rfl rfl rfl trivial (TL.casesP rfl (fun q3 => ?_) (fun q3 => ?_))))))))
  refine xnt rfl (xpF rfl (TL.done (TQ.then (TC.condF rfl (TC.skip (TQ.then (TC.seq (TC.draw [(0, true), (2, true), (3, true), (4, true), (5, true), (6, true), (7, true), (8, true), (9, true), (10, true), (12, true), (14, true), (1, false), (11, true), (13, true), (15, true), (16, true), (17, true)] [0] fc_m (by kernel_rfl) ?_))))))))
  refine xL3 0 fc_a23_3 rfl rfl (xmi rfl (xf 0 fc_f23_0_0 rfl (xli 0 fc_s3 rfl rfl (TL.mul _ rfl rfl (wr64 (by omega)) rfl rfl (xmi rfl (TL.sub _ rfl rfl (wr64 (by omega)) rfl rfl (TL.sub _ rfl rfl (wr64 (by omega)) rfl rfl (TL.mul _ rfl rfl (wr64 (by have h9 := edge_bd (x := min a b) (V := (l.V : Int)) (by omega) (by omega) (by omega); omega)) rfl rfl ?_))))))))
  refine TL.quo _ rfl rfl (by omega) (quo64 (by have h9 := edge_bd (x := min a b) (V := (l.V : Int)) (by omega) (by omega) (by omega); omega) (by omega) (by have h9 := edge_bd (x := min a b) (V := (l.V : Int)) (by omega) (by omega) (by omega); omega)) rfl rfl (xmi rfl (xmi rfl (TL.callD [] [] (edges_ok hl) ⟨rfl, trivial⟩ trivial fc_c131 rfl rfl rfl rfl rfl (kL1 rfl trivial) (TL.add _ rfl rfl (wr64 (by have h9 := edge_bd (x := min a b) (V := (l.V : Int)) (by omega) (by omega) (by omega); omega)) rfl rfl (TL.add _ rfl rfl (wr64 (by have h9 := edge_bd (x := min a b) (V := (l.V : Int)) (by omega) (by omega) (by omega); omega)) rfl rfl ?_)))))
  refine TL.sub _ rfl rfl (wr64 (by have h9 := edge_bd (x := min a b) (V := (l.V : Int)) (by omega) (by omega) (by omega); omega)) rfl rfl (TL.sub _ rfl rfl (wr64 (by have h9 := edge_bd (x := min a b) (V := (l.V : Int)) (by omega) (by omega) (by omega); omega)) rfl rfl (xai rfl (dR ?_)))
  refine FQ.ret1 (v := (.int _ _)) (Bs := []) [] rfl rfl rfl trivial ?_
  first | exact ⟨iE (by unfold Lay.edge; rw [if_neg (by omega)]), rfl⟩ | exact ⟨iE (by unfold Lay.edge; rw [if_pos (by omega)]), rfl⟩
  refine xnf rfl (xpH rfl (dT rfl (xai rfl (dRR ?_))))
  refine FQ.ret1 (v := (.int _ _)) (Bs := []) [] rfl rfl rfl trivial ?_
  first | exact ⟨iE (by unfold Lay.edge; rw [if_neg (by omega)]), rfl⟩ | exact ⟨iE (by unfold Lay.edge; rw [if_pos (by omega)]), rfl⟩
  refine xnf rfl (xpH rfl (xmt rfl (xo rfl (xo rfl (xo rfl (xo rfl (xo rfl (xpT rfl ?_))))))))
  refine dT rfl (xai rfl (dRR ?_))
  refine FQ.ret1 (v := (.int _ _)) (Bs := []) [] rfl rfl rfl trivial ?_
  first | exact ⟨iE (by unfold Lay.edge; rw [if_neg (by omega)]), rfl⟩ | exact ⟨iE (by unfold Lay.edge; rw [if_pos (by omega)]), rfl⟩

theorem base_ok {l : Lay} (hl : l.Ok)  : FnD Tryz.prog 92 [layV l] [] (.int .i64 l.base) [] := by
  have hb := lay_bds hl
  refine Fn.enter (Tryz.func92) rfl rfl (fun w0 R => ?_)
  refine sA (xB 0 rfl (fun bk0 => (xai rfl (dS (TC.draw [(0, true), (2, true), (3, true), (4, true), (5, true), (6, true), (7, true), (8, true), (1, false), (9, true), (10, true)] [0] fc_m (by kernel_rfl) (xL3 0 fc_a23_3 rfl rfl (xf 0 fc_f23_0_0 rfl (xli 0 fc_s3 rfl rfl (xf 0 fc_f23_0_0 rfl ?_)))))))))
  refine xli 0 fc_s3 rfl rfl (TL.sub _ rfl rfl (wr64 (by omega)) rfl rfl (TL.mul _ rfl rfl (wr64 (by omega)) rfl rfl (TL.quo _ rfl rfl (by omega) (quo64 (by omega) (by omega) (by omega)) rfl rfl (TL.callD [] [] (edges_ok hl) ⟨rfl, trivial⟩ trivial fc_c131 rfl rfl rfl rfl rfl (kL1 rfl trivial) (TL.add _ rfl rfl (wr64 (by omega)) rfl rfl (xai rfl (dR ?_)))))))
  refine FQ.ret1 (v := (.int _ _)) (Bs := []) [] rfl rfl rfl trivial ?_
  exact ⟨rfl, rfl⟩

theorem field_ok {l : Lay} (hl : l.Ok) {x f : Int} : FnD Tryz.prog 55 [layV l, .int .i64 x, .int .i64 f] [] (.int .i64 (l.field x f)) [] := by
  have hb := lay_bds hl
  refine Fn.enter (Tryz.func55) rfl rfl (fun w0 R => ?_)
  refine sA (xB 0 rfl (fun bk0 => (xai rfl (dB (xmi rfl (TL.sub _ rfl rfl (rfl) rfl rfl (xL3 0 fc_a23_3 rfl rfl (TL.callD [] [] (nodes_ok hl) ⟨rfl, trivial⟩ trivial fc_c53 rfl rfl rfl rfl rfl trivial (TL.callD [] [] below_ok ⟨rfl, rfl, trivial⟩ trivial fc_c95 rfl rfl rfl rfl rfl trivial ?_)))))))))
  refine TL.casesP rfl (fun q1 => ?_) (fun q1 => ?_)
  refine xnt rfl (xmf rfl (xmi rfl (TL.callD [] [] below_ok ⟨rfl, rfl, trivial⟩ trivial fc_c95 rfl rfl rfl rfl rfl trivial (TL.casesP rfl (fun q2 => ?_) (fun q2 => ?_)))))
  refine xnt rfl (xpF rfl (dF rfl (xL3 0 fc_a23_3 rfl rfl (TL.callD [] [] (base_ok hl) ⟨rfl, trivial⟩ trivial fc_c92 rfl rfl rfl rfl rfl trivial (xmi rfl (TL.sub _ rfl rfl (rfl) rfl rfl (TL.mul _ rfl rfl (wr64 (by omega)) rfl rfl (TL.add _ rfl rfl (wr64 (by omega)) rfl rfl ?_))))))))
  refine xmi rfl (TL.add _ rfl rfl (wr64 (by omega)) rfl rfl (xai rfl (dR ?_)))
  refine FQ.ret1 (v := (.int _ _)) (Bs := []) [] rfl rfl rfl trivial ?_
  first | exact ⟨iE (by unfold Lay.field; rw [if_pos (by omega)]), rfl⟩ | exact ⟨iE (by unfold Lay.field; rw [if_neg (by omega)]), rfl⟩
  refine xnf rfl (xpH rfl (dT rfl (xai rfl (dRR ?_))))
  refine FQ.ret1 (v := (.int _ _)) (Bs := []) [] rfl rfl rfl trivial ?_
  first | exact ⟨iE (by unfold Lay.field; rw [if_pos (by omega)]), rfl⟩ | exact ⟨iE (by unfold Lay.field; rw [if_neg (by omega)]), rfl⟩
  refine xnf rfl (xmt rfl (xo rfl (xo rfl (xo rfl (xpT rfl (dT rfl (xai rfl (dRR ?_))))))))
  refine FQ.ret1 (v := (.int _ _)) (Bs := []) [] rfl rfl rfl trivial ?_
  first | exact ⟨iE (by unfold Lay.field; rw [if_pos (by omega)]), rfl⟩ | exact ⟨iE (by unfold Lay.field; rw [if_neg (by omega)]), rfl⟩

theorem cells_ok {l : Lay} (hl : l.Ok)  : FnD Tryz.prog 51 [layV l] [] (.int .i64 l.cells) [] := by
  have hb := lay_bds hl
  refine Fn.enter (Tryz.func51) rfl rfl (fun w0 R => ?_)
  refine sA (xB 0 rfl (fun bk0 => (xai rfl (dS (TC.draw [(0, true), (2, true), (1, false), (3, false), (4, true), (5, true), (6, true)] [0] fc_m (by kernel_rfl) (xL3 0 fc_a23_3 rfl rfl (xL3 0 fc_a23_3 rfl rfl (TL.callD [] [] (base_ok hl) ⟨rfl, trivial⟩ trivial fc_c92 rfl rfl rfl rfl rfl (kL1 rfl trivial) (TL.callD [] [] (nodes_ok hl) ⟨rfl, trivial⟩ trivial fc_c53 rfl rfl rfl rfl rfl (kL1 rfl trivial) ?_)))))))))
  refine TL.mul _ rfl rfl (wr64 (by omega)) rfl rfl (TL.add _ rfl rfl (wr64 (by omega)) rfl rfl (xai rfl (dR ?_)))
  refine FQ.ret1 (v := (.int _ _)) (Bs := []) [] rfl rfl rfl trivial ?_
  exact ⟨rfl, rfl⟩

theorem node_ok {l : Lay} (hl : l.Ok) {x : Int} : FnD Tryz.prog 63 [layV l, .int .i64 x] [] (.tuple #[thingV (l.node x).1, .bool (l.node x).2]) [] := by
  have hb := lay_bds hl
  refine Fn.enter (Tryz.func63) rfl rfl (fun w0 R => ?_)
  refine sA (xB 0 rfl (fun bk0 => (TL.alloc 1 (cs := #[.bool false, .int .i64 0, .int .i64 0, .int .i64 0, .int .i64 0]) fc_z114 rfl rfl rfl (fun _ => trivial) (fun bk1 => (xaf rfl (dB (xmi rfl (TL.sub _ rfl rfl (rfl) rfl rfl (xL3 0 fc_a23_3 rfl rfl (TL.callD [] [] (nodes_ok hl) ⟨rfl, trivial⟩ trivial fc_c53 rfl rfl rfl rfl rfl trivial ?_))))))))))
  refine TL.callD [] [] below_ok ⟨rfl, rfl, trivial⟩ trivial fc_c95 rfl rfl rfl rfl rfl trivial (TL.casesP rfl (fun q1 => ?_) (fun q1 => ?_))
  refine xnt rfl (dF rfl (xmi rfl (TL.sub _ rfl rfl (rfl) rfl rfl (xai rfl (dS (TC.draw [(0, true), (2, true), (3, true), (1, false), (4, true), (5, true)] [0] fc_m (by kernel_rfl) (xL3 0 fc_a23_3 rfl rfl (xf 0 fc_f23_0_0 rfl ?_))))))))
  refine xli 0 fc_s3 rfl rfl (TL.callD [] [] (levels_ok hl) ⟨rfl, trivial⟩ trivial fc_c19 rfl rfl rfl rfl rfl (kL1 rfl trivial) (TL.mul _ rfl rfl (wr64 (by omega)) rfl rfl (xai rfl (dB (xmi rfl (xmi rfl (TL.lss rfl rfl rfl rfl (fun q2 => ?_) (fun q2 => ?_))))))))
  refine TL.done (TQ.then (TC.condT rfl (TC.seq (TC.draw [(0, true), (1, true), (2, true), (3, true), (4, true), (5, true), (6, true), (7, true), (8, true), (9, false), (10, true)] [0] fc_m (by kernel_rfl) (xmi rfl (xf 0 fc_f23_0_0 rfl (xli 0 fc_s3 rfl rfl (TL.quo _ rfl rfl (by omega) (quo64 (by omega) (by omega) (by omega)) rfl rfl ?_))))))))
  refine xmi rfl (xf 0 fc_f23_0_0 rfl (xli 0 fc_s3 rfl rfl (TL.rem _ rfl rfl (by omega) (rem64 (by omega)) rfl rfl (TL.bld [.bool false, .int .i64 0, .int .i64 0, .int .i64 0, .int .i64 0] [(.int _ _), (.int _ _)] [_, _, _, _, _] fc_z114 fc_q114 ⟨rfl, rfl, trivial⟩ ⟨rfl, rfl⟩ rfl rfl (TL.stW 1 5 [_, _, _, _, _] rfl rfl rfl rfl rfl rfl fc_a114_5 rfl rfl (kL1 rfl trivial) (xat rfl (dRR ?_)))))))
  refine FQ.retG (rs := [.cell 4 114, .tmp 5]) [(.agg _), (.bool true)] (Bs := []) [] rfl ⟨⟨_, _, _, _, _, 1, rfl, rfl, .inr ⟨5, [_, _, _, _, _], fc_a114_5, rfl, rfl⟩⟩, rfl, trivial⟩ rfl rfl trivial ?_
  first | exact ⟨by unfold Lay.node; simp only []; rw [if_neg (by omega)]; rfl, rfl⟩ | exact ⟨by unfold Lay.node; simp only []; rw [if_pos (by omega), if_pos (by omega)]; rfl, rfl⟩ | exact ⟨by unfold Lay.node; simp only []; rw [if_pos (by omega), if_neg (by omega)]; rfl, rfl⟩
  refine dF rfl (xmi rfl (xmi rfl (TL.sub _ rfl rfl (wr64 (by omega)) rfl rfl (xai rfl (dS (TC.draw [(0, true), (1, true), (4, true), (5, true), (9, true), (10, true), (2, false), (3, true), (6, false), (7, true), (8, true), (11, true), (12, false), (13, true)] [0] fc_m (by kernel_rfl) (xmi rfl (xL3 0 fc_a23_3 rfl rfl ?_))))))))
  refine xmi rfl (xL3 0 fc_a23_3 rfl rfl (xmi rfl (TL.rem _ rfl rfl (by omega) (rem64 (by omega)) rfl rfl (TL.callD [] [] (arcs_ok hl) ⟨rfl, trivial⟩ trivial fc_c93 rfl rfl rfl rfl rfl (kL1 rfl trivial) (TL.quo _ rfl rfl (by omega) (quo64 (by omega) (by omega) (by omega)) rfl rfl (TL.callD [] [] (arcs_ok hl) ⟨rfl, trivial⟩ trivial fc_c93 rfl rfl rfl rfl rfl (kL1 rfl trivial) (TL.rem _ rfl rfl (by omega) (rem64 (by omega)) rfl rfl (TL.quo _ rfl rfl (by omega) (quo64 (Int.emod_nonneg _ (by omega)) (by omega) (by have := Int.emod_lt_of_pos (IntKind.i64.wrap (x - 1) - l.lev * l.V) (b := l.arcs) (by omega); omega)) rfl rfl ?_))))))))
  refine TL.bld [.bool false, .int .i64 0, .int .i64 0, .int .i64 0, .int .i64 0] [(.bool true), (.int _ _), (.int _ _), (.int _ _)] [_, _, _, _, _] fc_z114 fc_q114 ⟨rfl, rfl, rfl, rfl, trivial⟩ ⟨rfl, rfl⟩ rfl rfl (TL.stW 1 5 [_, _, _, _, _] rfl rfl rfl rfl rfl rfl fc_a114_5 rfl rfl (kL1 rfl trivial) (xat rfl (dR ?_)))
  refine FQ.retG (rs := [.cell 4 114, .tmp 5]) [(.agg _), (.bool true)] (Bs := []) [] rfl ⟨⟨_, _, _, _, _, 1, rfl, rfl, .inr ⟨5, [_, _, _, _, _], fc_a114_5, rfl, rfl⟩⟩, rfl, trivial⟩ rfl rfl trivial ?_
  first | exact ⟨by unfold Lay.node; simp only []; rw [if_neg (by omega)]; rfl, rfl⟩ | exact ⟨by unfold Lay.node; simp only []; rw [if_pos (by omega), if_pos (by omega)]; rfl, rfl⟩ | exact ⟨by unfold Lay.node; simp only []; rw [if_pos (by omega), if_neg (by omega)]; rfl, rfl⟩
  refine xnf rfl (dT rfl (TL.bld [.bool false, .int .i64 0, .int .i64 0, .int .i64 0, .int .i64 0] [] [_, _, _, _, _] fc_z114 fc_q114 trivial ⟨rfl, rfl⟩ rfl rfl (TL.stW 1 5 [_, _, _, _, _] rfl rfl rfl rfl rfl rfl fc_a114_5 rfl rfl trivial (xaf rfl (dRR ?_)))))
  refine FQ.retG (rs := [.cell 4 114, .tmp 5]) [(.agg _), (.bool false)] (Bs := []) [] rfl ⟨⟨_, _, _, _, _, 1, rfl, rfl, .inr ⟨5, [_, _, _, _, _], fc_a114_5, rfl, rfl⟩⟩, rfl, trivial⟩ rfl rfl trivial ?_
  first | exact ⟨by unfold Lay.node; simp only []; rw [if_neg (by omega)]; rfl, rfl⟩ | exact ⟨by unfold Lay.node; simp only []; rw [if_pos (by omega), if_pos (by omega)]; rfl, rfl⟩ | exact ⟨by unfold Lay.node; simp only []; rw [if_pos (by omega), if_neg (by omega)]; rfl, rfl⟩

theorem within_ok {n m : Int} : FnD Tryz.prog 166 [.int .i64 n, .int .i64 m] [] (.bool (decide (0 ≤ n ∧ n ≤ m))) [] := by
  refine Fn.enter (Tryz.func166) rfl rfl (fun w0 R => ?_)
  refine sA (xaf rfl (dA (xmi rfl (TL.geq rfl rfl rfl rfl (fun q1 => ?_) (fun q1 => ?_)))))
  refine xmt rfl (xmi rfl (xmi rfl (TL.leqV rfl rfl rfl rfl (TL.pickT (.bool _) rfl rfl rfl rfl (xab rfl (dR ?_))))))
  refine FQ.ret1 (v := (.bool _)) (Bs := []) [] rfl rfl rfl trivial ?_
  first | exact ⟨bT (by omega), rfl⟩ | exact ⟨bF (by omega), rfl⟩ | exact ⟨congrArg Value.bool (decide_eq_decide.2 (by omega)), rfl⟩
  refine xmf rfl (xo rfl (xo rfl (xo rfl (xpF rfl (xaf rfl (dR ?_))))))
  refine FQ.ret1 (v := (.bool false)) (Bs := []) [] rfl rfl rfl trivial ?_
  first | exact ⟨bT (by omega), rfl⟩ | exact ⟨bF (by omega), rfl⟩ | exact ⟨congrArg Value.bool (decide_eq_decide.2 (by omega)), rfl⟩

theorem plainW_ok {o m t g : Int} : FnD Tryz.prog 167 [.agg #[.int .i64 o, .int .i64 m, .int .i64 t, .int .i64 g]] [] (.bool (decide (t = 0))) [] := by
  refine Fn.enter (Tryz.func167) rfl rfl (fun w0 R => ?_)
  refine sA (xB 0 rfl (fun bk0 => (xaf rfl (dA (xf 2 fc_f184_2_2 rfl (xli 0 fc_s3 rfl rfl (TL.eqlV rfl rfl rfl rfl (xab rfl (dR ?_)))))))))
  refine FQ.ret1 (v := (.bool _)) (Bs := []) [] rfl rfl rfl trivial ?_
  exact ⟨rfl, rfl⟩

theorem wright_ok {o m t g : Int} : FnD Tryz.prog 165 [.agg #[.int .i64 o, .int .i64 m, .int .i64 t, .int .i64 g]] [] (.bool (⟨o, m, t, g⟩ : Wd).right) [] := by
  refine Fn.enter (Tryz.func165) rfl rfl (fun w0 R => ?_)
  refine sA (xB 0 rfl (fun bk0 => (xaf rfl (dB (xf 0 fc_f184_0_0 rfl (xli 0 fc_s3 rfl rfl (TL.callD [] [] within_ok ⟨rfl, rfl, trivial⟩ trivial fc_c166 rfl rfl rfl rfl rfl trivial (TL.casesP rfl (fun q1 => ?_) (fun q1 => ?_)))))))))
  refine xnt rfl (xmf rfl (xf 1 fc_f184_1_1 rfl (xli 0 fc_s3 rfl rfl (TL.callD [] [] within_ok ⟨rfl, rfl, trivial⟩ trivial fc_c166 rfl rfl rfl rfl rfl trivial (TL.casesP rfl (fun q2 => ?_) (fun q2 => ?_))))))
  refine xnt rfl (xpF rfl (xmf rfl (xf 2 fc_f184_2_2 rfl (xli 0 fc_s3 rfl rfl (TL.callD [] [] within_ok ⟨rfl, rfl, trivial⟩ trivial fc_c166 rfl rfl rfl rfl rfl trivial (TL.casesP rfl (fun q3 => ?_) (fun q3 => ?_)))))))
  refine xnt rfl (xpF rfl (xmf rfl (xf 3 fc_f184_3_3 rfl (xli 0 fc_s3 rfl rfl (TL.callD [] [] within_ok ⟨rfl, rfl, trivial⟩ trivial fc_c166 rfl rfl rfl rfl rfl trivial (TL.casesP rfl (fun q4 => ?_) (fun q4 => ?_)))))))
  refine xnt rfl (xpF rfl (dF rfl (xL4 0 fc_a184_4 rfl rfl (TL.callD [] [] plainW_ok ⟨rfl, trivial⟩ trivial fc_c167 rfl rfl rfl rfl rfl trivial (TL.casesP rfl (fun q5 => ?_) (fun q5 => ?_))))))
  refine xnt rfl (xmf rfl (xf 0 fc_f184_0_0 rfl (xli 0 fc_s3 rfl rfl (xf 1 fc_f184_1_1 rfl (xli 0 fc_s3 rfl rfl (TL.eql rfl rfl rfl rfl (fun q6 => ?_) (fun q6 => ?_)))))))
  refine xmt rfl (xf 3 fc_f184_3_3 rfl (xli 0 fc_s3 rfl rfl (TL.eqlV rfl rfl rfl rfl (TL.pickT (.bool _) rfl rfl rfl rfl (TL.pickF (.bool _) rfl rfl rfl rfl (xab rfl (dR ?_)))))))
  refine FQ.ret1 (v := (.bool _)) (Bs := []) [] rfl rfl rfl trivial ?_
  exact ⟨congrArg Value.bool (by simp [Wd.right, *]), rfl⟩
  refine xmf rfl (xo rfl (xo rfl (xo rfl (xpF rfl (xpF rfl (xaf rfl (dR ?_)))))))
  refine FQ.ret1 (v := (.bool false)) (Bs := []) [] rfl rfl rfl trivial ?_
  exact ⟨congrArg Value.bool (by simp [Wd.right, *]), rfl⟩
  refine xnf rfl (xmt rfl (xo rfl (xo rfl (xo rfl (xo rfl (xo rfl (xo rfl (xo rfl ?_))))))))
  refine xo rfl (xo rfl (xo rfl (xpT rfl (xat rfl (dR ?_)))))
  refine FQ.ret1 (v := (.bool true)) (Bs := []) [] rfl rfl rfl trivial ?_
  exact ⟨congrArg Value.bool (by simp [Wd.right, *]), rfl⟩
  refine xnf rfl (xpH rfl (dT rfl (xaf rfl (dRR ?_))))
  refine FQ.ret1 (v := (.bool false)) (Bs := []) [] rfl rfl rfl trivial ?_
  exact ⟨congrArg Value.bool (by simp [Wd.right, *]), rfl⟩
  refine xnf rfl (xpH rfl (xmt rfl (xo rfl (xo rfl (xo rfl (xo rfl (xpT rfl (dT rfl ?_))))))))
  refine xaf rfl (dRR ?_)
  refine FQ.ret1 (v := (.bool false)) (Bs := []) [] rfl rfl rfl trivial ?_
  exact ⟨congrArg Value.bool (by simp [Wd.right, *]), rfl⟩
  refine xnf rfl (xpH rfl (xmt rfl (xo rfl (xo rfl (xo rfl (xo rfl (xpT rfl (xmt rfl ?_))))))))
  refine xo rfl (xo rfl (xo rfl (xo rfl (xpT rfl (dT rfl (xaf rfl (dRR ?_)))))))
  refine FQ.ret1 (v := (.bool false)) (Bs := []) [] rfl rfl rfl trivial ?_
  exact ⟨congrArg Value.bool (by simp [Wd.right, *]), rfl⟩
  refine xnf rfl (xmt rfl (xo rfl (xo rfl (xo rfl (xo rfl (xpT rfl (xmt rfl (xo rfl ?_))))))))
  refine xo rfl (xo rfl (xo rfl (xpT rfl (xmt rfl (xo rfl (xo rfl (xo rfl (xo rfl ?_))))))))
  refine xpT rfl (dT rfl (xaf rfl (dRR ?_)))
  refine FQ.ret1 (v := (.bool false)) (Bs := []) [] rfl rfl rfl trivial ?_
  exact ⟨congrArg Value.bool (by simp [Wd.right, *]), rfl⟩

theorem pack_ok {o m t g : Int} : FnD Tryz.prog 163 [.agg #[.int .i64 o, .int .i64 m, .int .i64 t, .int .i64 g]] [] (.tuple #[.int .u64 (if (⟨o, m, t, g⟩ : Wd).right then (⟨o, m, t, g⟩ : Wd).pack else 0), .int .i64 (if (⟨o, m, t, g⟩ : Wd).right then 0 else 11)]) [] := by
  refine Fn.enter (Tryz.func163) rfl rfl (fun w0 R => ?_)
  refine sA (xB 0 rfl (fun bk0 => (xai rfl (xai rfl (dB (xL4 0 fc_a184_4 rfl rfl (TL.callD [] [] wright_ok ⟨rfl, trivial⟩ trivial fc_c165 rfl rfl rfl rfl rfl trivial (TL.cases rfl (fun q1 => ?_) (fun q1 => ?_)))))))))
  refine xnt rfl (dF rfl (xf 1 fc_f184_1_1 rfl (xli 0 fc_s3 rfl rfl (TL.conv _ rfl fc_u3 fc_i110_u64 (rfl) rfl rfl (xf 0 fc_f184_0_0 rfl (xli 0 fc_s3 rfl rfl (TL.conv _ rfl fc_u3 fc_i110_u64 (rfl) rfl rfl (TL.shl _ rfl rfl (by decide) rfl rfl rfl ?_))))))))
  refine TL.or _ rfl rfl rfl rfl rfl (xf 2 fc_f184_2_2 rfl (xli 0 fc_s3 rfl rfl (TL.conv _ rfl fc_u3 fc_i110_u64 (rfl) rfl rfl (TL.shl _ rfl rfl (by decide) rfl rfl rfl (TL.or _ rfl rfl rfl rfl rfl (xf 3 fc_f184_3_3 rfl (xli 0 fc_s3 rfl rfl (TL.conv _ rfl fc_u3 fc_i110_u64 (rfl) rfl rfl ?_))))))))
  refine TL.shl _ rfl rfl (by decide) rfl rfl rfl (TL.or _ rfl rfl rfl rfl rfl (xai rfl (xai rfl (dR ?_))))
  refine FQ.ret2 (v := (.int _ _)) (x := (.int _ _)) (Bs := []) [] rfl rfl rfl rfl trivial ?_
  exact ⟨by simp only [*, if_true, Bool.false_eq_true, if_false] <;> rfl, rfl⟩
  refine xnf rfl (dT rfl (xai rfl (xai rfl (dRR ?_))))
  refine FQ.ret2 (v := (.int _ _)) (x := (.int _ _)) (Bs := []) [] rfl rfl rfl rfl trivial ?_
  exact ⟨by simp only [*, if_true, Bool.false_eq_true, if_false] <;> rfl, rfl⟩

theorem bits_ok {v a n : Int} (ha : 0 ≤ a) (hn : 0 ≤ n) : FnD Tryz.prog 164 [.int .u64 v, .int .i64 a, .int .i64 n] [] (.int .i64 (bitsI v a n)) [] := by
  refine Fn.enter (Tryz.func164) rfl rfl (fun w0 R => ?_)
  refine sA (xai rfl (dS (TC.draw [(0, true), (1, true), (2, true), (3, true), (4, true), (5, true), (6, true), (7, true), (8, true)] [] fc_m (by kernel_rfl) (xmi rfl (xmi rfl (TL.shr _ rfl rfl (by omega) rfl rfl rfl (xmi rfl (TL.shl _ rfl rfl (by omega) rfl rfl rfl ?_))))))))
  refine TL.sub _ rfl rfl (rfl) rfl rfl (TL.and _ rfl rfl rfl rfl rfl (TL.conv _ rfl fc_u110 fc_i3_i64 (rfl) rfl rfl (xai rfl (dR ?_))))
  refine FQ.ret1 (v := (.int _ _)) (Bs := []) [] rfl rfl rfl trivial ?_
  exact ⟨iE (by unfold bitsI andU shrU shlU; rw [Int.one_mul]), rfl⟩

theorem unpack_ok {v : Int} : FnD Tryz.prog 162 [.int .u64 v] [] (.tuple #[wdV (unpack v).1, .int .i64 (if (unpack v).2 then 0 else 21)]) [] := by
  refine Fn.enter (Tryz.func162) rfl rfl (fun w0 R => ?_)
  refine sA (TL.alloc 0 (cs := #[.int .i64 0, .int .i64 0, .int .i64 0, .int .i64 0]) fc_z184 rfl rfl rfl (fun _ => trivial) (fun bk0 => (xai rfl (dA (xmi rfl (TL.callD [] [] (bits_ok (by decide) (by decide)) ⟨rfl, rfl, rfl, trivial⟩ trivial fc_c164 rfl rfl rfl rfl rfl trivial (xmi rfl (TL.callD [] [] (bits_ok (by decide) (by decide)) ⟨rfl, rfl, rfl, trivial⟩ trivial fc_c164 rfl rfl rfl rfl rfl trivial (xmi rfl ?_)))))))))
  refine TL.callD [] [] (bits_ok (by decide) (by decide)) ⟨rfl, rfl, rfl, trivial⟩ trivial fc_c164 rfl rfl rfl rfl rfl trivial (xmi rfl (TL.shr _ rfl rfl (by decide) rfl rfl rfl (TL.conv _ rfl fc_u110 fc_i3_i64 (rfl) rfl rfl (TL.bld [.int .i64 0, .int .i64 0, .int .i64 0, .int .i64 0] [(.int _ _), (.int _ _), (.int _ _), (.int _ _)] [_, _, _, _] fc_z184 fc_q184 ⟨rfl, rfl, rfl, rfl, trivial⟩ ⟨rfl, rfl⟩ rfl rfl (TL.alloc 1 (cs := #[.int .i64 0, .int .i64 0, .int .i64 0, .int .i64 0]) fc_z184 rfl rfl rfl (fun _ => trivial) (fun bk1 => (TL.stW 1 4 [_, _, _, _] rfl rfl rfl rfl rfl rfl fc_a184_4 rfl rfl trivial (dB (xL4 1 fc_a184_4 rfl rfl ?_)))))))))
  refine TL.callD [] [] wright_ok ⟨rfl, trivial⟩ trivial fc_c165 rfl rfl rfl rfl rfl trivial (TL.cases rfl (fun q1 => ?_) (fun q1 => ?_))
  refine xnt rfl (dF rfl (xL4 1 fc_a184_4 rfl rfl (TL.stW 0 4 [_, _, _, _] rfl rfl rfl rfl rfl rfl fc_a184_4 rfl rfl trivial (xai rfl (dR ?_)))))
  refine FQ.retG (rs := [.cell 2 184, .tmp 3]) [(.agg _), (.int _ _)] (Bs := []) [] rfl ⟨⟨_, _, _, _, _, 0, rfl, rfl, .inr ⟨4, [_, _, _, _], fc_a184_4, rfl, rfl⟩⟩, rfl, trivial⟩ rfl rfl trivial ?_
  first | exact ⟨(by have q : (unpackW v).right = true := ‹(unpackW v).right = true›; simp only [unpack, q, if_true]; rfl), rfl⟩ | exact ⟨(by have q : (unpackW v).right = false := ‹(unpackW v).right = false›; simp only [unpack, q, Bool.false_eq_true, if_false]; rfl), rfl⟩
  refine xnf rfl (dT rfl (TL.bld [.int .i64 0, .int .i64 0, .int .i64 0, .int .i64 0] [] [_, _, _, _] fc_z184 fc_q184 trivial ⟨rfl, rfl⟩ rfl rfl (TL.stW 0 4 [_, _, _, _] rfl rfl rfl rfl rfl rfl fc_a184_4 rfl rfl trivial (xai rfl (dRR ?_)))))
  refine FQ.retG (rs := [.cell 2 184, .tmp 3]) [(.agg _), (.int _ _)] (Bs := []) [] rfl ⟨⟨_, _, _, _, _, 0, rfl, rfl, .inr ⟨4, [_, _, _, _], fc_a184_4, rfl, rfl⟩⟩, rfl, trivial⟩ rfl rfl trivial ?_
  first | exact ⟨(by have q : (unpackW v).right = true := ‹(unpackW v).right = true›; simp only [unpack, q, if_true]; rfl), rfl⟩ | exact ⟨(by have q : (unpackW v).right = false := ‹(unpackW v).right = false›; simp only [unpack, q, Bool.false_eq_true, if_false]; rfl), rfl⟩

theorem writeF_ok {p : Pen} {x o m t g : Int} {b1 b2 : Nat} : FnD Tryz.prog 155 [.agg #[.int .i64 o, .int .i64 m, .int .i64 t, .int .i64 g], .pointer (some ⟨b1, 0, none⟩), .pointer (some ⟨b2, 0, none⟩)] [pt b1 (.cells #[.int .i64 p.thread, .int .i64 p.tag] 41), pt b2 (.cells #[.int .i64 x] 3)] (wdV (p.to x (⟨o, m, t, g⟩ : Wd))) [pt b1 (.cells #[.int .i64 p.thread, .int .i64 p.tag] 41), pt b2 (.cells #[.int .i64 x] 3)] := by
  refine Fn.enter (Tryz.func155) rfl rfl (fun w0 R => ?_)
  refine sA (xB 2 rfl (fun bk2 => (TL.alloc 3 (cs := #[.int .i64 0, .int .i64 0, .int .i64 0, .int .i64 0]) fc_z184 rfl rfl rfl (fun _ => trivial) (fun bk3 => (dB (xf 2 fc_f184_2_2 rfl (xli 2 fc_s3 rfl rfl (xf 0 fc_f41_0_0 rfl (xli 0 fc_s3 rfl rfl (TL.neq rfl rfl rfl rfl (fun q1 => ?_) (fun q1 => ?_)))))))))))
  refine xmt rfl (xo rfl (xo rfl (xo rfl (xo rfl (xo rfl (xpT rfl (TL.done (TQ.then ?_))))))))
  refine TC.condT rfl (TC.region (xf 1 fc_f184_1_1 rfl (xli 2 fc_s3 rfl rfl (xf 0 fc_f184_0_0 rfl (TL.st 2 #[_, _, _, _] (.int _ _) rfl rfl rfl rfl rfl rfl fc_s3 rfl rfl trivial (dA (xf 0 fc_f184_0_0 rfl (xli 2 fc_s3 rfl rfl ?_))))))))
  refine xli 1 fc_s3 rfl rfl (xf 0 fc_f41_0_0 rfl (xli 0 fc_s3 rfl rfl (xf 1 fc_f41_1_1 rfl (xli 0 fc_s3 rfl rfl (TL.bld [.int .i64 0, .int .i64 0, .int .i64 0, .int .i64 0] [(.int _ _), (.int _ _), (.int _ _), (.int _ _)] [_, _, _, _] fc_z184 fc_q184 ⟨rfl, rfl, rfl, rfl, trivial⟩ ⟨rfl, rfl⟩ rfl rfl (TL.stW 3 4 [_, _, _, _] rfl rfl rfl rfl rfl rfl fc_a184_4 rfl rfl trivial (dR ?_)))))))
  refine FQ.retG (rs := [.cell 4 184]) [(.agg _)] (Bs := [pt b1 (.cells #[.int .i64 p.thread, .int .i64 p.tag] 41), pt b2 (.cells #[.int .i64 x] 3)]) [0, 1] rfl ⟨⟨_, _, _, _, _, 3, rfl, rfl, .inr ⟨4, [_, _, _, _], fc_a184_4, rfl, rfl⟩⟩, trivial⟩ rfl rfl ⟨rfl, rfl, trivial⟩ ?_
  first | exact ⟨(by unfold Pen.to; dsimp only; rw [if_pos (by omega)]; rfl), rfl⟩ | exact ⟨(by unfold Pen.to; dsimp only; rw [if_neg (by omega)]; rfl), rfl⟩
  refine xmf rfl (xf 3 fc_f184_3_3 rfl (xli 2 fc_s3 rfl rfl (xf 1 fc_f41_1_1 rfl (xli 0 fc_s3 rfl rfl (TL.neq rfl rfl rfl rfl (fun q2 => ?_) (fun q2 => ?_))))))
  refine xpH rfl (TL.done (TQ.then (TC.condT rfl (TC.region (xf 1 fc_f184_1_1 rfl (xli 2 fc_s3 rfl rfl (xf 0 fc_f184_0_0 rfl (TL.st 2 #[_, _, _, _] (.int _ _) rfl rfl rfl rfl rfl rfl fc_s3 rfl rfl trivial ?_))))))))
  refine dA (xf 0 fc_f184_0_0 rfl (xli 2 fc_s3 rfl rfl (xli 1 fc_s3 rfl rfl (xf 0 fc_f41_0_0 rfl (xli 0 fc_s3 rfl rfl (xf 1 fc_f41_1_1 rfl (xli 0 fc_s3 rfl rfl (TL.bld [.int .i64 0, .int .i64 0, .int .i64 0, .int .i64 0] [(.int _ _), (.int _ _), (.int _ _), (.int _ _)] [_, _, _, _] fc_z184 fc_q184 ⟨rfl, rfl, rfl, rfl, trivial⟩ ⟨rfl, rfl⟩ rfl rfl ?_))))))))
  refine TL.stW 3 4 [_, _, _, _] rfl rfl rfl rfl rfl rfl fc_a184_4 rfl rfl trivial (dR ?_)
  refine FQ.retG (rs := [.cell 4 184]) [(.agg _)] (Bs := [pt b1 (.cells #[.int .i64 p.thread, .int .i64 p.tag] 41), pt b2 (.cells #[.int .i64 x] 3)]) [0, 1] rfl ⟨⟨_, _, _, _, _, 3, rfl, rfl, .inr ⟨4, [_, _, _, _], fc_a184_4, rfl, rfl⟩⟩, trivial⟩ rfl rfl ⟨rfl, rfl, trivial⟩ ?_
  first | exact ⟨(by unfold Pen.to; dsimp only; rw [if_pos (by omega)]; rfl), rfl⟩ | exact ⟨(by unfold Pen.to; dsimp only; rw [if_neg (by omega)]; rfl), rfl⟩
  refine xpF rfl (dF rfl (xf 0 fc_f184_0_0 rfl (xli 2 fc_s3 rfl rfl (xli 1 fc_s3 rfl rfl (xf 0 fc_f41_0_0 rfl (xli 0 fc_s3 rfl rfl (xf 1 fc_f41_1_1 rfl (xli 0 fc_s3 rfl rfl ?_))))))))
  refine TL.bld [.int .i64 0, .int .i64 0, .int .i64 0, .int .i64 0] [(.int _ _), (.int _ _), (.int _ _), (.int _ _)] [_, _, _, _] fc_z184 fc_q184 ⟨rfl, rfl, rfl, rfl, trivial⟩ ⟨rfl, rfl⟩ rfl rfl (TL.stW 3 4 [_, _, _, _] rfl rfl rfl rfl rfl rfl fc_a184_4 rfl rfl trivial (dR ?_))
  refine FQ.retG (rs := [.cell 4 184]) [(.agg _)] (Bs := [pt b1 (.cells #[.int .i64 p.thread, .int .i64 p.tag] 41), pt b2 (.cells #[.int .i64 x] 3)]) [0, 1] rfl ⟨⟨_, _, _, _, _, 3, rfl, rfl, .inr ⟨4, [_, _, _, _], fc_a184_4, rfl, rfl⟩⟩, trivial⟩ rfl rfl ⟨rfl, rfl, trivial⟩ ?_
  first | exact ⟨(by unfold Pen.to; dsimp only; rw [if_pos (by omega)]; rfl), rfl⟩ | exact ⟨(by unfold Pen.to; dsimp only; rw [if_neg (by omega)]; rfl), rfl⟩

theorem change_w0 {S : Type} [MemLike S] {mt : TypeId} {mv : Value} {A : S → Assn} (hM : MemI Tryz.prog mt mv A) {σ : S} {p : Pen} {c x : Int} {b1 b2 : Nat} (h : (unpack (MemLike.get σ c)).2 = false) : FnD Tryz.prog 154 [.iface mt mv, .int .i64 c, .func (.func 155) #[] #[.pointer (some ⟨b1, 0, none⟩), .pointer (some ⟨b2, 0, none⟩)]] [A σ, pt b1 (.cells #[.int .i64 p.thread, .int .i64 p.tag] 41), pt b2 (.cells #[.int .i64 x] 3)] (.tuple #[]) [A (MemLike.ld σ c), pt b1 (.cells #[.int .i64 p.thread, .int .i64 p.tag] 41), pt b2 (.cells #[.int .i64 x] 3)] := by
  refine Fn.enter (Tryz.func154) rfl rfl (fun w0 R => ?_)
  refine sA (xmc rfl (xmi rfl (TL.mload 0 hM rfl rfl rfl rfl rfl trivial (TL.callD [] [] unpack_ok ⟨rfl, trivial⟩ trivial fc_c162 rfl rfl rfl rfl rfl trivial (xmu rfl (TL.ext (.agg _) rfl rfl rfl rfl (xei rfl rfl (TL.alloc 3 (cs := #[.int .i64 0, .int .i64 0, .int .i64 0, .int .i64 0]) fc_z184 rfl rfl rfl (fun _ => trivial) (fun bk3 => ?_)))))))))
  refine TL.stW 3 4 [_, _, _, _] rfl rfl rfl rfl rfl rfl fc_a184_4 rfl rfl trivial (xai rfl (dB (xmi rfl (TL.neqT rfl rfl (by rw [h]; decide) rfl rfl (TL.done (TQ.then (TC.condT rfl (TC.ret ?_))))))))
  refine TQ.thenRet ?_
  refine FQ.ret0 (Bs := [A (MemLike.ld σ c), pt b1 (.cells #[.int .i64 p.thread, .int .i64 p.tag] 41), pt b2 (.cells #[.int .i64 x] 3)]) [0, 1, 2] rfl rfl ⟨rfl, rfl, rfl, trivial⟩ ?_
  exact ⟨rfl, rfl⟩

theorem change_w1 {S : Type} [MemLike S] {mt : TypeId} {mv : Value} {A : S → Assn} (hM : MemI Tryz.prog mt mv A) {σ : S} {p : Pen} {c x : Int} {b1 b2 : Nat} (h : (unpack (MemLike.get σ c)).2 = true) (h2 : (p.to x (unpack (MemLike.get σ c)).1).right = false) : FnD Tryz.prog 154 [.iface mt mv, .int .i64 c, .func (.func 155) #[] #[.pointer (some ⟨b1, 0, none⟩), .pointer (some ⟨b2, 0, none⟩)]] [A σ, pt b1 (.cells #[.int .i64 p.thread, .int .i64 p.tag] 41), pt b2 (.cells #[.int .i64 x] 3)] (.tuple #[]) [A (MemLike.ld σ c), pt b1 (.cells #[.int .i64 p.thread, .int .i64 p.tag] 41), pt b2 (.cells #[.int .i64 x] 3)] := by
  refine Fn.enter (Tryz.func154) rfl rfl (fun w0 R => ?_)
  refine sA (xmc rfl (xmi rfl (TL.mload 0 hM rfl rfl rfl rfl rfl trivial (TL.callD [] [] unpack_ok ⟨rfl, trivial⟩ trivial fc_c162 rfl rfl rfl rfl rfl trivial (xmu rfl (TL.ext (.agg _) rfl rfl rfl rfl (xei rfl rfl (TL.alloc 3 (cs := #[.int .i64 0, .int .i64 0, .int .i64 0, .int .i64 0]) fc_z184 rfl rfl rfl (fun _ => trivial) (fun bk3 => ?_)))))))))
  refine TL.stW 3 4 [_, _, _, _] rfl rfl rfl rfl rfl rfl fc_a184_4 rfl rfl trivial (xai rfl (dB (xmi rfl (TL.neqF rfl rfl (by rw [h]; decide) rfl rfl (dF rfl (TL.mv (.func _ _ _) rfl rfl rfl (xL4 3 fc_a184_4 rfl rfl (TL.callC (c1 := []) (c2 := [_, _]) (vs := [_]) [1, 2] [1, 2] rfl writeF_ok ⟨rfl, trivial⟩ ⟨rfl, rfl, trivial⟩ fc_c155 rfl rfl rfl rfl rfl trivial ?_))))))))
  refine TL.callD [] [] pack_ok ⟨rfl, trivial⟩ trivial fc_c163 rfl rfl rfl rfl rfl trivial (xmu rfl (xei rfl rfl (xei rfl rfl (xai rfl (xai rfl (dA (xmi rfl (TL.eqlF rfl rfl (by rw [h2]; decide) rfl rfl ?_))))))))
  refine TL.done (TQ.then (TC.condF rfl (TC.skip ?_)))
  refine FQ.end0 (Bs := [A (MemLike.ld σ c), pt b1 (.cells #[.int .i64 p.thread, .int .i64 p.tag] 41), pt b2 (.cells #[.int .i64 x] 3)]) [0, 1, 2] rfl rfl ⟨rfl, rfl, rfl, trivial⟩ ?_
  exact ⟨rfl, rfl⟩

theorem change_w2 {S : Type} [MemLike S] {mt : TypeId} {mv : Value} {A : S → Assn} (hM : MemI Tryz.prog mt mv A) {σ : S} {p : Pen} {c x : Int} {b1 b2 : Nat} (h : (unpack (MemLike.get σ c)).2 = true) (h2 : (p.to x (unpack (MemLike.get σ c)).1).right = true) : FnD Tryz.prog 154 [.iface mt mv, .int .i64 c, .func (.func 155) #[] #[.pointer (some ⟨b1, 0, none⟩), .pointer (some ⟨b2, 0, none⟩)]] [A σ, pt b1 (.cells #[.int .i64 p.thread, .int .i64 p.tag] 41), pt b2 (.cells #[.int .i64 x] 3)] (.tuple #[]) [A (MemLike.st (MemLike.ld σ c) c (p.to x (unpack (MemLike.get σ c)).1).pack), pt b1 (.cells #[.int .i64 p.thread, .int .i64 p.tag] 41), pt b2 (.cells #[.int .i64 x] 3)] := by
  refine Fn.enter (Tryz.func154) rfl rfl (fun w0 R => ?_)
  refine sA (xmc rfl (xmi rfl (TL.mload 0 hM rfl rfl rfl rfl rfl trivial (TL.callD [] [] unpack_ok ⟨rfl, trivial⟩ trivial fc_c162 rfl rfl rfl rfl rfl trivial (xmu rfl (TL.ext (.agg _) rfl rfl rfl rfl (xei rfl rfl (TL.alloc 3 (cs := #[.int .i64 0, .int .i64 0, .int .i64 0, .int .i64 0]) fc_z184 rfl rfl rfl (fun _ => trivial) (fun bk3 => ?_)))))))))
  refine TL.stW 3 4 [_, _, _, _] rfl rfl rfl rfl rfl rfl fc_a184_4 rfl rfl trivial (xai rfl (dB (xmi rfl (TL.neqF rfl rfl (by rw [h]; decide) rfl rfl (dF rfl (TL.mv (.func _ _ _) rfl rfl rfl (xL4 3 fc_a184_4 rfl rfl (TL.callC (c1 := []) (c2 := [_, _]) (vs := [_]) [1, 2] [1, 2] rfl writeF_ok ⟨rfl, trivial⟩ ⟨rfl, rfl, trivial⟩ fc_c155 rfl rfl rfl rfl rfl trivial ?_))))))))
  refine TL.callD [] [] pack_ok ⟨rfl, trivial⟩ trivial fc_c163 rfl rfl rfl rfl rfl trivial (xmu rfl (xei rfl rfl (xei rfl rfl (xai rfl (xai rfl (dA (xmi rfl (TL.eqlT rfl rfl (by rw [h2]; decide) rfl rfl ?_))))))))
  refine TL.done (TQ.then (TC.condT rfl (TC.region (xmc rfl (xmi rfl (xmi rfl (TL.mstore 0 hM rfl rfl rfl (by rw [h2]; exact orU_rng _ _) rfl rfl rfl trivial (TL.done ?_))))))))
  refine FQ.end0 (Bs := [A _, pt b1 (.cells #[.int .i64 p.thread, .int .i64 p.tag] 41), pt b2 (.cells #[.int .i64 x] 3)]) [0, 1, 2] rfl rfl ⟨rfl, rfl, rfl, trivial⟩ ?_
  exact ⟨rfl, by rw [h2]; rfl⟩

theorem change_ok {S : Type} [MemLike S] {mt : TypeId} {mv : Value} {A : S → Assn} (hM : MemI Tryz.prog mt mv A) {σ : S} {p : Pen} {c x : Int} {b1 b2 : Nat} : FnD Tryz.prog 154 [.iface mt mv, .int .i64 c, .func (.func 155) #[] #[.pointer (some ⟨b1, 0, none⟩), .pointer (some ⟨b2, 0, none⟩)]] [A σ, pt b1 (.cells #[.int .i64 p.thread, .int .i64 p.tag] 41), pt b2 (.cells #[.int .i64 x] 3)] (.tuple #[]) [A (p.write σ c x), pt b1 (.cells #[.int .i64 p.thread, .int .i64 p.tag] 41), pt b2 (.cells #[.int .i64 x] 3)] := by
  unfold Pen.write
  cases h : (unpack (MemLike.get σ c)).2
  · exact change_w0 hM h
  · rw [if_pos rfl]
    cases h2 : (p.to x (unpack (MemLike.get σ c)).1).right
    · exact change_w1 hM h h2
    · exact change_w2 hM h h2

theorem write_ok {S : Type} [MemLike S] {mt : TypeId} {mv : Value} {A : S → Assn} (hM : MemI Tryz.prog mt mv A) {σ : S} {p : Pen} {c x : Int} : FnD Tryz.prog 133 [.agg #[.int .i64 p.thread, .int .i64 p.tag], .iface mt mv, .int .i64 c, .int .i64 x] [A σ] (.tuple #[]) [A (p.write σ c x)] := by
  refine Fn.enter (Tryz.func133) rfl rfl (fun w0 R => ?_)
  refine sA (xB 1 rfl (fun bk1 => (TL.box1 2 (.int _ _) rfl rfl rfl rfl (fun _ => trivial) (fun bk2 => (dG (xmc rfl (xmi rfl (TL.mf (xs := []) (ys := [_, _]) [] [_, _] trivial ⟨rfl, rfl, trivial⟩ rfl rfl (TL.callD [0, 1, 2] [0, 1, 2] (change_ok hM) ⟨rfl, rfl, rfl, trivial⟩ ⟨rfl, rfl, rfl, trivial⟩ fc_c154 rfl rfl rfl rfl rfl trivial (TL.done ?_))))))))))
  refine FQ.end0 (Bs := [A (p.write σ c x)]) [0] rfl rfl ⟨rfl, trivial⟩ ?_
  exact ⟨rfl, rfl⟩

theorem new_ok {S : Type} [MemLike S] {mt : TypeId} {mv : Value} {A : S → Assn} (hM : MemI Tryz.prog mt mv A) {σ : S} {c : Int} : FnD Tryz.prog 152 [.iface mt mv, .int .i64 c] [A σ] (.int .i64 (pnew σ c)) [A (MemLike.ld σ c)] := by
  refine Fn.enter (Tryz.func152) rfl rfl (fun w0 R => ?_)
  refine sA (xai rfl (dA (xmc rfl (xmi rfl (TL.mload 0 hM rfl rfl rfl rfl rfl trivial (TL.callD [] [] unpack_ok ⟨rfl, trivial⟩ trivial fc_c162 rfl rfl rfl rfl rfl trivial (xmu rfl (TL.ext (.agg _) rfl rfl rfl rfl ?_))))))))
  refine xei rfl rfl (TL.alloc 1 (cs := #[.int .i64 0, .int .i64 0, .int .i64 0, .int .i64 0]) fc_z184 rfl rfl rfl (fun _ => trivial) (fun bk1 => (TL.stW 1 4 [_, _, _, _] rfl rfl rfl rfl rfl rfl fc_a184_4 rfl rfl trivial (xai rfl (dA (xf 1 fc_f184_1_1 rfl (xli 1 fc_s3 rfl rfl (xai rfl (dR ?_)))))))))
  refine FQ.ret1 (v := (.int _ _)) (Bs := [A (MemLike.ld σ c)]) [0] rfl rfl rfl ⟨rfl, trivial⟩ ?_
  exact ⟨rfl, rfl⟩

theorem tget_ok {S : Type} [MemLike S] {mt : TypeId} {mv : Value} {A : S → Assn} (hM : MemI Tryz.prog mt mv A) {l : Lay} (hl : l.Ok) {p : Pen} {σ : S} {x f : Int} : FnD Tryz.prog 139 [treesV l mt mv p, .int .i64 x, .int .i64 f] [A σ] (.int .i64 (tget l σ x f)) [A (tgetS l σ x f)] := by
  refine Fn.enter (Tryz.func139) rfl rfl (fun w0 R => ?_)
  refine sA (xB 1 rfl (fun bk1 => (xai rfl (dS (TC.draw [(0, true), (1, true), (2, true), (3, true), (4, true), (5, true), (7, true), (8, true), (6, false), (9, false), (10, true), (11, true)] [1] fc_m (by kernel_rfl) (xf 3 fc_f43_1_3 rfl (xlc 1 fc_s39 rfl rfl (xf 0 fc_f43_0_0 rfl (xL3 1 fc_a23_3 rfl rfl ?_)))))))))
  refine xmi rfl (xmi rfl (TL.ncI rfl rfl rfl (xmc rfl (TL.callD [] [] (field_ok hl) ⟨rfl, rfl, rfl, trivial⟩ trivial fc_c55 rfl rfl rfl rfl rfl (kL1 rfl trivial) (TL.mload 0 hM rfl rfl rfl rfl rfl (kL1 rfl trivial) (TL.conv _ rfl fc_u110 fc_i3_i64 (rfl) rfl rfl (xai rfl (dR ?_))))))))
  refine FQ.ret1 (v := (.int _ _)) (Bs := [A _]) [0] rfl rfl rfl ⟨rfl, trivial⟩ ?_
  exact ⟨rfl, rfl⟩

theorem tput_ok {S : Type} [MemLike S] {mt : TypeId} {mv : Value} {A : S → Assn} (hM : MemI Tryz.prog mt mv A) {l : Lay} (hl : l.Ok) {p : Pen} {σ : S} {x f v : Int} : FnD Tryz.prog 96 [treesV l mt mv p, .int .i64 x, .int .i64 f, .int .i64 v] [A σ] (.tuple #[]) [A (tput l σ x f v)] := by
  refine Fn.enter (Tryz.func96) rfl rfl (fun w0 R => ?_)
  refine sA (xB 1 rfl (fun bk1 => (TL.done (TQ.then (TC.draw [(0, true), (1, true), (2, true), (3, true), (4, true), (5, true), (7, true), (8, true), (9, true), (10, true), (6, false), (11, false)] [1] fc_m (by kernel_rfl) (xf 3 fc_f43_1_3 rfl (xlc 1 fc_s39 rfl rfl (xf 0 fc_f43_0_0 rfl (xL3 1 fc_a23_3 rfl rfl ?_)))))))))
  refine xmi rfl (xmi rfl (xmi rfl (TL.conv _ rfl fc_u3 fc_i110_u64 (rfl) rfl rfl (TL.ncI rfl rfl rfl (xmc rfl (TL.callD [] [] (field_ok hl) ⟨rfl, rfl, rfl, trivial⟩ trivial fc_c55 rfl rfl rfl rfl rfl (kL1 rfl trivial) (TL.mstore 0 hM rfl rfl rfl (by first | exact wu_rng _ | exact orU_rng _ _ | exact MemLike.rng _ _ | decide | assumption) rfl rfl rfl (kL1 rfl trivial) (TL.done ?_))))))))
  refine FQ.end0 (Bs := [A _]) [0] rfl rfl ⟨rfl, trivial⟩ ?_
  exact ⟨rfl, rfl⟩

theorem shown_ok {mt : TypeId} {mv : Value} {l : Lay} (hl : l.Ok) {p : Pen} {x : Int} : FnD Tryz.prog 132 [treesV l mt mv p, .int .i64 x] [] (.bool (shown l x)) [] := by
  refine Fn.enter (Tryz.func132) rfl rfl (fun w0 R => ?_)
  refine sA (xB 0 rfl (fun bk0 => (xaf rfl (dA (xf 0 fc_f43_0_0 rfl (xL3 0 fc_a23_3 rfl rfl (xmi rfl (TL.callD [] [] (node_ok hl) ⟨rfl, rfl, trivial⟩ trivial fc_c63 rfl rfl rfl rfl rfl trivial (xmu rfl ?_)))))))))
  refine TL.ext (.agg _) rfl rfl rfl rfl (TL.ext (.bool _) rfl rfl rfl rfl (TL.alloc 1 (cs := #[.bool false, .int .i64 0, .int .i64 0, .int .i64 0, .int .i64 0]) fc_z114 rfl rfl rfl (fun _ => trivial) (fun bk1 => (TL.stW 1 5 [_, _, _, _, _] rfl rfl rfl rfl rfl rfl fc_a114_5 rfl rfl trivial (xab rfl (dA (xf 1 fc_f114_1_1 rfl (xli 1 fc_s3 rfl rfl (TL.eqlV rfl rfl rfl rfl ?_)))))))))
  refine xab rfl (dR ?_)
  refine FQ.ret1 (v := (.bool _)) (Bs := []) [] rfl rfl rfl trivial ?_
  exact ⟨rfl, rfl⟩

theorem parent_ok {S : Type} [MemLike S] {mt : TypeId} {mv : Value} {A : S → Assn} (hM : MemI Tryz.prog mt mv A) {l : Lay} (hl : l.Ok) {p : Pen} {σ : S} {x : Int} : FnD Tryz.prog 126 [treesV l mt mv p, .int .i64 x] [A σ] (.int .i64 (parent l σ x)) [A (parentS l σ x)] := by
  refine Fn.enter (Tryz.func126) rfl rfl (fun w0 R => ?_)
  refine sA (xB 1 rfl (fun bk1 => (xai rfl (dB (xL6 1 fc_a43_6 rfl rfl (xmi rfl (TL.callD [] [] (shown_ok hl) ⟨rfl, rfl, trivial⟩ trivial fc_c132 rfl rfl rfl rfl rfl trivial (TL.cases rfl (fun q1 => ?_) (fun q1 => ?_)))))))))
  refine TL.done (TQ.then (TC.condT rfl (TC.seq (TC.draw [(0, true), (1, true), (2, true), (3, true), (4, true), (5, false), (6, false), (7, true)] [1] fc_m (by kernel_rfl) (xf 3 fc_f43_1_3 rfl (xlc 1 fc_s39 rfl rfl (xf 0 fc_f43_0_0 rfl (xL3 1 fc_a23_3 rfl rfl ?_))))))))
  refine xmi rfl (TL.callD [] [] (field_ok hl) ⟨rfl, rfl, rfl, trivial⟩ trivial fc_c55 rfl rfl rfl rfl rfl (kL1 rfl trivial) (TL.callD [0] [0] (new_ok hM) ⟨rfl, rfl, trivial⟩ ⟨rfl, trivial⟩ fc_c152 rfl rfl rfl rfl rfl (kL1 rfl trivial) (xai rfl (dRR ?_))))
  refine FQ.ret1 (v := (.int _ _)) (Bs := [A _]) [0] rfl rfl rfl ⟨rfl, trivial⟩ ?_
  exact ⟨(by simp only [parent, *, if_true, Bool.false_eq_true, if_false]), rfl⟩
  refine dF rfl (xL6 1 fc_a43_6 rfl rfl (xmi rfl (TL.callD [0] [0] (tget_ok hM hl) ⟨rfl, rfl, rfl, trivial⟩ ⟨rfl, trivial⟩ fc_c139 rfl rfl rfl rfl rfl trivial (xai rfl (dR ?_)))))
  refine FQ.ret1 (v := (.int _ _)) (Bs := [A _]) [0] rfl rfl rfl ⟨rfl, trivial⟩ ?_
  exact ⟨(by simp only [parent, *, if_true, Bool.false_eq_true, if_false]), rfl⟩

theorem hang_ok {S : Type} [MemLike S] {mt : TypeId} {mv : Value} {A : S → Assn} (hM : MemI Tryz.prog mt mv A) {l : Lay} (hl : l.Ok) {p : Pen} {σ : S} {x q : Int} : FnD Tryz.prog 97 [treesV l mt mv p, .int .i64 x, .int .i64 q] [A σ] (.tuple #[]) [A (hang l p σ x q)] := by
  refine Fn.enter (Tryz.func97) rfl rfl (fun w0 R => ?_)
  refine sA (xB 1 rfl (fun bk1 => (dK (sA (xmi rfl (TL.eql rfl rfl rfl rfl (fun q1 => ?_) (fun q1 => ?_)))))))
  refine xat rfl (TL.done (TQ.then (TC.condT rfl (TC.skip (TQ.inBlock ?_)))))
  refine FQ.end0 (Bs := [A _]) [0] rfl rfl ⟨rfl, trivial⟩ ?_
  first | exact ⟨rfl, (by simp only [hang, *, if_true, Bool.false_eq_true, if_false])⟩ | exact ⟨rfl, (by simp only [hang]; rw [if_pos (by assumption)])⟩
  refine xaf rfl (TL.done (TQ.then (TC.condF rfl (sA (xL6 1 fc_a43_6 rfl rfl (xmi rfl (TL.callD [] [] (shown_ok hl) ⟨rfl, rfl, trivial⟩ trivial fc_c132 rfl rfl rfl rfl rfl trivial (TL.cases rfl (fun q2 => ?_) (fun q2 => ?_)))))))))
  refine xat rfl (TL.done (TQ.then (TC.condT rfl (TC.draw [(0, true), (1, true), (2, true), (3, true), (4, true), (5, true), (6, true), (8, true), (7, false), (9, false)] [1] fc_m (by kernel_rfl) (xf 4 fc_f43_2_4 rfl (xL2 1 fc_a41_2 rfl rfl (xf 3 fc_f43_1_3 rfl (xlc 1 fc_s39 rfl rfl ?_))))))))
  refine xf 0 fc_f43_0_0 rfl (xL3 1 fc_a23_3 rfl rfl (xmi rfl (xmi rfl (TL.callD [] [] (field_ok hl) ⟨rfl, rfl, rfl, trivial⟩ trivial fc_c55 rfl rfl rfl rfl rfl (kL1 rfl trivial) (TL.callD [0] [0] (write_ok hM) ⟨rfl, rfl, rfl, rfl, trivial⟩ ⟨rfl, trivial⟩ fc_c133 rfl rfl rfl rfl rfl (kL1 rfl trivial) (TL.done (TQ.inBlock ?_)))))))
  refine FQ.end0 (Bs := [A _]) [0] rfl rfl ⟨rfl, trivial⟩ ?_
  first | exact ⟨rfl, (by simp only [hang, *, if_true, Bool.false_eq_true, if_false])⟩ | exact ⟨rfl, (by simp only [hang]; rw [if_pos (by assumption)])⟩
  refine xaf rfl (TL.done (TQ.then (TC.condF rfl (TC.region (xL6 1 fc_a43_6 rfl rfl (xmi rfl (xmi rfl (TL.callD [0] [0] (tput_ok hM hl) ⟨rfl, rfl, rfl, rfl, trivial⟩ ⟨rfl, trivial⟩ fc_c96 rfl rfl rfl rfl rfl trivial ?_))))))))
  refine TL.done (TQ.inBlock ?_)
  refine FQ.end0 (Bs := [A _]) [0] rfl rfl ⟨rfl, trivial⟩ ?_
  first | exact ⟨rfl, (by simp only [hang, *, if_true, Bool.false_eq_true, if_false])⟩ | exact ⟨rfl, (by simp only [hang]; rw [if_pos (by assumption)])⟩

theorem tsum_ok {S : Type} [MemLike S] {mt : TypeId} {mv : Value} {A : S → Assn} (hM : MemI Tryz.prog mt mv A) {l : Lay} (hl : l.Ok) {p : Pen} {σ : S} {x : Int} : FnD Tryz.prog 146 [treesV l mt mv p, .int .i64 x] [A σ] (.int .u64 (tsum l σ x)) [A (tsumS l σ x)] := by
  refine Fn.enter (Tryz.func146) rfl rfl (fun w0 R => ?_)
  refine sA (xB 1 rfl (fun bk1 => (xai rfl (dB (xmi rfl (TL.eql rfl rfl rfl rfl (fun q1 => ?_) (fun q1 => ?_)))))))
  refine dT rfl (xai rfl (dRR ?_))
  refine FQ.ret1 (v := (.int _ _)) (Bs := [A _]) [0] rfl rfl rfl ⟨rfl, trivial⟩ ?_
  first | exact ⟨(by simp only [tsum]; rw [if_pos (by assumption)]), (by simp only [tsumS]; rw [if_pos (by assumption)])⟩ | exact ⟨(by simp only [tsum]; rw [if_neg (by assumption)]), (by simp only [tsumS]; rw [if_neg (by assumption)])⟩
  refine TL.done (TQ.then (TC.condF rfl (TC.skip (TQ.then (TC.seq (TC.draw [(0, true), (1, true), (2, true), (3, true), (4, true), (6, true), (7, true), (5, false), (8, false), (9, true)] [1] fc_m (by kernel_rfl) (xf 3 fc_f43_1_3 rfl (xlc 1 fc_s39 rfl rfl ?_))))))))
  refine xf 0 fc_f43_0_0 rfl (xL3 1 fc_a23_3 rfl rfl (xmi rfl (TL.ncI rfl rfl rfl (xmc rfl (TL.callD [] [] (field_ok hl) ⟨rfl, rfl, rfl, trivial⟩ trivial fc_c55 rfl rfl rfl rfl rfl (kL1 rfl trivial) (TL.mload 0 hM rfl rfl rfl rfl rfl (kL1 rfl trivial) (xai rfl (dR ?_))))))))
  refine FQ.ret1 (v := (.int _ _)) (Bs := [A _]) [0] rfl rfl rfl ⟨rfl, trivial⟩ ?_
  first | exact ⟨(by simp only [tsum]; rw [if_pos (by assumption)]), (by simp only [tsumS]; rw [if_pos (by assumption)])⟩ | exact ⟨(by simp only [tsum]; rw [if_neg (by assumption)]), (by simp only [tsumS]; rw [if_neg (by assumption)])⟩

theorem counts_ok {v : Int} : FnD Tryz.prog 159 [.int .u64 v] [] (.int .u64 (counts v)) [] := by
  refine Fn.enter (Tryz.func159) rfl rfl (fun w0 R => ?_)
  refine sA (xai rfl (dA (xmi rfl (TL.and _ rfl rfl rfl rfl rfl (xai rfl (dR ?_))))))
  refine FQ.ret1 (v := (.int _ _)) (Bs := []) [] rfl rfl rfl trivial ?_
  exact ⟨rfl, rfl⟩

theorem lone_ok {mt : TypeId} {mv : Value} {l : Lay} (hl : l.Ok) {p : Pen} {x m : Int} : FnD Tryz.prog 98 [treesV l mt mv p, .int .i64 x, .int .u64 m] [] (.int .u64 (loneV l x m)) [] := by
  refine Fn.enter (Tryz.func98) rfl rfl (fun w0 R => ?_)
  refine sA (xB 0 rfl (fun bk0 => (xai rfl (dA (xmi rfl (TL.shl _ rfl rfl (by decide) rfl rfl rfl (TL.or _ rfl rfl rfl rfl rfl (xmi rfl (TL.shl _ rfl rfl (by decide) rfl rfl rfl ?_)))))))))
  refine TL.or _ rfl rfl rfl rfl rfl (xai rfl (dB (xf 0 fc_f43_0_0 rfl (xL3 0 fc_a23_3 rfl rfl (xmi rfl (TL.callD [] [] (node_ok hl) ⟨rfl, rfl, trivial⟩ trivial fc_c63 rfl rfl rfl rfl rfl trivial (xmu rfl (TL.ext (.agg _) rfl rfl rfl rfl ?_))))))))
  refine TL.ext (.bool _) rfl rfl rfl rfl (TL.alloc 1 (cs := #[.bool false, .int .i64 0, .int .i64 0, .int .i64 0, .int .i64 0]) fc_z114 rfl rfl rfl (fun _ => trivial) (fun bk1 => (TL.stW 1 5 [_, _, _, _, _] rfl rfl rfl rfl rfl rfl fc_a114_5 rfl rfl trivial (xab rfl (dA (xf 0 fc_f114_0_0 rfl (xlb 1 fc_s4 rfl rfl (TL.not _ _ rfl rfl rfl rfl (TL.done ?_)))))))))
  refine TQ.then (TC.cond rfl (fun q1 => ?_) (fun q1 => ?_))
  refine TC.region (xmi rfl (TL.or _ rfl rfl rfl rfl rfl (xai rfl (dA (xmi rfl (xai rfl (dR ?_)))))))
  refine FQ.ret1 (v := (.int _ _)) (Bs := []) [] rfl rfl rfl trivial ?_
  first | exact ⟨(by have q : (l.node x).1.arc = false := (by simpa using ‹(!(l.node x).1.arc) = true›); simp only [loneV, q, Bool.false_eq_true, if_false]; rfl), rfl⟩ | exact ⟨(by have q : (l.node x).1.arc = true := (by simpa using ‹(!(l.node x).1.arc) = false›); simp only [loneV, q, if_true]; rfl), rfl⟩
  refine TC.skip (TQ.then (sA (xmi rfl (xai rfl (dR ?_)))))
  refine FQ.ret1 (v := (.int _ _)) (Bs := []) [] rfl rfl rfl trivial ?_
  first | exact ⟨(by have q : (l.node x).1.arc = false := (by simpa using ‹(!(l.node x).1.arc) = true›); simp only [loneV, q, Bool.false_eq_true, if_false]; rfl), rfl⟩ | exact ⟨(by have q : (l.node x).1.arc = true := (by simpa using ‹(!(l.node x).1.arc) = false›); simp only [loneV, q, if_true]; rfl), rfl⟩

theorem renew_ok {S : Type} [MemLike S] {mt : TypeId} {mv : Value} {A : S → Assn} (hM : MemI Tryz.prog mt mv A) {l : Lay} (hl : l.Ok) {p : Pen} {σ : S} {x m : Int} : FnD Tryz.prog 148 [treesV l mt mv p, .int .i64 x, .int .u64 m] [A σ] (.tuple #[]) [A (renew l σ x m)] := by
  refine Fn.enter (Tryz.func148) rfl rfl (fun w0 R => ?_)
  refine sA (xB 1 rfl (fun bk1 => (dA (xL6 1 fc_a43_6 rfl rfl (xmi rfl (xmi rfl (TL.callD [] [] (lone_ok hl) ⟨rfl, rfl, rfl, trivial⟩ trivial fc_c98 rfl rfl rfl rfl rfl trivial (xai rfl (dB ?_)))))))))
  refine TL.bldA [.int .i64 0, .int .i64 0] [(.int _ _), (.int _ _)] [_, _] fc_z70 fc_r70_2_3_1 ⟨rfl, rfl, trivial⟩ ⟨rfl, rfl⟩ rfl rfl (xmi rfl (dK (TC.loopK (X := Nat) [1, 3, 14] [1] (fun i => [(6, .int .u64 (renewV l σ x m i).1), (15, .int .i64 (i : Int))]) (fun i => [(0, A (renewV l σ x m i).2)]) (fun i => i ≤ 2) (fun i => 2 - i) (0) (by decide) ⟨rfl, rfl, trivial⟩ ⟨rfl, trivial⟩ (fun i hI => (TC.sub (env' := [(6, _), (15, _), (1, _), (3, _), (14, _)]) (L' := [(0, _), (1, _)]) ⟨rfl, rfl, rfl, rfl, rfl, trivial⟩ ⟨rfl, rfl, trivial⟩ (sA (TL.lss rfl rfl rfl rfl (fun q1 => ?_) (fun q1 => ?_))))))))
  refine dS (TC.condT rfl (TC.skip (TQ.then (TC.seq (TC.block (sA (TL.ixA (.int .i64 (3 + (i : Int))) rfl rfl fc_r70_2_3_1 fc_s3 (by omega) (by omega) (by have : i = 0 ∨ i = 1 := (by omega); rcases this with rfl | rfl <;> rfl) rfl rfl (xai rfl ?_))))))))
  refine dS (TC.draw [(0, true), (1, true), (2, true), (3, true), (4, false), (5, false), (6, true)] [1] fc_m (by kernel_rfl) (xL6 1 fc_a43_6 rfl rfl (xL6 1 fc_a43_6 rfl rfl (xmi rfl (xmi rfl (TL.callD [0] [0] (tget_ok hM hl) ⟨rfl, rfl, rfl, trivial⟩ ⟨rfl, trivial⟩ fc_c139 rfl rfl rfl rfl rfl (kL1 rfl trivial) (TL.callD [0] [0] (tsum_ok hM hl) ⟨rfl, rfl, trivial⟩ ⟨rfl, trivial⟩ fc_c146 rfl rfl rfl rfl rfl (kL1 rfl trivial) (xai rfl ?_))))))))
  refine dG (xmi rfl (xmi rfl (TL.callD [] [] counts_ok ⟨rfl, trivial⟩ trivial fc_c159 rfl rfl rfl rfl rfl trivial (TL.add _ rfl rfl (rfl) rfl rfl (xmi rfl (TL.shr _ rfl rfl (by decide) rfl rfl rfl (TL.and _ rfl rfl rfl rfl rfl (TL.shl _ rfl rfl (by decide) rfl rfl rfl ?_))))))))
  refine TL.or _ rfl rfl rfl rfl rfl (xai rfl (dI (TL.add _ rfl rfl (wr64 (by omega)) rfl rfl (xmi rfl (TL.done (TQ.roundK (i + 1) ⟨by omega, by omega⟩ ⟨rfl, rfl, trivial⟩ ⟨rfl, trivial⟩ (kE3 rfl rfl rfl trivial) (kL1 rfl trivial)))))))
  refine dS (TC.condF rfl (TC.exit (TQ.thenExit (TQ.thenExit (TQ.blockHere (TQ.then (TC.draw [(0, true), (1, true), (2, true), (3, true), (4, true), (6, true), (7, true), (8, true), (5, false), (9, false)] [1] fc_m (by kernel_rfl) (xf 3 fc_f43_1_3 rfl ?_))))))))
  refine xlc 1 fc_s39 rfl rfl (xf 0 fc_f43_0_0 rfl (xL3 1 fc_a23_3 rfl rfl (xmi rfl (xmi rfl (TL.ncI rfl rfl rfl (xmc rfl (TL.callD [] [] (field_ok hl) ⟨rfl, rfl, rfl, trivial⟩ trivial fc_c55 rfl rfl rfl rfl rfl (kL1 rfl trivial) (TL.mstore 0 hM rfl rfl rfl (renewV_rng _ _ _ _ _) rfl rfl rfl (kL1 rfl trivial) ?_))))))))
  refine TL.done ?_
  refine FQ.end0 (Bs := [A _]) [0] rfl rfl ⟨rfl, trivial⟩ ?_
  obtain rfl : i = 2 := by omega
  refine ⟨rfl, ?_⟩
  unfold renew
  rfl

theorem marks_ok {S : Type} [MemLike S] {mt : TypeId} {mv : Value} {A : S → Assn} (hM : MemI Tryz.prog mt mv A) {l : Lay} (hl : l.Ok) {p : Pen} {σ : S} {x : Int} : FnD Tryz.prog 147 [treesV l mt mv p, .int .i64 x] [A σ] (.int .u64 (marks l σ x)) [A (marksS l σ x)] := by
  refine Fn.enter (Tryz.func147) rfl rfl (fun w0 R => ?_)
  refine sA (xB 1 rfl (fun bk1 => (xai rfl (dA (xL6 1 fc_a43_6 rfl rfl (xmi rfl (TL.callD [0] [0] (tsum_ok hM hl) ⟨rfl, rfl, trivial⟩ ⟨rfl, trivial⟩ fc_c146 rfl rfl rfl rfl rfl trivial (TL.shr _ rfl rfl (by decide) rfl rfl rfl (TL.and _ rfl rfl rfl rfl rfl ?_)))))))))
  refine xai rfl (dR ?_)
  refine FQ.ret1 (v := (.int _ _)) (Bs := [A _]) [0] rfl rfl rfl ⟨rfl, trivial⟩ ?_
  exact ⟨rfl, rfl⟩

theorem alone_ok {S : Type} [MemLike S] {mt : TypeId} {mv : Value} {A : S → Assn} (hM : MemI Tryz.prog mt mv A) {l : Lay} (hl : l.Ok) {p : Pen} {σ : S} {x : Int} : FnD Tryz.prog 56 [treesV l mt mv p, .int .i64 x] [A σ] (.tuple #[]) [A (alone l p σ x)] := by
  refine Fn.enter (Tryz.func56) rfl rfl (fun w0 R => ?_)
  refine sA (xB 1 rfl (fun bk1 => (dA (xL6 1 fc_a43_6 rfl rfl (xmi rfl (TL.callD [0] [0] (tput_ok hM hl) ⟨rfl, rfl, rfl, rfl, trivial⟩ ⟨rfl, trivial⟩ fc_c96 rfl rfl rfl rfl rfl trivial (dA (xL6 1 fc_a43_6 rfl rfl (xmi rfl ?_)))))))))
  refine TL.callD [0] [0] (tput_ok hM hl) ⟨rfl, rfl, rfl, rfl, trivial⟩ ⟨rfl, trivial⟩ fc_c96 rfl rfl rfl rfl rfl trivial (dA (xL6 1 fc_a43_6 rfl rfl (xmi rfl (TL.callD [0] [0] (hang_ok hM hl) ⟨rfl, rfl, rfl, trivial⟩ ⟨rfl, trivial⟩ fc_c97 rfl rfl rfl rfl rfl trivial (TL.done (TQ.then (TC.draw [(0, true), (1, true), (2, true), (3, true), (4, true), (6, true), (7, true), (9, true), (10, true), (5, false), (8, false), (11, false)] [1] fc_m (by kernel_rfl) (xf 3 fc_f43_1_3 rfl ?_))))))))
  refine xlc 1 fc_s39 rfl rfl (xf 0 fc_f43_0_0 rfl (xL3 1 fc_a23_3 rfl rfl (xmi rfl (xL6 1 fc_a43_6 rfl rfl (xmi rfl (TL.ncI rfl rfl rfl (xmc rfl (TL.callD [] [] (field_ok hl) ⟨rfl, rfl, rfl, trivial⟩ trivial fc_c55 rfl rfl rfl rfl rfl (kL1 rfl trivial) ?_))))))))
  refine TL.callD [] [] (lone_ok hl) ⟨rfl, rfl, rfl, trivial⟩ trivial fc_c98 rfl rfl rfl rfl rfl (kL1 rfl trivial) (TL.mstore 0 hM rfl rfl rfl (by first | exact lone_rng _ _ _) rfl rfl rfl (kL1 rfl trivial) (TL.done ?_))
  refine FQ.end0 (Bs := [A _]) [0] rfl rfl ⟨rfl, trivial⟩ ?_
  exact ⟨rfl, rfl⟩

theorem size_ok {S : Type} [MemLike S] {mt : TypeId} {mv : Value} {A : S → Assn} (hM : MemI Tryz.prog mt mv A) {l : Lay} (hl : l.Ok) {p : Pen} {σ : S} {x : Int} : FnD Tryz.prog 150 [treesV l mt mv p, .int .i64 x] [A σ] (.int .i64 (size l σ x)) [A (tsumS l σ x)] := by
  refine Fn.enter (Tryz.func150) rfl rfl (fun w0 R => ?_)
  refine sA (xB 1 rfl (fun bk1 => (xai rfl (dA (xL6 1 fc_a43_6 rfl rfl (xmi rfl (TL.callD [0] [0] (tsum_ok hM hl) ⟨rfl, rfl, trivial⟩ ⟨rfl, trivial⟩ fc_c146 rfl rfl rfl rfl rfl trivial (TL.and _ rfl rfl rfl rfl rfl (TL.conv _ rfl fc_u110 fc_i3_i64 (rfl) rfl rfl ?_)))))))))
  refine xai rfl (dR ?_)
  refine FQ.ret1 (v := (.int _ _)) (Bs := [A _]) [0] rfl rfl rfl ⟨rfl, trivial⟩ ?_
  exact ⟨rfl, rfl⟩

theorem verts_ok {S : Type} [MemLike S] {mt : TypeId} {mv : Value} {A : S → Assn} (hM : MemI Tryz.prog mt mv A) {l : Lay} (hl : l.Ok) {p : Pen} {σ : S} {x : Int} : FnD Tryz.prog 119 [treesV l mt mv p, .int .i64 x] [A σ] (.int .i64 (verts l σ x)) [A (tsumS l σ x)] := by
  refine Fn.enter (Tryz.func119) rfl rfl (fun w0 R => ?_)
  refine sA (xB 1 rfl (fun bk1 => (xai rfl (dA (xL6 1 fc_a43_6 rfl rfl (xmi rfl (TL.callD [0] [0] (tsum_ok hM hl) ⟨rfl, rfl, trivial⟩ ⟨rfl, trivial⟩ fc_c146 rfl rfl rfl rfl rfl trivial (TL.shr _ rfl rfl (by decide) rfl rfl rfl (TL.and _ rfl rfl rfl rfl rfl ?_)))))))))
  refine TL.conv _ rfl fc_u110 fc_i3_i64 (rfl) rfl rfl (xai rfl (dR ?_))
  refine FQ.ret1 (v := (.int _ _)) (Bs := [A _]) [0] rfl rfl rfl ⟨rfl, trivial⟩ ?_
  exact ⟨rfl, rfl⟩

theorem root_ok {S : Type} [MemLike S] {mt : TypeId} {mv : Value} {A : S → Assn} (hM : MemI Tryz.prog mt mv A) {l : Lay} (hl : l.Ok) {p : Pen} {σ : S} {x r : Int} {k : Nat} {σ2 : S} (h : root l k σ x = some (r, σ2)) : FnD Tryz.prog 81 [treesV l mt mv p, .int .i64 x] [A σ] (.int .i64 r) [A σ2] := by
  refine Fn.enter (Tryz.func81) rfl rfl (fun w0 R => ?_)
  refine sA (xB 1 rfl (fun bk1 => (xai rfl (dS (TC.block (TC.loopK (X := Nat × S × Int) [2, 4] [1] (fun y => [(1, .int .i64 y.2.2)]) (fun y => [(0, A y.2.1)]) (fun y => root l y.1 y.2.1 y.2.2 = some (r, σ2)) (fun y => y.1) ((k, σ, x)) h ⟨rfl, trivial⟩ ⟨rfl, trivial⟩ (fun y hI => ?_)))))))
  obtain ⟨k, σ1, z⟩ := y
  rcases k with _ | k
  · simp [root] at hI
  dsimp only at hI
  refine TC.sub (env' := [(1, _), (2, _), (4, _)]) (L' := [(0, _), (1, _)]) ⟨rfl, rfl, rfl, trivial⟩ ⟨rfl, rfl, trivial⟩ (sB (xmi rfl (TL.neq rfl rfl rfl rfl (fun q1 => ?_) (fun q1 => ?_))))
  refine TL.done (TQ.then (TC.condT rfl (TC.skip (TQ.then (TC.block (sA (xL6 1 fc_a43_6 rfl rfl (xmi rfl ?_))))))))
  refine TL.callD [0] [0] (parent_ok hM hl) ⟨rfl, rfl, trivial⟩ ⟨rfl, trivial⟩ fc_c126 rfl rfl rfl rfl rfl trivial (xai rfl (dB (xmi rfl (TL.eql rfl rfl rfl rfl (fun q2 => ?_) (fun q2 => ?_)))))
  refine TL.done (TQ.then (TC.condT rfl (TC.exit (TQ.thenExit (TQ.blockOut rfl (TQ.thenExit (TQ.blockHere (TQ.then ?_))))))))
  refine sA (xmi rfl (xai rfl (dR ?_)))
  refine FQ.ret1 (v := (.int _ _)) (Bs := [A _]) [0] rfl rfl rfl ⟨rfl, trivial⟩ ?_
  rw [root, if_pos q1, if_pos q2] at hI; cases hI; exact ⟨rfl, rfl⟩
  refine TL.done (TQ.then (TC.condF rfl (TC.skip (TQ.then (TC.region (xmi rfl (xai rfl (TL.done ?_))))))))
  refine TQ.inBlock (TQ.roundK ((k, parentS l σ1 z, parent l σ1 z)) ⟨(by rw [root, if_pos q1, if_neg q2] at hI; exact hI), Nat.lt_succ_self _⟩ ⟨rfl, trivial⟩ ⟨rfl, trivial⟩ (kE2 rfl rfl trivial) (kL1 rfl trivial))
  refine dE rfl (sA (xmi rfl (xai rfl (dR ?_))))
  refine FQ.ret1 (v := (.int _ _)) (Bs := [A _]) [0] rfl rfl rfl ⟨rfl, trivial⟩ ?_
  rw [root, if_neg q1] at hI; cases hI; exact ⟨rfl, rfl⟩

theorem index_ok {S : Type} [MemLike S] {mt : TypeId} {mv : Value} {A : S → Assn} (hM : MemI Tryz.prog mt mv A) {l : Lay} (hl : l.Ok) {p : Pen} {σ : S} {x r : Int} {k : Nat} {σ2 : S} (h : index l k σ x = some (r, σ2)) : FnD Tryz.prog 124 [treesV l mt mv p, .int .i64 x] [A σ] (.int .i64 r) [A σ2] := by
  unfold index at h
  dsimp only at h
  refine Fn.enter (Tryz.func124) rfl rfl (fun w0 R => ?_)
  refine sA (xB 1 rfl (fun bk1 => (xai rfl (dS (TC.draw [(0, true), (1, true), (2, true), (3, false), (4, false), (5, true)] [1] fc_m (by kernel_rfl) (xL6 1 fc_a43_6 rfl rfl (xL6 1 fc_a43_6 rfl rfl (xmi rfl (TL.callD [0] [0] (tget_ok hM hl) ⟨rfl, rfl, rfl, trivial⟩ ⟨rfl, trivial⟩ fc_c139 rfl rfl rfl rfl rfl (kL1 rfl trivial) ?_)))))))))
  refine TL.callD [0] [0] (size_ok hM hl) ⟨rfl, rfl, trivial⟩ ⟨rfl, trivial⟩ fc_c150 rfl rfl rfl rfl rfl (kL1 rfl trivial) (xai rfl (dK (TC.loopK (X := Nat × S × Int × Int) [2] [1] (fun y => [(1, .int .i64 y.2.2.1), (5, .int .i64 y.2.2.2)]) (fun y => [(0, A y.2.1)]) (fun y => indexL l y.1 y.2.1 y.2.2.1 y.2.2.2 = some (r, σ2)) (fun y => y.1) ((k, _, _, _)) h ⟨rfl, rfl, trivial⟩ ⟨rfl, trivial⟩ (fun y hI => ?_))))
  obtain ⟨k, σ1, z, n⟩ := y
  rcases k with _ | k
  · simp [indexL] at hI
  dsimp only at hI
  refine TC.sub (env' := [(1, _), (5, _), (2, _)]) (L' := [(0, _), (1, _)]) ⟨rfl, rfl, rfl, trivial⟩ ⟨rfl, rfl, trivial⟩ (TC.block (sA (xL6 1 fc_a43_6 rfl rfl (xmi rfl (TL.callD [0] [0] (parent_ok hM hl) ⟨rfl, rfl, trivial⟩ ⟨rfl, trivial⟩ fc_c126 rfl rfl rfl rfl rfl trivial (xai rfl (dB (xmi rfl ?_))))))))
  refine TL.eql rfl rfl rfl rfl (fun q1 => ?_) (fun q1 => ?_)
  refine dT rfl (xmi rfl (xai rfl (dRR (TQ.blockRet (TQ.thenRet (TQ.blockRet ?_))))))
  refine FQ.ret1 (v := (.int _ _)) (Bs := [A _]) [0] rfl rfl rfl ⟨rfl, trivial⟩ ?_
  rw [indexL, if_pos q1] at hI; cases hI; exact ⟨rfl, rfl⟩
  refine TL.done (TQ.then (TC.condF rfl (TC.skip (TQ.then (sB (xL6 1 fc_a43_6 rfl rfl (xmi rfl (TL.callD [0] [0] (tget_ok hM hl) ⟨rfl, rfl, rfl, trivial⟩ ⟨rfl, trivial⟩ fc_c139 rfl rfl rfl rfl rfl trivial ?_))))))))
  refine xmi rfl (TL.eql rfl rfl rfl rfl (fun q2 => ?_) (fun q2 => ?_))
  refine TL.done (TQ.then (TC.condT rfl (TC.draw [(0, true), (1, true), (2, true), (3, true), (4, false), (5, false), (6, true), (7, true), (8, true)] [1] fc_m (by kernel_rfl) (xmi rfl (xL6 1 fc_a43_6 rfl rfl (xL6 1 fc_a43_6 rfl rfl (xmi rfl (TL.callD [0] [0] (tget_ok hM hl) ⟨rfl, rfl, rfl, trivial⟩ ⟨rfl, trivial⟩ fc_c139 rfl rfl rfl rfl rfl (kL1 rfl trivial) ?_))))))))
  refine TL.callD [0] [0] (size_ok hM hl) ⟨rfl, rfl, trivial⟩ ⟨rfl, trivial⟩ fc_c150 rfl rfl rfl rfl rfl (kL1 rfl trivial) (TL.add _ rfl rfl (rfl) rfl rfl (TL.add _ rfl rfl (rfl) rfl rfl (xai rfl (dG (xmi rfl (xai rfl (TL.done (TQ.inBlock ?_))))))))
  refine TQ.roundK ((k, _, _, _)) ⟨(by rw [indexL, if_neg q1] at hI; dsimp only at hI; rw [if_pos q2] at hI; exact hI), Nat.lt_succ_self _⟩ ⟨rfl, rfl, trivial⟩ ⟨rfl, trivial⟩ (kE1 rfl trivial) (kL1 rfl trivial)
  refine TL.done (TQ.then (TC.condF rfl (TC.skip (TQ.then (TC.region (xmi rfl (xai rfl (TL.done ?_))))))))
  refine TQ.inBlock (TQ.roundK ((k, _, _, _)) ⟨(by rw [indexL, if_neg q1] at hI; dsimp only at hI; rw [if_neg q2] at hI; exact hI), Nat.lt_succ_self _⟩ ⟨rfl, rfl, trivial⟩ ⟨rfl, trivial⟩ (kE1 rfl trivial) (kL1 rfl trivial))

theorem set_ok {S : Type} [MemLike S] {mt : TypeId} {mv : Value} {A : S → Assn} (hM : MemI Tryz.prog mt mv A) {l : Lay} (hl : l.Ok) {p : Pen} {σ : S} {x f c : Int} : FnD Tryz.prog 161 [treesV l mt mv p, .int .i64 x, .int .i64 f, .int .i64 c] [A σ] (.tuple #[]) [A (setC l p σ x f c)] := by
  refine Fn.enter (Tryz.func161) rfl rfl (fun w0 R => ?_)
  refine sA (xB 1 rfl (fun bk1 => (dA (xL6 1 fc_a43_6 rfl rfl (xmi rfl (xmi rfl (xmi rfl (TL.callD [0] [0] (tput_ok hM hl) ⟨rfl, rfl, rfl, rfl, trivial⟩ ⟨rfl, trivial⟩ fc_c96 rfl rfl rfl rfl rfl trivial (dA ?_)))))))))
  refine xL6 1 fc_a43_6 rfl rfl (xmi rfl (xmi rfl (TL.callD [0] [0] (hang_ok hM hl) ⟨rfl, rfl, rfl, trivial⟩ ⟨rfl, trivial⟩ fc_c97 rfl rfl rfl rfl rfl trivial (TL.done (TQ.then (TC.draw [(0, true), (1, true), (2, true), (3, true), (4, false), (5, false)] [1] fc_m (by kernel_rfl) (xL6 1 fc_a43_6 rfl rfl (xmi rfl ?_))))))))
  refine xL6 1 fc_a43_6 rfl rfl (xmi rfl (TL.callD [0] [0] (marks_ok hM hl) ⟨rfl, rfl, trivial⟩ ⟨rfl, trivial⟩ fc_c147 rfl rfl rfl rfl rfl (kL1 rfl trivial) (TL.callD [0] [0] (renew_ok hM hl) ⟨rfl, rfl, rfl, trivial⟩ ⟨rfl, trivial⟩ fc_c148 rfl rfl rfl rfl rfl (kL1 rfl trivial) (TL.done ?_))))
  refine FQ.end0 (Bs := [A _]) [0] rfl rfl ⟨rfl, trivial⟩ ?_
  exact ⟨rfl, (by unfold setC marksS; rfl)⟩

theorem split_ok {S : Type} [MemLike S] {mt : TypeId} {mv : Value} {A : S → Assn} (hM : MemI Tryz.prog mt mv A) {l : Lay} (hl : l.Ok) {p : Pen} {σ : S} {x n : Int} {r : Int × Int} {k : Nat} {σ2 : S} (h : split l p k σ x n = some (r, σ2)) : FnD Tryz.prog 151 [treesV l mt mv p, .int .i64 x, .int .i64 n] [A σ] (.tuple #[.int .i64 r.1, .int .i64 r.2]) [A σ2] := by
  induction k generalizing σ x n r σ2
  case zero => simp [split] at h
  case succ k ih =>
    refine Fn.enter (Tryz.func151) rfl rfl (fun w0 R => ?_)
    refine sA (xB 1 rfl (fun bk1 => (xai rfl (xai rfl (dB (xmi rfl (TL.eql rfl rfl rfl rfl (fun q1 => ?_) (fun q1 => ?_))))))))
    refine dT rfl (xai rfl (xai rfl (dRR ?_)))
    refine FQ.ret2 (v := (.int _ _)) (x := (.int _ _)) (Bs := [A _]) [0] rfl rfl rfl rfl ⟨rfl, trivial⟩ ?_
    rw [split, if_pos q1] at h; cases h; exact ⟨rfl, rfl⟩
    refine dF rfl (xL6 1 fc_a43_6 rfl rfl (xmi rfl (TL.callD [0] [0] (tget_ok hM hl) ⟨rfl, rfl, rfl, trivial⟩ ⟨rfl, trivial⟩ fc_c139 rfl rfl rfl rfl rfl trivial (xai rfl (dA (xL6 1 fc_a43_6 rfl rfl (xmi rfl (TL.callD [0] [0] (size_ok hM hl) ⟨rfl, rfl, trivial⟩ ⟨rfl, trivial⟩ fc_c150 rfl rfl rfl rfl rfl trivial ?_))))))))
    refine xai rfl (dB (xmi rfl (xmi rfl (TL.leq rfl rfl rfl rfl (fun q2 => ?_) (fun q2 => ?_)))))
    refine dT rfl (xL6 1 fc_a43_6 rfl rfl (xmi rfl (xmi rfl ?_)))
    rw [split, if_neg q1] at h
    dsimp only at h
    rw [if_pos q2] at h
    obtain ⟨⟨ab, σ3⟩, h1, h9⟩ := Option.bind_eq_some_iff.1 h
    refine TL.callD [0] [0] (ih h1) ⟨rfl, rfl, rfl, trivial⟩ ⟨rfl, trivial⟩ fc_c151 rfl rfl rfl rfl rfl trivial (xmu rfl (xei rfl rfl (xei rfl rfl (xai rfl (xai rfl (dA (xL6 1 fc_a43_6 rfl rfl (xmi rfl ?_))))))))
    refine xmi rfl (TL.callD [0] [0] (set_ok hM hl) ⟨rfl, rfl, rfl, rfl, trivial⟩ ⟨rfl, trivial⟩ fc_c161 rfl rfl rfl rfl rfl trivial (dA (xmi rfl (xmi rfl (xai rfl (xai rfl (dRR ?_)))))))
    refine FQ.ret2 (v := (.int _ _)) (x := (.int _ _)) (Bs := [A _]) [0] rfl rfl rfl rfl ⟨rfl, trivial⟩ ?_
    cases h9; exact ⟨rfl, rfl⟩
    refine TL.done (TQ.then (TC.condF rfl (TC.skip (TQ.then (TC.seq (TC.draw [(0, true), (1, true), (2, true), (4, true), (5, true), (6, true), (7, true), (3, false), (8, false), (9, true), (10, true), (11, true), (12, true), (13, true)] [1] fc_m (by kernel_rfl) (xL6 1 fc_a43_6 rfl rfl (xL6 1 fc_a43_6 rfl rfl ?_))))))))
    refine xmi rfl (xmi rfl (xmi rfl (TL.sub _ rfl rfl (rfl) rfl rfl (TL.sub _ rfl rfl (rfl) rfl rfl (TL.callD [0] [0] (tget_ok hM hl) ⟨rfl, rfl, rfl, trivial⟩ ⟨rfl, trivial⟩ fc_c139 rfl rfl rfl rfl rfl (kL1 rfl trivial) ?_)))))
    rw [split, if_neg q1] at h
    dsimp only at h
    rw [if_neg q2] at h
    obtain ⟨⟨ab, σ3⟩, h1, h9⟩ := Option.bind_eq_some_iff.1 h
    refine TL.callD [0] [0] (ih h1) ⟨rfl, rfl, rfl, trivial⟩ ⟨rfl, trivial⟩ fc_c151 rfl rfl rfl rfl rfl (kL1 rfl trivial) (xmu rfl (xei rfl rfl (xei rfl rfl (xai rfl (xai rfl (dA (xL6 1 fc_a43_6 rfl rfl (xmi rfl ?_))))))))
    refine xmi rfl (TL.callD [0] [0] (set_ok hM hl) ⟨rfl, rfl, rfl, rfl, trivial⟩ ⟨rfl, trivial⟩ fc_c161 rfl rfl rfl rfl rfl trivial (dA (xmi rfl (xmi rfl (xai rfl (xai rfl (dR ?_)))))))
    refine FQ.ret2 (v := (.int _ _)) (x := (.int _ _)) (Bs := [A _]) [0] rfl rfl rfl rfl ⟨rfl, trivial⟩ ?_
    cases h9; exact ⟨rfl, rfl⟩

theorem splitT_ok {S : Type} [MemLike S] {mt : TypeId} {mv : Value} {A : S → Assn} (hM : MemI Tryz.prog mt mv A) {l : Lay} (hl : l.Ok) {p : Pen} {σ : S} {x n : Int} {r : Int × Int} {k : Nat} {σ2 : S} (h : splitT l p k σ x n = some (r, σ2)) : FnD Tryz.prog 125 [treesV l mt mv p, .int .i64 x, .int .i64 n] [A σ] (.tuple #[.int .i64 r.1, .int .i64 r.2]) [A σ2] := by
  obtain ⟨⟨ab, σ3⟩, h1, h9⟩ := Option.bind_eq_some_iff.1 h
  cases h9
  refine Fn.enter (Tryz.func125) rfl rfl (fun w0 R => ?_)
  refine sA (xB 1 rfl (fun bk1 => (xai rfl (xai rfl (dS (TC.draw [(0, true), (1, true), (2, true), (3, true), (4, true), (5, true), (6, false), (7, true), (8, false), (9, true), (10, true), (11, true), (12, true), (13, true)] [1] fc_m (by kernel_rfl) (xL6 1 fc_a43_6 rfl rfl (xmi rfl (xmi rfl ?_)))))))))
  refine TL.max2 rfl rfl rfl rfl (xL6 1 fc_a43_6 rfl rfl (xmi rfl (TL.callD [0] [0] (size_ok hM hl) ⟨rfl, rfl, trivial⟩ ⟨rfl, trivial⟩ fc_c150 rfl rfl rfl rfl rfl (kL1 rfl trivial) (TL.min2 rfl rfl rfl rfl (TL.callD [0] [0] (split_ok hM hl h1) ⟨rfl, rfl, rfl, trivial⟩ ⟨rfl, trivial⟩ fc_c151 rfl rfl rfl rfl rfl (kL1 rfl trivial) (xmu rfl (xei rfl rfl (xei rfl rfl ?_))))))))
  refine xai rfl (xai rfl (dA (xL6 1 fc_a43_6 rfl rfl (xmi rfl (TL.callD [0] [0] (hang_ok hM hl) ⟨rfl, rfl, rfl, trivial⟩ ⟨rfl, trivial⟩ fc_c97 rfl rfl rfl rfl rfl trivial (dA (xL6 1 fc_a43_6 rfl rfl (xmi rfl ?_))))))))
  refine TL.callD [0] [0] (hang_ok hM hl) ⟨rfl, rfl, rfl, trivial⟩ ⟨rfl, trivial⟩ fc_c97 rfl rfl rfl rfl rfl trivial (dA (xmi rfl (xmi rfl (xai rfl (xai rfl (dR ?_))))))
  refine FQ.ret2 (v := (.int _ _)) (x := (.int _ _)) (Bs := [A _]) [0] rfl rfl rfl rfl ⟨rfl, trivial⟩ ?_
  exact ⟨rfl, rfl⟩

theorem above_ok {S : Type} [MemLike S] {mt : TypeId} {mv : Value} {A : S → Assn} (hM : MemI Tryz.prog mt mv A) {l : Lay} (hl : l.Ok) {p : Pen} {σ : S} {x y : Int} : FnD Tryz.prog 160 [treesV l mt mv p, .int .i64 x, .int .i64 y] [A σ] (.bool (above l σ x y)) [A (aboveS l σ x y)] := by
  refine Fn.enter (Tryz.func160) rfl rfl (fun w0 R => ?_)
  refine sA (xB 1 rfl (fun bk1 => (xaf rfl (dS (TC.draw [(0, true), (1, true), (2, true), (3, true), (4, true), (6, true), (7, true), (9, true), (10, true), (11, true), (12, true), (13, true), (15, true), (16, true), (5, false), (8, false), (14, false), (17, false), (18, true), (19, true)] [1] fc_m (by kernel_rfl) (xf 3 fc_f43_1_3 rfl (xlc 1 fc_s39 rfl rfl (xf 0 fc_f43_0_0 rfl (xL3 1 fc_a23_3 rfl rfl ?_)))))))))
  refine xmi rfl (TL.ncI rfl rfl rfl (xmc rfl (xf 3 fc_f43_1_3 rfl (xlc 1 fc_s39 rfl rfl (xf 0 fc_f43_0_0 rfl (xL3 1 fc_a23_3 rfl rfl (xmi rfl (TL.ncI rfl rfl rfl ?_))))))))
  refine xmc rfl (TL.callD [] [] (field_ok hl) ⟨rfl, rfl, rfl, trivial⟩ trivial fc_c55 rfl rfl rfl rfl rfl (kL1 rfl trivial) (TL.mload 0 hM rfl rfl rfl rfl rfl (kL1 rfl trivial) (TL.callD [] [] (field_ok hl) ⟨rfl, rfl, rfl, trivial⟩ trivial fc_c55 rfl rfl rfl rfl rfl (kL1 rfl trivial) (TL.mload 0 hM rfl rfl rfl rfl rfl (kL1 rfl trivial) (xai rfl (xai rfl (dA (xmi rfl ?_))))))))
  refine xmi rfl (TL.gtr rfl rfl rfl rfl (fun q1 => ?_) (fun q1 => ?_))
  refine xmt rfl (xo rfl (xo rfl (xo rfl (xo rfl (xo rfl (xo rfl (xo rfl (xo rfl ?_))))))))
  refine xpT rfl (xat rfl (dR ?_))
  refine FQ.ret1 (v := (.bool true)) (Bs := [A _]) [0] rfl rfl rfl ⟨rfl, trivial⟩ ?_
  first | exact ⟨(by unfold above; dsimp only; rw [if_pos q1]), rfl⟩ | exact ⟨(by unfold above; dsimp only; rw [if_neg q1, if_pos q2]), rfl⟩ | exact ⟨(by unfold above; dsimp only; rw [if_neg q1, if_neg q2]), rfl⟩
  refine xmf rfl (xmi rfl (xmi rfl (TL.eql rfl rfl rfl rfl (fun q2 => ?_) (fun q2 => ?_))))
  refine xmt rfl (xmi rfl (xmi rfl (TL.lssV rfl rfl rfl rfl (TL.pickT (.bool _) rfl rfl rfl rfl (TL.pickF (.bool _) rfl rfl rfl rfl (xab rfl (dR ?_)))))))
  refine FQ.ret1 (v := (.bool _)) (Bs := [A _]) [0] rfl rfl rfl ⟨rfl, trivial⟩ ?_
  first | exact ⟨(by unfold above; dsimp only; rw [if_pos q1]), rfl⟩ | exact ⟨(by unfold above; dsimp only; rw [if_neg q1, if_pos q2]), rfl⟩ | exact ⟨(by unfold above; dsimp only; rw [if_neg q1, if_neg q2]), rfl⟩
  refine xmf rfl (xo rfl (xo rfl (xo rfl (xpF rfl (xpF rfl (xaf rfl (dR ?_)))))))
  refine FQ.ret1 (v := (.bool false)) (Bs := [A _]) [0] rfl rfl rfl ⟨rfl, trivial⟩ ?_
  first | exact ⟨(by unfold above; dsimp only; rw [if_pos q1]), rfl⟩ | exact ⟨(by unfold above; dsimp only; rw [if_neg q1, if_pos q2]), rfl⟩ | exact ⟨(by unfold above; dsimp only; rw [if_neg q1, if_neg q2]), rfl⟩

theorem merge_ok {S : Type} [MemLike S] {mt : TypeId} {mv : Value} {A : S → Assn} (hM : MemI Tryz.prog mt mv A) {l : Lay} (hl : l.Ok) {p : Pen} {σ : S} {a b r : Int} {k : Nat} {σ2 : S} (h : merge l p k σ a b = some (r, σ2)) : FnD Tryz.prog 149 [treesV l mt mv p, .int .i64 a, .int .i64 b] [A σ] (.int .i64 r) [A σ2] := by
  induction k generalizing σ a b r σ2
  case zero => simp [merge] at h
  case succ k ih =>
    refine Fn.enter (Tryz.func149) rfl rfl (fun w0 R => ?_)
    refine sA (xB 1 rfl (fun bk1 => (xai rfl (dS (TC.block (sA (xmi rfl (TL.eql rfl rfl rfl rfl (fun q1 => ?_) (fun q1 => ?_)))))))))
    refine xat rfl (dT rfl (xmi rfl (xai rfl (dR (TQ.blockRet (TQ.thenRet ?_))))))
    refine FQ.ret1 (v := (.int _ _)) (Bs := [A _]) [0] rfl rfl rfl ⟨rfl, trivial⟩ ?_
    rw [merge, if_pos q1] at h; cases h; exact ⟨rfl, rfl⟩
    refine xaf rfl (TL.done (TQ.then (TC.condF rfl (sA (xmi rfl (TL.eql rfl rfl rfl rfl (fun q2 => ?_) (fun q2 => ?_)))))))
    refine xat rfl (dT rfl (xmi rfl (xai rfl (dR (TQ.blockRet (TQ.thenRet ?_))))))
    refine FQ.ret1 (v := (.int _ _)) (Bs := [A _]) [0] rfl rfl rfl ⟨rfl, trivial⟩ ?_
    rw [merge, if_neg q1, if_pos q2] at h; cases h; exact ⟨rfl, rfl⟩
    refine xaf rfl (TL.done (TQ.then (TC.condF rfl (sA (xL6 1 fc_a43_6 rfl rfl (xmi rfl (xmi rfl (TL.callD [0] [0] (above_ok hM hl) ⟨rfl, rfl, rfl, trivial⟩ ⟨rfl, trivial⟩ fc_c160 rfl rfl rfl rfl rfl trivial ?_))))))))
    refine TL.cases rfl (fun q3 => ?_) (fun q3 => ?_)
    refine xat rfl (TL.done (TQ.then (TC.condT rfl (TC.seq (TC.draw [(0, true), (1, true), (2, true), (3, true), (4, true), (6, true), (5, false), (7, false), (8, false)] [1] fc_m (by kernel_rfl) (xL6 1 fc_a43_6 rfl rfl (xmi rfl (xL6 1 fc_a43_6 rfl rfl ?_))))))))
    refine xL6 1 fc_a43_6 rfl rfl (xmi rfl (xmi rfl (TL.callD [0] [0] (tget_ok hM hl) ⟨rfl, rfl, rfl, trivial⟩ ⟨rfl, trivial⟩ fc_c139 rfl rfl rfl rfl rfl (kL1 rfl trivial) ?_)))
    rw [merge, if_neg q1, if_neg q2] at h
    dsimp only at h
    rw [if_pos q3] at h
    obtain ⟨⟨c, σ3⟩, h1, h9⟩ := Option.bind_eq_some_iff.1 h
    refine TL.callD [0] [0] (ih h1) ⟨rfl, rfl, rfl, trivial⟩ ⟨rfl, trivial⟩ fc_c149 rfl rfl rfl rfl rfl (kL1 rfl trivial) (TL.callD [0] [0] (set_ok hM hl) ⟨rfl, rfl, rfl, rfl, trivial⟩ ⟨rfl, trivial⟩ fc_c161 rfl rfl rfl rfl rfl (kL1 rfl trivial) (dA (xmi rfl (xai rfl (dR (TQ.blockRet (TQ.thenRet ?_)))))))
    refine FQ.ret1 (v := (.int _ _)) (Bs := [A _]) [0] rfl rfl rfl ⟨rfl, trivial⟩ ?_
    cases h9; exact ⟨rfl, rfl⟩
    refine xaf rfl (TL.done (TQ.then (TC.condF rfl (TC.skip (TQ.inBlock (TQ.then (TC.seq (TC.draw [(0, true), (1, true), (2, true), (3, true), (4, true), (5, true), (6, false), (7, false), (8, false)] [1] fc_m (by kernel_rfl) ?_))))))))
    refine xL6 1 fc_a43_6 rfl rfl (xmi rfl (xL6 1 fc_a43_6 rfl rfl (xmi rfl (xL6 1 fc_a43_6 rfl rfl (xmi rfl (TL.callD [0] [0] (tget_ok hM hl) ⟨rfl, rfl, rfl, trivial⟩ ⟨rfl, trivial⟩ fc_c139 rfl rfl rfl rfl rfl (kL1 rfl trivial) ?_))))))
    rw [merge, if_neg q1, if_neg q2] at h
    dsimp only at h
    rw [if_neg (by rw [q3]; decide)] at h
    obtain ⟨⟨c, σ3⟩, h1, h9⟩ := Option.bind_eq_some_iff.1 h
    refine TL.callD [0] [0] (ih h1) ⟨rfl, rfl, rfl, trivial⟩ ⟨rfl, trivial⟩ fc_c149 rfl rfl rfl rfl rfl (kL1 rfl trivial) (TL.callD [0] [0] (set_ok hM hl) ⟨rfl, rfl, rfl, rfl, trivial⟩ ⟨rfl, trivial⟩ fc_c161 rfl rfl rfl rfl rfl (kL1 rfl trivial) (dA (xmi rfl (xai rfl (dR ?_)))))
    refine FQ.ret1 (v := (.int _ _)) (Bs := [A _]) [0] rfl rfl rfl ⟨rfl, trivial⟩ ?_
    cases h9; exact ⟨rfl, rfl⟩

theorem mergeT_ok {S : Type} [MemLike S] {mt : TypeId} {mv : Value} {A : S → Assn} (hM : MemI Tryz.prog mt mv A) {l : Lay} (hl : l.Ok) {p : Pen} {σ : S} {a b r : Int} {k : Nat} {σ2 : S} (h : mergeT l p k σ a b = some (r, σ2)) : FnD Tryz.prog 122 [treesV l mt mv p, .int .i64 a, .int .i64 b] [A σ] (.int .i64 r) [A σ2] := by
  obtain ⟨⟨c, σ3⟩, h1, h9⟩ := Option.bind_eq_some_iff.1 h
  cases h9
  refine Fn.enter (Tryz.func122) rfl rfl (fun w0 R => ?_)
  refine sA (xB 1 rfl (fun bk1 => (xai rfl (dA (xL6 1 fc_a43_6 rfl rfl (xmi rfl (xmi rfl (TL.callD [0] [0] (merge_ok hM hl h1) ⟨rfl, rfl, rfl, trivial⟩ ⟨rfl, trivial⟩ fc_c149 rfl rfl rfl rfl rfl trivial (xai rfl ?_)))))))))
  refine dA (xL6 1 fc_a43_6 rfl rfl (xmi rfl (TL.callD [0] [0] (hang_ok hM hl) ⟨rfl, rfl, rfl, trivial⟩ ⟨rfl, trivial⟩ fc_c97 rfl rfl rfl rfl rfl trivial (dA (xmi rfl (xai rfl (dR ?_)))))))
  refine FQ.ret1 (v := (.int _ _)) (Bs := [A _]) [0] rfl rfl rfl ⟨rfl, trivial⟩ ?_
  exact ⟨rfl, rfl⟩

theorem mark_true {S : Type} [MemLike S] {mt : TypeId} {mv : Value} {A : S → Assn} (hM : MemI Tryz.prog mt mv A) {l : Lay} (hl : l.Ok) {p : Pen} {σ : S} {x m : Int} {k : Nat} {σ2 : S} (h0 : 0 ≤ m) (h : markT l k σ x m true = some σ2) : FnD Tryz.prog 120 [treesV l mt mv p, .int .i64 x, .int .i64 m, .bool true] [A σ] (.tuple #[]) [A σ2] := by
  unfold markT at h
  dsimp only [markM] at h
  simp only [if_true, Bool.false_eq_true, if_false] at h
  refine Fn.enter (Tryz.func120) rfl rfl (fun w0 R => ?_)
  refine sA (xB 1 rfl (fun bk1 => (dS (TC.draw [(0, true), (1, true), (3, true), (4, true), (2, false), (5, true), (6, true)] [1] fc_m (by kernel_rfl) (xL6 1 fc_a43_6 rfl rfl (xmi rfl (xmi rfl (TL.shl _ rfl rfl (by omega) rfl rfl rfl (TL.callD [0] [0] (marks_ok hM hl) ⟨rfl, rfl, trivial⟩ ⟨rfl, trivial⟩ fc_c147 rfl rfl rfl rfl rfl (kL1 rfl trivial) ?_)))))))))
  refine TL.andNot _ rfl rfl rfl rfl rfl (xai rfl (dB (xmt rfl (TL.done (TQ.then (TC.condT rfl (TC.region (xmi rfl ?_))))))))
  refine xmi rfl (TL.shl _ rfl rfl (by omega) rfl rfl rfl (TL.or _ rfl rfl rfl rfl rfl (xai rfl (dA (xL6 1 fc_a43_6 rfl rfl (xmi rfl (xmi rfl (TL.callD [0] [0] (renew_ok hM hl) ⟨rfl, rfl, rfl, trivial⟩ ⟨rfl, trivial⟩ fc_c148 rfl rfl rfl rfl rfl trivial ?_))))))))
  refine dA (xL6 1 fc_a43_6 rfl rfl (xmi rfl (TL.callD [0] [0] (parent_ok hM hl) ⟨rfl, rfl, trivial⟩ ⟨rfl, trivial⟩ fc_c126 rfl rfl rfl rfl rfl trivial (xai rfl (dK (TC.loopK (X := Nat × S × Int) [4] [1] (fun y => [(9, .int .i64 y.2.2)]) (fun y => [(0, A y.2.1)]) (fun y => markUp l y.1 y.2.1 y.2.2 = some σ2) (fun y => y.1) ((k, _, _)) h ⟨rfl, trivial⟩ ⟨rfl, trivial⟩ (fun y hI => ?_)))))))
  obtain ⟨k, σ1, z⟩ := y
  rcases k with _ | k
  · simp [markUp] at hI
  dsimp only at hI
  refine TC.sub (env' := [(9, _), (4, _)]) (L' := [(0, _), (1, _)]) ⟨rfl, rfl, trivial⟩ ⟨rfl, rfl, trivial⟩ (sB (xmi rfl (TL.neq rfl rfl rfl rfl (fun q1 => ?_) (fun q1 => ?_))))
  refine TL.done (TQ.then (TC.condT rfl (TC.skip (TQ.then (TC.seq (TC.block (TC.draw [(0, true), (1, true), (2, true), (3, true), (4, false), (5, false)] [1] fc_m (by kernel_rfl) (xL6 1 fc_a43_6 rfl rfl ?_))))))))
  refine xmi rfl (xL6 1 fc_a43_6 rfl rfl (xmi rfl (TL.callD [0] [0] (marks_ok hM hl) ⟨rfl, rfl, trivial⟩ ⟨rfl, trivial⟩ fc_c147 rfl rfl rfl rfl rfl (kL1 rfl trivial) (TL.callD [0] [0] (renew_ok hM hl) ⟨rfl, rfl, rfl, trivial⟩ ⟨rfl, trivial⟩ fc_c148 rfl rfl rfl rfl rfl (kL1 rfl trivial) (dI (xL6 1 fc_a43_6 rfl rfl (xmi rfl (TL.callD [0] [0] (parent_ok hM hl) ⟨rfl, rfl, trivial⟩ ⟨rfl, trivial⟩ fc_c126 rfl rfl rfl rfl rfl trivial ?_))))))))
  refine xai rfl (TL.done (TQ.roundK ((k, _, _)) ⟨(by rw [markUp, if_pos q1] at hI; exact hI), Nat.lt_succ_self _⟩ ⟨rfl, trivial⟩ ⟨rfl, trivial⟩ (kE1 rfl trivial) (kL1 rfl trivial)))
  refine TL.done (TQ.then (TC.condF rfl (TC.exit (TQ.thenExit (TQ.thenExit (TQ.blockHere ?_))))))
  refine FQ.end0 (Bs := [A _]) [0] rfl rfl ⟨rfl, trivial⟩ ?_
  rw [markUp, if_neg q1] at hI; cases hI; exact ⟨rfl, rfl⟩

theorem mark_false {S : Type} [MemLike S] {mt : TypeId} {mv : Value} {A : S → Assn} (hM : MemI Tryz.prog mt mv A) {l : Lay} (hl : l.Ok) {p : Pen} {σ : S} {x m : Int} {k : Nat} {σ2 : S} (h0 : 0 ≤ m) (h : markT l k σ x m false = some σ2) : FnD Tryz.prog 120 [treesV l mt mv p, .int .i64 x, .int .i64 m, .bool false] [A σ] (.tuple #[]) [A σ2] := by
  unfold markT at h
  dsimp only [markM] at h
  simp only [if_true, Bool.false_eq_true, if_false] at h
  refine Fn.enter (Tryz.func120) rfl rfl (fun w0 R => ?_)
  refine sA (xB 1 rfl (fun bk1 => (dS (TC.draw [(0, true), (1, true), (3, true), (4, true), (2, false), (5, true), (6, true)] [1] fc_m (by kernel_rfl) (xL6 1 fc_a43_6 rfl rfl (xmi rfl (xmi rfl (TL.shl _ rfl rfl (by omega) rfl rfl rfl (TL.callD [0] [0] (marks_ok hM hl) ⟨rfl, rfl, trivial⟩ ⟨rfl, trivial⟩ fc_c147 rfl rfl rfl rfl rfl (kL1 rfl trivial) ?_)))))))))
  refine TL.andNot _ rfl rfl rfl rfl rfl (xai rfl (dB (xmf rfl (dF rfl (xL6 1 fc_a43_6 rfl rfl (xmi rfl (xmi rfl (TL.callD [0] [0] (renew_ok hM hl) ⟨rfl, rfl, rfl, trivial⟩ ⟨rfl, trivial⟩ fc_c148 rfl rfl rfl rfl rfl trivial ?_))))))))
  refine dA (xL6 1 fc_a43_6 rfl rfl (xmi rfl (TL.callD [0] [0] (parent_ok hM hl) ⟨rfl, rfl, trivial⟩ ⟨rfl, trivial⟩ fc_c126 rfl rfl rfl rfl rfl trivial (xai rfl (dK (TC.loopK (X := Nat × S × Int) [4] [1] (fun y => [(9, .int .i64 y.2.2)]) (fun y => [(0, A y.2.1)]) (fun y => markUp l y.1 y.2.1 y.2.2 = some σ2) (fun y => y.1) ((k, _, _)) h ⟨rfl, trivial⟩ ⟨rfl, trivial⟩ (fun y hI => ?_)))))))
  obtain ⟨k, σ1, z⟩ := y
  rcases k with _ | k
  · simp [markUp] at hI
  dsimp only at hI
  refine TC.sub (env' := [(9, _), (4, _)]) (L' := [(0, _), (1, _)]) ⟨rfl, rfl, trivial⟩ ⟨rfl, rfl, trivial⟩ (sB (xmi rfl (TL.neq rfl rfl rfl rfl (fun q1 => ?_) (fun q1 => ?_))))
  refine TL.done (TQ.then (TC.condT rfl (TC.skip (TQ.then (TC.seq (TC.block (TC.draw [(0, true), (1, true), (2, true), (3, true), (4, false), (5, false)] [1] fc_m (by kernel_rfl) (xL6 1 fc_a43_6 rfl rfl ?_))))))))
  refine xmi rfl (xL6 1 fc_a43_6 rfl rfl (xmi rfl (TL.callD [0] [0] (marks_ok hM hl) ⟨rfl, rfl, trivial⟩ ⟨rfl, trivial⟩ fc_c147 rfl rfl rfl rfl rfl (kL1 rfl trivial) (TL.callD [0] [0] (renew_ok hM hl) ⟨rfl, rfl, rfl, trivial⟩ ⟨rfl, trivial⟩ fc_c148 rfl rfl rfl rfl rfl (kL1 rfl trivial) (dI (xL6 1 fc_a43_6 rfl rfl (xmi rfl (TL.callD [0] [0] (parent_ok hM hl) ⟨rfl, rfl, trivial⟩ ⟨rfl, trivial⟩ fc_c126 rfl rfl rfl rfl rfl trivial ?_))))))))
  refine xai rfl (TL.done (TQ.roundK ((k, _, _)) ⟨(by rw [markUp, if_pos q1] at hI; exact hI), Nat.lt_succ_self _⟩ ⟨rfl, trivial⟩ ⟨rfl, trivial⟩ (kE1 rfl trivial) (kL1 rfl trivial)))
  refine TL.done (TQ.then (TC.condF rfl (TC.exit (TQ.thenExit (TQ.thenExit (TQ.blockHere ?_))))))
  refine FQ.end0 (Bs := [A _]) [0] rfl rfl ⟨rfl, trivial⟩ ?_
  rw [markUp, if_neg q1] at hI; cases hI; exact ⟨rfl, rfl⟩

theorem mark_ok {S : Type} [MemLike S] {mt : TypeId} {mv : Value} {A : S → Assn} (hM : MemI Tryz.prog mt mv A) {l : Lay} (hl : l.Ok) {p : Pen} {σ : S} {x m : Int} {on : Bool} {k : Nat} {σ2 : S} (h0 : 0 ≤ m) (h : markT l k σ x m on = some σ2) : FnD Tryz.prog 120 [treesV l mt mv p, .int .i64 x, .int .i64 m, .bool on] [A σ] (.tuple #[]) [A σ2] := by
  cases on
  · exact mark_false hM hl h0 h
  · exact mark_true hM hl h0 h

theorem marked_ok {S : Type} [MemLike S] {mt : TypeId} {mv : Value} {A : S → Assn} (hM : MemI Tryz.prog mt mv A) {l : Lay} (hl : l.Ok) {p : Pen} {σ : S} {x m : Int} (h0 : 0 ≤ m) : FnD Tryz.prog 140 [treesV l mt mv p, .int .i64 x, .int .i64 m] [A σ] (.bool (marked l σ x m)) [A (marksS l σ x)] := by
  refine Fn.enter (Tryz.func140) rfl rfl (fun w0 R => ?_)
  refine sA (xB 1 rfl (fun bk1 => (xaf rfl (dA (xL6 1 fc_a43_6 rfl rfl (xmi rfl (TL.callD [0] [0] (marks_ok hM hl) ⟨rfl, rfl, trivial⟩ ⟨rfl, trivial⟩ fc_c147 rfl rfl rfl rfl rfl trivial (xmi rfl (TL.shr _ rfl rfl (by omega) rfl rfl rfl ?_)))))))))
  refine TL.and _ rfl rfl rfl rfl rfl (TL.eqlV rfl rfl rfl rfl (xab rfl (dR ?_)))
  refine FQ.ret1 (v := (.bool _)) (Bs := [A _]) [0] rfl rfl rfl ⟨rfl, trivial⟩ ?_
  exact ⟨rfl, rfl⟩

theorem has_ok {S : Type} [MemLike S] {mt : TypeId} {mv : Value} {A : S → Assn} (hM : MemI Tryz.prog mt mv A) {l : Lay} (hl : l.Ok) {p : Pen} {σ : S} {x m : Int} (h0 : 0 ≤ m) : FnD Tryz.prog 138 [treesV l mt mv p, .int .i64 x, .int .i64 m] [A σ] (.bool (has l σ x m)) [A (tsumS l σ x)] := by
  refine Fn.enter (Tryz.func138) rfl rfl (fun w0 R => ?_)
  refine sA (xB 1 rfl (fun bk1 => (xaf rfl (dA (xL6 1 fc_a43_6 rfl rfl (xmi rfl (TL.callD [0] [0] (tsum_ok hM hl) ⟨rfl, rfl, trivial⟩ ⟨rfl, trivial⟩ fc_c146 rfl rfl rfl rfl rfl trivial (TL.shr _ rfl rfl (by decide) rfl rfl rfl (xmi rfl ?_)))))))))
  refine TL.shr _ rfl rfl (by omega) rfl rfl rfl (TL.and _ rfl rfl rfl rfl rfl (TL.eqlV rfl rfl rfl rfl (xab rfl (dR ?_))))
  refine FQ.ret1 (v := (.bool _)) (Bs := [A _]) [0] rfl rfl rfl ⟨rfl, trivial⟩ ?_
  exact ⟨rfl, rfl⟩

theorem first_ok {S : Type} [MemLike S] {mt : TypeId} {mv : Value} {A : S → Assn} (hM : MemI Tryz.prog mt mv A) {l : Lay} (hl : l.Ok) {p : Pen} {σ : S} {x m r : Int} {k : Nat} {σ2 : S} (h0 : 0 ≤ m) (h : first l k σ x m = some (r, σ2)) : FnD Tryz.prog 104 [treesV l mt mv p, .int .i64 x, .int .i64 m] [A σ] (.int .i64 r) [A σ2] := by
  unfold first at h
  refine Fn.enter (Tryz.func104) rfl rfl (fun w0 R => ?_)
  refine sA (xB 1 rfl (fun bk1 => (xai rfl (dA (xmi rfl (xai rfl (dB (xL6 1 fc_a43_6 rfl rfl (xmi rfl ?_)))))))))
  refine xmi rfl (TL.callD [0] [0] (has_ok hM hl h0) ⟨rfl, rfl, rfl, trivial⟩ ⟨rfl, trivial⟩ fc_c138 rfl rfl rfl rfl rfl trivial (TL.cases rfl (fun q1 => ?_) (fun q1 => ?_)))
  refine xnt rfl (TL.done (TQ.then (TC.condF rfl (TC.skip (TQ.then (TC.block (TC.loopK (X := Nat × S × Int) [2, 3] [1] (fun y => [(7, .int .i64 y.2.2)]) (fun y => [(0, A y.2.1)]) (fun y => firstL l m y.1 y.2.1 y.2.2 = some (r, σ2)) (fun y => y.1) ((k, _, x)) (by rw [if_pos q1] at h; exact h) ⟨rfl, trivial⟩ ⟨rfl, trivial⟩ (fun y hI => ?_))))))))
  obtain ⟨k, σ1, z⟩ := y
  rcases k with _ | k
  · simp [firstL] at hI
  dsimp only at hI
  refine TC.sub (env' := [(7, _), (2, _), (3, _)]) (L' := [(0, _), (1, _)]) ⟨rfl, rfl, rfl, trivial⟩ ⟨rfl, rfl, trivial⟩ (TC.block (sA (xL6 1 fc_a43_6 rfl rfl (xmi rfl (TL.callD [0] [0] (tget_ok hM hl) ⟨rfl, rfl, rfl, trivial⟩ ⟨rfl, trivial⟩ fc_c139 rfl rfl rfl rfl rfl trivial (xai rfl (dK (sA ?_))))))))
  refine xL6 1 fc_a43_6 rfl rfl (xmi rfl (xmi rfl (TL.callD [0] [0] (has_ok hM hl h0) ⟨rfl, rfl, rfl, trivial⟩ ⟨rfl, trivial⟩ fc_c138 rfl rfl rfl rfl rfl trivial (TL.cases rfl (fun q2 => ?_) (fun q2 => ?_)))))
  refine xat rfl (TL.done (TQ.then (TC.condT rfl (TC.region (xmi rfl (xai rfl (TL.done (TQ.inBlock ?_))))))))
  refine TQ.inBlock (TQ.roundK ((k, _, _)) ⟨(by rw [firstL] at hI; dsimp only at hI; rw [if_pos q2] at hI; exact hI), Nat.lt_succ_self _⟩ ⟨rfl, trivial⟩ ⟨rfl, trivial⟩ (kE2 rfl rfl trivial) (kL1 rfl trivial))
  refine xaf rfl (TL.done (TQ.then (TC.condF rfl (sA (xL6 1 fc_a43_6 rfl rfl (xmi rfl (xmi rfl (TL.callD [0] [0] (marked_ok hM hl h0) ⟨rfl, rfl, rfl, trivial⟩ ⟨rfl, trivial⟩ fc_c140 rfl rfl rfl rfl rfl trivial ?_))))))))
  refine TL.cases rfl (fun q3 => ?_) (fun q3 => ?_)
  refine xat rfl (dT rfl (xmi rfl (xai rfl (dR (TQ.blockRet (TQ.blockRet (TQ.thenRet (TQ.blockRet ?_))))))))
  refine FQ.ret1 (v := (.int _ _)) (Bs := [A _]) [0] rfl rfl rfl ⟨rfl, trivial⟩ ?_
  rw [firstL] at hI; dsimp only at hI; rw [if_neg (by rw [q2]; decide), if_pos q3] at hI; cases hI; exact ⟨rfl, rfl⟩
  refine xaf rfl (TL.done (TQ.then (TC.condF rfl (TC.region (xL6 1 fc_a43_6 rfl rfl (xmi rfl (TL.callD [0] [0] (tget_ok hM hl) ⟨rfl, rfl, rfl, trivial⟩ ⟨rfl, trivial⟩ fc_c139 rfl rfl rfl rfl rfl trivial (xai rfl ?_))))))))
  refine TL.done (TQ.inBlock (TQ.inBlock (TQ.roundK ((k, _, _)) ⟨(by rw [firstL] at hI; dsimp only at hI; rw [if_neg (by rw [q2]; decide), if_neg (by rw [q3]; decide)] at hI; exact hI), Nat.lt_succ_self _⟩ ⟨rfl, trivial⟩ ⟨rfl, trivial⟩ (kE2 rfl rfl trivial) (kL1 rfl trivial))))
  refine xnf rfl (dT rfl (xai rfl (dRR ?_)))
  refine FQ.ret1 (v := (.int _ _)) (Bs := [A _]) [0] rfl rfl rfl ⟨rfl, trivial⟩ ?_
  rw [if_neg (by rw [q1]; decide)] at h; cases h; exact ⟨rfl, rfl⟩

theorem begin_ok {S : Type} [MemLike S] {mt : TypeId} {mv : Value} {A : S → Assn} (hM : MemI Tryz.prog mt mv A) {l : Lay} (hl : l.Ok) {p : Pen} {σ : S} {i u r : Int} {k : Nat} {σ2 : S} (h : begin_ l p k σ i u = some (r, σ2)) : FnD Tryz.prog 123 [treesV l mt mv p, .int .i64 i, .int .i64 u] [A σ] (.int .i64 r) [A σ2] := by
  unfold begin_ at h
  dsimp only at h
  obtain ⟨⟨a, σa⟩, h1, h⟩ := Option.bind_eq_some_iff.1 h
  obtain ⟨⟨j, σb⟩, h2, h⟩ := Option.bind_eq_some_iff.1 h
  obtain ⟨⟨s, σc⟩, h3, h4⟩ := Option.bind_eq_some_iff.1 h
  dsimp only at h1 h2 h3 h4
  refine Fn.enter (Tryz.func123) rfl rfl (fun w0 R => ?_)
  refine sA (xB 1 rfl (fun bk1 => (xai rfl (dA (xf 0 fc_f45_0_0 rfl (xf 0 fc_f43_0_0 rfl (xL3 1 fc_a23_3 rfl rfl (xmi rfl (xmi rfl ?_)))))))))
  refine TL.callD [] [] (vertex_ok hl) ⟨rfl, rfl, rfl, trivial⟩ trivial fc_c82 rfl rfl rfl rfl rfl trivial (xai rfl (dS (TC.draw [(0, true), (1, true), (2, true), (3, true), (4, true), (6, true), (7, true), (8, true), (5, false), (9, false), (10, false), (11, true), (12, true), (13, true), (14, true), (15, true)] [1] fc_m (by kernel_rfl) (xf 0 fc_f45_0_0 rfl (xL6 1 fc_a43_6 rfl rfl (xf 0 fc_f45_0_0 rfl (xL6 1 fc_a43_6 rfl rfl (xmi rfl ?_))))))))
  refine xf 0 fc_f45_0_0 rfl (xL6 1 fc_a43_6 rfl rfl (xmi rfl (TL.callD [0] [0] (root_ok hM hl h1) ⟨rfl, rfl, trivial⟩ ⟨rfl, trivial⟩ fc_c81 rfl rfl rfl rfl rfl (kL1 rfl trivial) (TL.callD [0] [0] (index_ok hM hl h2) ⟨rfl, rfl, trivial⟩ ⟨rfl, trivial⟩ fc_c124 rfl rfl rfl rfl rfl (kL1 rfl trivial) (TL.callD [0] [0] (splitT_ok hM hl h3) ⟨rfl, rfl, rfl, trivial⟩ ⟨rfl, trivial⟩ fc_c125 rfl rfl rfl rfl rfl (kL1 rfl trivial) (xmu rfl (xei rfl rfl (xei rfl rfl ?_))))))))
  refine xai rfl (xai rfl (dA (xf 0 fc_f45_0_0 rfl (xL6 1 fc_a43_6 rfl rfl (xmi rfl (xmi rfl (TL.callD [0] [0] (mergeT_ok hM hl h4) ⟨rfl, rfl, rfl, trivial⟩ ⟨rfl, trivial⟩ fc_c122 rfl rfl rfl rfl rfl trivial (xai rfl ?_))))))))
  refine dR ?_
  refine FQ.ret1 (v := (.int _ _)) (Bs := [A _]) [0] rfl rfl rfl ⟨rfl, trivial⟩ ?_
  exact ⟨rfl, rfl⟩

theorem same_ok {S : Type} [MemLike S] {mt : TypeId} {mv : Value} {A : S → Assn} (hM : MemI Tryz.prog mt mv A) {l : Lay} (hl : l.Ok) {p : Pen} {σ : S} {i u v : Int} {b : Bool} {k : Nat} {σ2 : S} (h : same l k σ i u v = some (b, σ2)) : FnD Tryz.prog 30 [treesV l mt mv p, .int .i64 i, .int .i64 u, .int .i64 v] [A σ] (.bool b) [A σ2] := by
  unfold same at h
  obtain ⟨⟨a, σa⟩, h1, h⟩ := Option.bind_eq_some_iff.1 h
  obtain ⟨⟨c, σb⟩, h2, h⟩ := Option.bind_eq_some_iff.1 h
  dsimp only at h1 h2 h
  cases h
  refine Fn.enter (Tryz.func30) rfl rfl (fun w0 R => ?_)
  refine sA (xB 1 rfl (fun bk1 => (xaf rfl (dS (TC.draw [(0, true), (1, true), (2, true), (3, true), (4, true), (5, true), (6, true), (9, true), (10, true), (11, true), (12, true), (13, true), (14, true), (15, true), (7, false), (8, false), (16, false), (17, false), (18, true), (19, true)] [1] fc_m (by kernel_rfl) (xf 0 fc_f45_0_0 rfl (xL6 1 fc_a43_6 rfl rfl (xf 0 fc_f45_0_0 rfl (xf 0 fc_f43_0_0 rfl ?_)))))))))
  refine xL3 1 fc_a23_3 rfl rfl (xmi rfl (xmi rfl (xf 0 fc_f45_0_0 rfl (xL6 1 fc_a43_6 rfl rfl (xf 0 fc_f45_0_0 rfl (xf 0 fc_f43_0_0 rfl (xL3 1 fc_a23_3 rfl rfl (xmi rfl ?_))))))))
  refine xmi rfl (TL.callD [] [] (vertex_ok hl) ⟨rfl, rfl, rfl, trivial⟩ trivial fc_c82 rfl rfl rfl rfl rfl (kL1 rfl trivial) (TL.callD [0] [0] (root_ok hM hl h1) ⟨rfl, rfl, trivial⟩ ⟨rfl, trivial⟩ fc_c81 rfl rfl rfl rfl rfl (kL1 rfl trivial) (TL.callD [] [] (vertex_ok hl) ⟨rfl, rfl, rfl, trivial⟩ trivial fc_c82 rfl rfl rfl rfl rfl (kL1 rfl trivial) (TL.callD [0] [0] (root_ok hM hl h2) ⟨rfl, rfl, trivial⟩ ⟨rfl, trivial⟩ fc_c81 rfl rfl rfl rfl rfl (kL1 rfl trivial) (TL.eqlV rfl rfl rfl rfl (xab rfl (dR ?_)))))))
  refine FQ.ret1 (v := (.bool _)) (Bs := [A _]) [0] rfl rfl rfl ⟨rfl, trivial⟩ ?_
  exact ⟨rfl, rfl⟩

theorem count_ok {S : Type} [MemLike S] {mt : TypeId} {mv : Value} {A : S → Assn} (hM : MemI Tryz.prog mt mv A) {l : Lay} (hl : l.Ok) {p : Pen} {σ : S} {i u r : Int} {k : Nat} {σ2 : S} (h : count l k σ i u = some (r, σ2)) : FnD Tryz.prog 76 [treesV l mt mv p, .int .i64 i, .int .i64 u] [A σ] (.int .i64 r) [A σ2] := by
  unfold count at h
  obtain ⟨⟨a, σa⟩, h1, h⟩ := Option.bind_eq_some_iff.1 h
  dsimp only at h1 h
  cases h
  refine Fn.enter (Tryz.func76) rfl rfl (fun w0 R => ?_)
  refine sA (xB 1 rfl (fun bk1 => (xai rfl (dS (TC.draw [(0, true), (1, true), (2, true), (3, true), (4, true), (5, true), (6, true), (7, true), (8, true), (9, false), (10, false), (11, false), (12, true)] [1] fc_m (by kernel_rfl) (xf 0 fc_f45_0_0 rfl (xL6 1 fc_a43_6 rfl rfl (xf 0 fc_f45_0_0 rfl (xL6 1 fc_a43_6 rfl rfl ?_)))))))))
  refine xf 0 fc_f45_0_0 rfl (xf 0 fc_f43_0_0 rfl (xL3 1 fc_a23_3 rfl rfl (xmi rfl (xmi rfl (TL.callD [] [] (vertex_ok hl) ⟨rfl, rfl, rfl, trivial⟩ trivial fc_c82 rfl rfl rfl rfl rfl (kL1 rfl trivial) (TL.callD [0] [0] (root_ok hM hl h1) ⟨rfl, rfl, trivial⟩ ⟨rfl, trivial⟩ fc_c81 rfl rfl rfl rfl rfl (kL1 rfl trivial) (TL.callD [0] [0] (verts_ok hM hl) ⟨rfl, rfl, trivial⟩ ⟨rfl, trivial⟩ fc_c119 rfl rfl rfl rfl rfl (kL1 rfl trivial) (xai rfl ?_))))))))
  refine dR ?_
  refine FQ.ret1 (v := (.int _ _)) (Bs := [A _]) [0] rfl rfl rfl ⟨rfl, trivial⟩ ?_
  exact ⟨rfl, rfl⟩

theorem arcs2_ok {mt : TypeId} {mv : Value} {l : Lay} (hl : l.Ok) {p : Pen} {i s : Int} : FnD Tryz.prog 80 [treesV l mt mv p, .int .i64 i, .int .i64 s] [] (.tuple #[.int .i64 (l.arc s i 0), .int .i64 (l.arc s i 1)]) [] := by
  refine Fn.enter (Tryz.func80) rfl rfl (fun w0 R => ?_)
  refine sA (xB 0 rfl (fun bk0 => (xai rfl (xai rfl (dS (TC.draw [(0, true), (1, true), (2, true), (3, true), (4, true), (6, true), (7, true), (8, true), (9, true), (10, true), (5, false), (11, false), (12, true), (13, true)] [0] fc_m (by kernel_rfl) (xf 0 fc_f45_0_0 rfl (xf 0 fc_f43_0_0 rfl (xL3 0 fc_a23_3 rfl rfl ?_)))))))))
  refine xmi rfl (xmi rfl (xf 0 fc_f45_0_0 rfl (xf 0 fc_f43_0_0 rfl (xL3 0 fc_a23_3 rfl rfl (xmi rfl (xmi rfl (TL.callD [] [] (arc_ok hl) ⟨rfl, rfl, rfl, rfl, trivial⟩ trivial fc_c121 rfl rfl rfl rfl rfl (kL1 rfl trivial) (TL.callD [] [] (arc_ok hl) ⟨rfl, rfl, rfl, rfl, trivial⟩ trivial fc_c121 rfl rfl rfl rfl rfl (kL1 rfl trivial) ?_))))))))
  refine xai rfl (xai rfl (dR ?_))
  refine FQ.ret2 (v := (.int _ _)) (x := (.int _ _)) (Bs := []) [] rfl rfl rfl rfl trivial ?_
  exact ⟨rfl, rfl⟩

theorem link_ok {S : Type} [MemLike S] {mt : TypeId} {mv : Value} {A : S → Assn} (hM : MemI Tryz.prog mt mv A) {l : Lay} (hl : l.Ok) {p : Pen} {σ : S} {i s u v r : Int} {k : Nat} {σ2 : S} (h : link l p k σ i s u v = some (r, σ2)) : FnD Tryz.prog 78 [treesV l mt mv p, .int .i64 i, .int .i64 s, .int .i64 u, .int .i64 v] [A σ] (.int .i64 r) [A σ2] := by
  unfold link at h
  obtain ⟨⟨a, σa⟩, h1, h⟩ := Option.bind_eq_some_iff.1 h
  obtain ⟨⟨x, σb⟩, h2, h⟩ := Option.bind_eq_some_iff.1 h
  obtain ⟨⟨b, σc⟩, h3, h⟩ := Option.bind_eq_some_iff.1 h
  obtain ⟨⟨y, σd⟩, h4, h5⟩ := Option.bind_eq_some_iff.1 h
  dsimp only at h1 h2 h3 h4 h5
  refine Fn.enter (Tryz.func78) rfl rfl (fun w0 R => ?_)
  refine sA (xB 1 rfl (fun bk1 => (xai rfl (dA (xL6 1 fc_a45_6 rfl rfl (xmi rfl (xmi rfl (TL.callD [] [] (arcs2_ok hl) ⟨rfl, rfl, rfl, trivial⟩ trivial fc_c80 rfl rfl rfl rfl rfl trivial (xmu rfl ?_)))))))))
  refine xei rfl rfl (xei rfl rfl (xai rfl (xai rfl (dS (TC.draw [(0, true), (1, true), (2, true), (3, true), (4, true), (6, true), (5, false), (7, false), (8, true)] [1] fc_m (by kernel_rfl) (xf 0 fc_f45_0_0 rfl (xL6 1 fc_a43_6 rfl rfl (xL6 1 fc_a45_6 rfl rfl ?_))))))))
  refine xmi rfl (xmi rfl (xmi rfl (TL.callD [0] [0] (begin_ok hM hl h1) ⟨rfl, rfl, rfl, trivial⟩ ⟨rfl, trivial⟩ fc_c123 rfl rfl rfl rfl rfl (kL1 rfl trivial) (TL.callD [0] [0] (mergeT_ok hM hl h2) ⟨rfl, rfl, rfl, trivial⟩ ⟨rfl, trivial⟩ fc_c122 rfl rfl rfl rfl rfl (kL1 rfl trivial) (xai rfl (dS (TC.draw [(0, true), (1, true), (2, true), (3, true), (4, true), (5, true), (6, false), (7, false), (8, true)] [1] fc_m (by kernel_rfl) (xf 0 fc_f45_0_0 rfl ?_))))))))
  refine xL6 1 fc_a43_6 rfl rfl (xmi rfl (xL6 1 fc_a45_6 rfl rfl (xmi rfl (xmi rfl (TL.callD [0] [0] (begin_ok hM hl h3) ⟨rfl, rfl, rfl, trivial⟩ ⟨rfl, trivial⟩ fc_c123 rfl rfl rfl rfl rfl (kL1 rfl trivial) (TL.callD [0] [0] (mergeT_ok hM hl h4) ⟨rfl, rfl, rfl, trivial⟩ ⟨rfl, trivial⟩ fc_c122 rfl rfl rfl rfl rfl (kL1 rfl trivial) (xai rfl (dA ?_))))))))
  refine xf 0 fc_f45_0_0 rfl (xL6 1 fc_a43_6 rfl rfl (xmi rfl (xmi rfl (TL.callD [0] [0] (mergeT_ok hM hl h5) ⟨rfl, rfl, rfl, trivial⟩ ⟨rfl, trivial⟩ fc_c122 rfl rfl rfl rfl rfl trivial (xai rfl (dR ?_))))))
  refine FQ.ret1 (v := (.int _ _)) (Bs := [A _]) [0] rfl rfl rfl ⟨rfl, trivial⟩ ?_
  exact ⟨rfl, rfl⟩

theorem linked_ok {S : Type} [MemLike S] {mt : TypeId} {mv : Value} {A : S → Assn} (hM : MemI Tryz.prog mt mv A) {l : Lay} (hl : l.Ok) {p : Pen} {σ : S} {i s : Int} {b : Bool} {k : Nat} {σ2 : S} (h : linkedT l k σ i s = some (b, σ2)) : FnD Tryz.prog 29 [treesV l mt mv p, .int .i64 i, .int .i64 s] [A σ] (.bool b) [A σ2] := by
  unfold linkedT at h
  obtain ⟨⟨a, σa⟩, h1, h⟩ := Option.bind_eq_some_iff.1 h
  obtain ⟨⟨c, σb⟩, h2, h⟩ := Option.bind_eq_some_iff.1 h
  dsimp only at h1 h2 h
  cases h
  refine Fn.enter (Tryz.func29) rfl rfl (fun w0 R => ?_)
  refine sA (xB 1 rfl (fun bk1 => (xaf rfl (dA (xL6 1 fc_a45_6 rfl rfl (xmi rfl (xmi rfl (TL.callD [] [] (arcs2_ok hl) ⟨rfl, rfl, rfl, trivial⟩ trivial fc_c80 rfl rfl rfl rfl rfl trivial (xmu rfl ?_)))))))))
  refine xei rfl rfl (xei rfl rfl (xai rfl (xai rfl (dS (TC.draw [(0, true), (1, true), (2, true), (4, true), (5, true), (6, true), (3, false), (7, false), (8, true), (9, true)] [1] fc_m (by kernel_rfl) (xf 0 fc_f45_0_0 rfl (xL6 1 fc_a43_6 rfl rfl (xmi rfl ?_))))))))
  refine xf 0 fc_f45_0_0 rfl (xL6 1 fc_a43_6 rfl rfl (xmi rfl (TL.callD [0] [0] (root_ok hM hl h1) ⟨rfl, rfl, trivial⟩ ⟨rfl, trivial⟩ fc_c81 rfl rfl rfl rfl rfl (kL1 rfl trivial) (TL.callD [0] [0] (root_ok hM hl h2) ⟨rfl, rfl, trivial⟩ ⟨rfl, trivial⟩ fc_c81 rfl rfl rfl rfl rfl (kL1 rfl trivial) (TL.eqlV rfl rfl rfl rfl (xab rfl (dR ?_)))))))
  refine FQ.ret1 (v := (.bool _)) (Bs := [A _]) [0] rfl rfl rfl ⟨rfl, trivial⟩ ?_
  exact ⟨rfl, rfl⟩

theorem cut_ok {S : Type} [MemLike S] {mt : TypeId} {mv : Value} {A : S → Assn} (hM : MemI Tryz.prog mt mv A) {l : Lay} (hl : l.Ok) {p : Pen} {σ : S} {i s : Int} {r : Int × Int} {k : Nat} {σ2 : S} (h : cut l p k σ i s = some (r, σ2)) : FnD Tryz.prog 79 [treesV l mt mv p, .int .i64 i, .int .i64 s] [A σ] (.tuple #[.int .i64 r.1, .int .i64 r.2]) [A σ2] := by
  unfold cut at h
  dsimp only at h
  obtain ⟨⟨i0, σa⟩, h1, h⟩ := Option.bind_eq_some_iff.1 h
  obtain ⟨⟨j0, σb⟩, h2, h⟩ := Option.bind_eq_some_iff.1 h
  obtain ⟨⟨rt, σc⟩, h3, h⟩ := Option.bind_eq_some_iff.1 h
  obtain ⟨⟨s1, σd⟩, h4, h⟩ := Option.bind_eq_some_iff.1 h
  obtain ⟨⟨s2, σe⟩, h5, h⟩ := Option.bind_eq_some_iff.1 h
  obtain ⟨⟨s3, σf⟩, h6, h⟩ := Option.bind_eq_some_iff.1 h
  obtain ⟨⟨s4, σg⟩, h7, h⟩ := Option.bind_eq_some_iff.1 h
  obtain ⟨⟨m, σh⟩, h8, h9⟩ := Option.bind_eq_some_iff.1 h
  dsimp only at h1 h2 h3 h4 h5 h6 h7 h8 h9
  cases h9
  refine Fn.enter (Tryz.func79) rfl rfl (fun w0 R => ?_)
  refine sA (xB 1 rfl (fun bk1 => (xai rfl (xai rfl (dA (xL6 1 fc_a45_6 rfl rfl (xmi rfl (xmi rfl (TL.callD [] [] (arcs2_ok hl) ⟨rfl, rfl, rfl, trivial⟩ trivial fc_c80 rfl rfl rfl rfl rfl trivial ?_)))))))))
  refine xmu rfl (xei rfl rfl (xei rfl rfl (xai rfl (xai rfl (dS (TC.draw [(0, true), (1, true), (2, true), (4, true), (5, true), (6, true), (3, false), (7, false), (8, true), (9, true)] [1] fc_m (by kernel_rfl) (xf 0 fc_f45_0_0 rfl (xL6 1 fc_a43_6 rfl rfl ?_))))))))
  refine xmi rfl (xf 0 fc_f45_0_0 rfl (xL6 1 fc_a43_6 rfl rfl (xmi rfl (TL.callD [0] [0] (index_ok hM hl h1) ⟨rfl, rfl, trivial⟩ ⟨rfl, trivial⟩ fc_c124 rfl rfl rfl rfl rfl (kL1 rfl trivial) (TL.callD [0] [0] (index_ok hM hl h2) ⟨rfl, rfl, trivial⟩ ⟨rfl, trivial⟩ fc_c124 rfl rfl rfl rfl rfl (kL1 rfl trivial) (xai rfl (xai rfl (dB ?_))))))))
  refine xmi rfl (xmi rfl (TL.gtr rfl rfl rfl rfl (fun q1 => ?_) (fun q1 => ?_)))
  refine TL.done (TQ.then (TC.condT rfl (TC.region (xmi rfl (xmi rfl (xai rfl (xai rfl (dS ?_))))))))
  refine TC.draw [(0, true), (1, true), (2, true), (3, true), (4, true), (6, true), (5, false), (7, false), (8, true), (9, true), (10, true), (11, true), (12, true)] [1] fc_m (by kernel_rfl) (xf 0 fc_f45_0_0 rfl (xL6 1 fc_a43_6 rfl rfl (xf 0 fc_f45_0_0 rfl (xL6 1 fc_a43_6 rfl rfl (xmi rfl (xmi rfl (TL.callD [0] [0] (root_ok hM hl h3) ⟨rfl, rfl, trivial⟩ ⟨rfl, trivial⟩ fc_c81 rfl rfl rfl rfl rfl (kL1 rfl trivial) (TL.callD [0] [0] (splitT_ok hM hl (by rw [if_pos q1] at h4; exact h4)) ⟨rfl, rfl, rfl, trivial⟩ ⟨rfl, trivial⟩ fc_c125 rfl rfl rfl rfl rfl (kL1 rfl trivial) ?_))))))))
  refine xmu rfl (xei rfl rfl (xei rfl rfl (xai rfl (xai rfl (dA (xf 0 fc_f45_0_0 rfl (xL6 1 fc_a43_6 rfl rfl (xmi rfl ?_))))))))
  refine TL.callD [0] [0] (splitT_ok hM hl h5) ⟨rfl, rfl, rfl, trivial⟩ ⟨rfl, trivial⟩ fc_c125 rfl rfl rfl rfl rfl trivial (xmu rfl (xei rfl rfl (xei rfl rfl (xai rfl (dA (xf 0 fc_f45_0_0 rfl (xL6 1 fc_a43_6 rfl rfl (xmi rfl ?_))))))))
  refine xmi rfl (TL.callD [0] [0] (splitT_ok hM hl (by rw [if_pos q1] at h6; exact h6)) ⟨rfl, rfl, rfl, trivial⟩ ⟨rfl, trivial⟩ fc_c125 rfl rfl rfl rfl rfl trivial (xmu rfl (xei rfl rfl (xei rfl rfl (xai rfl (xai rfl (dA (xf 0 fc_f45_0_0 rfl ?_))))))))
  refine xL6 1 fc_a43_6 rfl rfl (xmi rfl (TL.callD [0] [0] (splitT_ok hM hl h7) ⟨rfl, rfl, rfl, trivial⟩ ⟨rfl, trivial⟩ fc_c125 rfl rfl rfl rfl rfl trivial (xmu rfl (xei rfl rfl (xei rfl rfl (xai rfl (dA (xf 0 fc_f45_0_0 rfl ?_))))))))
  refine xL6 1 fc_a43_6 rfl rfl (xmi rfl (TL.callD [0] [0] (alone_ok hM hl) ⟨rfl, rfl, trivial⟩ ⟨rfl, trivial⟩ fc_c56 rfl rfl rfl rfl rfl trivial (dA (xf 0 fc_f45_0_0 rfl (xL6 1 fc_a43_6 rfl rfl (xmi rfl (TL.callD [0] [0] (alone_ok hM hl) ⟨rfl, rfl, trivial⟩ ⟨rfl, trivial⟩ fc_c56 rfl rfl rfl rfl rfl trivial (dA ?_))))))))
  refine xmi rfl (xf 0 fc_f45_0_0 rfl (xL6 1 fc_a43_6 rfl rfl (xmi rfl (xmi rfl (TL.callD [0] [0] (mergeT_ok hM hl h8) ⟨rfl, rfl, rfl, trivial⟩ ⟨rfl, trivial⟩ fc_c122 rfl rfl rfl rfl rfl trivial (xai rfl (xai rfl (dR ?_))))))))
  refine FQ.ret2 (v := (.int _ _)) (x := (.int _ _)) (Bs := [A _]) [0] rfl rfl rfl rfl ⟨rfl, trivial⟩ ?_
  exact ⟨rfl, rfl⟩
  refine TL.done (TQ.then (TC.condF rfl (TC.skip (TQ.then (TC.seq (TC.draw [(0, true), (1, true), (2, true), (3, true), (4, true), (6, true), (5, false), (7, false), (8, true), (9, true), (10, true), (11, true), (12, true)] [1] fc_m (by kernel_rfl) (xf 0 fc_f45_0_0 rfl (xL6 1 fc_a43_6 rfl rfl ?_))))))))
  refine xf 0 fc_f45_0_0 rfl (xL6 1 fc_a43_6 rfl rfl (xmi rfl (xmi rfl (TL.callD [0] [0] (root_ok hM hl h3) ⟨rfl, rfl, trivial⟩ ⟨rfl, trivial⟩ fc_c81 rfl rfl rfl rfl rfl (kL1 rfl trivial) (TL.callD [0] [0] (splitT_ok hM hl (by rw [if_neg q1] at h4; exact h4)) ⟨rfl, rfl, rfl, trivial⟩ ⟨rfl, trivial⟩ fc_c125 rfl rfl rfl rfl rfl (kL1 rfl trivial) (xmu rfl (xei rfl rfl (xei rfl rfl ?_))))))))
  refine xai rfl (xai rfl (dA (xf 0 fc_f45_0_0 rfl (xL6 1 fc_a43_6 rfl rfl (xmi rfl (TL.callD [0] [0] (splitT_ok hM hl h5) ⟨rfl, rfl, rfl, trivial⟩ ⟨rfl, trivial⟩ fc_c125 rfl rfl rfl rfl rfl trivial (xmu rfl (xei rfl rfl ?_))))))))
  refine xei rfl rfl (xai rfl (dA (xf 0 fc_f45_0_0 rfl (xL6 1 fc_a43_6 rfl rfl (xmi rfl (xmi rfl (TL.callD [0] [0] (splitT_ok hM hl (by rw [if_neg q1] at h6; exact h6)) ⟨rfl, rfl, rfl, trivial⟩ ⟨rfl, trivial⟩ fc_c125 rfl rfl rfl rfl rfl trivial (xmu rfl ?_))))))))
  refine xei rfl rfl (xei rfl rfl (xai rfl (xai rfl (dA (xf 0 fc_f45_0_0 rfl (xL6 1 fc_a43_6 rfl rfl (xmi rfl (TL.callD [0] [0] (splitT_ok hM hl h7) ⟨rfl, rfl, rfl, trivial⟩ ⟨rfl, trivial⟩ fc_c125 rfl rfl rfl rfl rfl trivial ?_))))))))
  refine xmu rfl (xei rfl rfl (xei rfl rfl (xai rfl (dA (xf 0 fc_f45_0_0 rfl (xL6 1 fc_a43_6 rfl rfl (xmi rfl (TL.callD [0] [0] (alone_ok hM hl) ⟨rfl, rfl, trivial⟩ ⟨rfl, trivial⟩ fc_c56 rfl rfl rfl rfl rfl trivial ?_))))))))
  refine dA (xf 0 fc_f45_0_0 rfl (xL6 1 fc_a43_6 rfl rfl (xmi rfl (TL.callD [0] [0] (alone_ok hM hl) ⟨rfl, rfl, trivial⟩ ⟨rfl, trivial⟩ fc_c56 rfl rfl rfl rfl rfl trivial (dA (xmi rfl (xf 0 fc_f45_0_0 rfl (xL6 1 fc_a43_6 rfl rfl ?_))))))))
  refine xmi rfl (xmi rfl (TL.callD [0] [0] (mergeT_ok hM hl h8) ⟨rfl, rfl, rfl, trivial⟩ ⟨rfl, trivial⟩ fc_c122 rfl rfl rfl rfl rfl trivial (xai rfl (xai rfl (dR ?_)))))
  refine FQ.ret2 (v := (.int _ _)) (x := (.int _ _)) (Bs := [A _]) [0] rfl rfl rfl rfl ⟨rfl, trivial⟩ ?_
  exact ⟨rfl, rfl⟩

theorem bit_ok {b : Bool} : FnD Tryz.prog 128 [.bool b] [] (.int .u64 (bit b)) [] := by
  refine Fn.enter (Tryz.func128) rfl rfl (fun w0 R => ?_)
  refine sA (xai rfl (dB (xmb rfl (TL.cases rfl (fun q1 => ?_) (fun q1 => ?_)))))
  refine dT rfl (xai rfl (dRR ?_))
  refine FQ.ret1 (v := (.int _ _)) (Bs := []) [] rfl rfl rfl trivial ?_
  cases b <;> first | exact ⟨rfl, rfl⟩ | (exfalso; simp at q1)
  refine dF rfl (xai rfl (dR ?_))
  refine FQ.ret1 (v := (.int _ _)) (Bs := []) [] rfl rfl rfl trivial ?_
  cases b <;> first | exact ⟨rfl, rfl⟩ | (exfalso; simp at q1)

theorem find_ok {S : Type} [MemLike S] {mt : TypeId} {mv : Value} {A : S → Assn} (hM : MemI Tryz.prog mt mv A) {l : Lay} (hl : l.Ok) {σ : S} {u v : Int} : FnD Tryz.prog 91 [edgesV l mt mv, .int .i64 u, .int .i64 v] [A σ] (.tuple #[.int .i64 (find l σ u v).slot, .bool (find l σ u v).tree, .bool (find l σ u v).ok]) [A (findS l σ u v)] := by
  refine Fn.enter (Tryz.func91) rfl rfl (fun w0 R => ?_)
  refine sA (xB 1 rfl (fun bk1 => (xai rfl (xaf rfl (xaf rfl (dS (TC.draw [(0, true), (1, true), (2, true), (3, true), (4, true), (5, true), (7, true), (8, true), (6, false), (9, false), (10, true)] [1] fc_m (by kernel_rfl) (xf 3 fc_f47_1_3 rfl (xlc 1 fc_s39 rfl rfl ?_)))))))))
  refine xf 0 fc_f47_0_0 rfl (xL3 1 fc_a23_3 rfl rfl (xmi rfl (xmi rfl (TL.ncI rfl rfl rfl (xmc rfl (TL.callD [] [] (edge_ok hl) ⟨rfl, rfl, rfl, trivial⟩ trivial fc_c101 rfl rfl rfl rfl rfl (kL1 rfl trivial) (TL.mload 0 hM rfl rfl rfl rfl rfl (kL1 rfl trivial) (xai rfl ?_))))))))
  refine dB (xmi rfl (TL.eql rfl rfl rfl rfl (fun q1 => ?_) (fun q1 => ?_)))
  refine dT rfl (xai rfl (xaf rfl (xaf rfl (dRR ?_))))
  refine FQ.ret3 (v := (.int _ _)) (x := (.bool false)) (y := (.bool false)) (Bs := [A _]) [0] rfl rfl rfl rfl rfl ⟨rfl, trivial⟩ ?_
  first | exact ⟨(by unfold find; dsimp only; rw [if_pos q1]), rfl⟩ | exact ⟨(by unfold find; dsimp only; rw [if_neg q1]; rfl), rfl⟩
  refine dF rfl (xmi rfl (TL.shr _ rfl rfl (by decide) rfl rfl rfl (TL.conv _ rfl fc_u110 fc_i3_i64 (rfl) rfl rfl (TL.sub _ rfl rfl (rfl) rfl rfl (xmi rfl (TL.and _ rfl rfl rfl rfl rfl (TL.eqlV rfl rfl rfl rfl (xai rfl ?_))))))))
  refine xab rfl (xat rfl (dR ?_))
  refine FQ.ret3 (v := (.int _ _)) (x := (.bool _)) (y := (.bool true)) (Bs := [A _]) [0] rfl rfl rfl rfl rfl ⟨rfl, trivial⟩ ?_
  first | exact ⟨(by unfold find; dsimp only; rw [if_pos q1]), rfl⟩ | exact ⟨(by unfold find; dsimp only; rw [if_neg q1]; rfl), rfl⟩

theorem eput_ok {S : Type} [MemLike S] {mt : TypeId} {mv : Value} {A : S → Assn} (hM : MemI Tryz.prog mt mv A) {l : Lay} (hl : l.Ok) {σ : S} {s u v i : Int} {t : Bool} : FnD Tryz.prog 87 [edgesV l mt mv, .int .i64 s, .int .i64 u, .int .i64 v, .int .i64 i, .bool t] [A σ] (.tuple #[]) [A (eput l σ s u v i t)] := by
  refine Fn.enter (Tryz.func87) rfl rfl (fun w0 R => ?_)
  refine sA (xB 1 rfl (fun bk1 => (dS (TC.draw [(0, true), (1, true), (2, true), (3, true), (4, true), (6, true), (7, true), (8, true), (9, true), (10, true), (11, true), (12, true), (13, true), (14, true), (15, true), (16, true), (5, false), (17, false)] [1] fc_m (by kernel_rfl) (xf 3 fc_f47_1_3 rfl (xlc 1 fc_s39 rfl rfl (xf 0 fc_f47_0_0 rfl (xL3 1 fc_a23_3 rfl rfl (xmi rfl ?_)))))))))
  refine xmi rfl (xmi rfl (TL.min2 rfl rfl rfl rfl (TL.shl _ rfl rfl (by decide) rfl rfl rfl (xmi rfl (xmi rfl (TL.max2 rfl rfl rfl rfl (TL.or _ rfl rfl rfl rfl rfl (TL.conv _ rfl fc_u3 fc_i110_u64 (rfl) rfl rfl ?_))))))))
  refine TL.ncI rfl rfl rfl (xmc rfl (TL.callD [] [] (ends_ok hl) ⟨rfl, rfl, trivial⟩ trivial fc_c129 rfl rfl rfl rfl rfl (kL1 rfl trivial) (TL.mstore 0 hM rfl rfl rfl (by first | exact wu_rng _ | exact orU_rng _ _ | exact MemLike.rng _ _ | decide | assumption) rfl rfl rfl (kL1 rfl trivial) (dS (TC.draw [(0, true), (1, true), (2, true), (3, true), (4, true), (6, true), (7, true), (8, true), (9, true), (5, false), (10, false)] [1] fc_m (by kernel_rfl) (xf 3 fc_f47_1_3 rfl (xlc 1 fc_s39 rfl rfl (xf 0 fc_f47_0_0 rfl ?_))))))))
  refine xL3 1 fc_a23_3 rfl rfl (xmi rfl (xmi rfl (TL.conv _ rfl fc_u3 fc_i110_u64 (rfl) rfl rfl (TL.ncI rfl rfl rfl (xmc rfl (TL.callD [] [] (level_ok hl) ⟨rfl, rfl, trivial⟩ trivial fc_c83 rfl rfl rfl rfl rfl (kL1 rfl trivial) (TL.mstore 0 hM rfl rfl rfl (by first | exact wu_rng _ | exact orU_rng _ _ | exact MemLike.rng _ _ | decide | assumption) rfl rfl rfl (kL1 rfl trivial) (TL.done ?_))))))))
  refine TQ.then (TC.draw [(0, true), (1, true), (2, true), (3, true), (4, true), (5, true), (7, true), (8, true), (9, true), (10, true), (11, true), (14, true), (15, true), (6, false), (12, false), (13, true), (16, false)] [1] fc_m (by kernel_rfl) (xf 3 fc_f47_1_3 rfl (xlc 1 fc_s39 rfl rfl (xf 0 fc_f47_0_0 rfl (xL3 1 fc_a23_3 rfl rfl (xmi rfl (xmi rfl (xmi rfl ?_))))))))
  refine TL.add _ rfl rfl (rfl) rfl rfl (TL.conv _ rfl fc_u3 fc_i110_u64 (rfl) rfl rfl (TL.shl _ rfl rfl (by decide) rfl rfl rfl (xmb rfl (TL.ncI rfl rfl rfl (xmc rfl (TL.callD [] [] (edge_ok hl) ⟨rfl, rfl, rfl, trivial⟩ trivial fc_c101 rfl rfl rfl rfl rfl (kL1 rfl trivial) (TL.callD [] [] bit_ok ⟨rfl, trivial⟩ trivial fc_c128 rfl rfl rfl rfl rfl (kL1 rfl trivial) (TL.or _ rfl rfl rfl rfl rfl ?_))))))))
  refine TL.mstore 0 hM rfl rfl rfl (by first | exact wu_rng _ | exact orU_rng _ _ | exact MemLike.rng _ _ | decide | assumption) rfl rfl rfl (kL1 rfl trivial) (TL.done ?_)
  refine FQ.end0 (Bs := [A _]) [0] rfl rfl ⟨rfl, trivial⟩ ?_
  exact ⟨rfl, rfl⟩

theorem eremove_ok {S : Type} [MemLike S] {mt : TypeId} {mv : Value} {A : S → Assn} (hM : MemI Tryz.prog mt mv A) {l : Lay} (hl : l.Ok) {σ : S} {u v : Int} : FnD Tryz.prog 59 [edgesV l mt mv, .int .i64 u, .int .i64 v] [A σ] (.tuple #[]) [A (eremove l σ u v)] := by
  refine Fn.enter (Tryz.func59) rfl rfl (fun w0 R => ?_)
  refine sA (xB 1 rfl (fun bk1 => (TL.done (TQ.then (TC.draw [(0, true), (1, true), (2, true), (3, true), (4, true), (5, true), (7, true), (8, true), (6, false), (9, false)] [1] fc_m (by kernel_rfl) (xf 3 fc_f47_1_3 rfl (xlc 1 fc_s39 rfl rfl (xf 0 fc_f47_0_0 rfl (xL3 1 fc_a23_3 rfl rfl ?_)))))))))
  refine xmi rfl (xmi rfl (TL.ncI rfl rfl rfl (xmc rfl (TL.callD [] [] (edge_ok hl) ⟨rfl, rfl, rfl, trivial⟩ trivial fc_c101 rfl rfl rfl rfl rfl (kL1 rfl trivial) (TL.mstore 0 hM rfl rfl rfl (by first | exact wu_rng _ | exact orU_rng _ _ | exact MemLike.rng _ _ | decide | assumption) rfl rfl rfl (kL1 rfl trivial) (TL.done ?_))))))
  refine FQ.end0 (Bs := [A _]) [0] rfl rfl ⟨rfl, trivial⟩ ?_
  exact ⟨rfl, rfl⟩

theorem ends2_ok {S : Type} [MemLike S] {mt : TypeId} {mv : Value} {A : S → Assn} (hM : MemI Tryz.prog mt mv A) {l : Lay} (hl : l.Ok) {σ : S} {s : Int} : FnD Tryz.prog 90 [edgesV l mt mv, .int .i64 s] [A σ] (.tuple #[.int .i64 (endsU l σ s), .int .i64 (endsV l σ s)]) [A (endsS l σ s)] := by
  refine Fn.enter (Tryz.func90) rfl rfl (fun w0 R => ?_)
  refine sA (xB 1 rfl (fun bk1 => (xai rfl (xai rfl (dS (TC.draw [(0, true), (1, true), (2, true), (3, true), (4, true), (6, true), (7, true), (5, false), (8, false), (9, true), (10, true)] [1] fc_m (by kernel_rfl) (xf 3 fc_f47_1_3 rfl (xlc 1 fc_s39 rfl rfl (xf 0 fc_f47_0_0 rfl ?_)))))))))
  refine xL3 1 fc_a23_3 rfl rfl (xmi rfl (TL.ncI rfl rfl rfl (xmc rfl (TL.callD [] [] (ends_ok hl) ⟨rfl, rfl, trivial⟩ trivial fc_c129 rfl rfl rfl rfl rfl (kL1 rfl trivial) (TL.mload 0 hM rfl rfl rfl rfl rfl (kL1 rfl trivial) (TL.conv _ rfl fc_u110 fc_i3_i64 (rfl) rfl rfl (xai rfl (dA ?_))))))))
  refine xmi rfl (TL.shr _ rfl rfl (by decide) rfl rfl rfl (xmi rfl (TL.and _ rfl rfl rfl rfl rfl (xai rfl (xai rfl (dR ?_))))))
  refine FQ.ret2 (v := (.int _ _)) (x := (.int _ _)) (Bs := [A _]) [0] rfl rfl rfl rfl ⟨rfl, trivial⟩ ?_
  exact ⟨rfl, rfl⟩

theorem eget_ok {S : Type} [MemLike S] {mt : TypeId} {mv : Value} {A : S → Assn} (hM : MemI Tryz.prog mt mv A) {l : Lay} (hl : l.Ok) {σ : S} {s : Int} : FnD Tryz.prog 47 [edgesV l mt mv, .int .i64 s] [A σ] (edgV (eget l σ s)) [A (egetS l σ s)] := by
  refine Fn.enter (Tryz.func47) rfl rfl (fun w0 R => ?_)
  refine sA (xB 1 rfl (fun bk1 => (TL.alloc 2 (cs := #[.int .i64 0, .int .i64 0, .int .i64 0, .bool false]) fc_z98 rfl rfl rfl (fun _ => trivial) (fun bk2 => (dA (xL4 1 fc_a47_4 rfl rfl (xmi rfl (TL.callD [0] [0] (ends2_ok hM hl) ⟨rfl, rfl, trivial⟩ ⟨rfl, trivial⟩ fc_c90 rfl rfl rfl rfl rfl trivial (xmu rfl (xei rfl rfl ?_))))))))))
  refine xei rfl rfl (xai rfl (xai rfl (dA (xL4 1 fc_a47_4 rfl rfl (xmi rfl (xmi rfl (TL.callD [0] [0] (find_ok hM hl) ⟨rfl, rfl, rfl, trivial⟩ ⟨rfl, trivial⟩ fc_c91 rfl rfl rfl rfl rfl trivial (xmu rfl ?_))))))))
  refine xei rfl rfl (TL.ext (.bool _) rfl rfl rfl rfl (TL.ext (.bool _) rfl rfl rfl rfl (xai rfl (xab rfl (xab rfl (dS (TC.draw [(0, true), (1, true), (2, true), (3, true), (4, true), (5, true), (6, true), (8, true), (9, true), (12, true), (7, false), (10, false), (11, true), (13, true), (14, false)] [1] fc_m (by kernel_rfl) (xmi rfl ?_))))))))
  refine xmi rfl (xf 3 fc_f47_1_3 rfl (xlc 1 fc_s39 rfl rfl (xf 0 fc_f47_0_0 rfl (xL3 1 fc_a23_3 rfl rfl (xmi rfl (TL.ncI rfl rfl rfl (xmc rfl (xmb rfl ?_))))))))
  refine TL.callD [] [] (level_ok hl) ⟨rfl, rfl, trivial⟩ trivial fc_c83 rfl rfl rfl rfl rfl (kL1 rfl trivial) (TL.mload 0 hM rfl rfl rfl rfl rfl (kL1 rfl trivial) (TL.conv _ rfl fc_u110 fc_i3_i64 (rfl) rfl rfl (TL.bld [.int .i64 0, .int .i64 0, .int .i64 0, .bool false] [(.int _ _), (.int _ _), (.int _ _), (.bool _)] [_, _, _, _] fc_z98 fc_q98 ⟨rfl, rfl, rfl, rfl, trivial⟩ ⟨rfl, rfl⟩ rfl rfl (TL.stW 2 4 [_, _, _, _] rfl rfl rfl rfl rfl rfl fc_a98_4 rfl rfl (kL1 rfl trivial) (dR ?_)))))
  refine FQ.retG (rs := [.cell 4 98]) [(.agg _)] (Bs := [A _]) [0] rfl ⟨⟨_, _, _, _, _, 2, rfl, rfl, .inr ⟨4, [_, _, _, _], fc_a98_4, rfl, rfl⟩⟩, trivial⟩ rfl rfl ⟨rfl, trivial⟩ ?_
  exact ⟨rfl, rfl⟩

theorem eturn_ok {S : Type} [MemLike S] {mt : TypeId} {mv : Value} {A : S → Assn} (hM : MemI Tryz.prog mt mv A) {l : Lay} (hl : l.Ok) {σ : S} {s : Int} {t : Bool} : FnD Tryz.prog 84 [edgesV l mt mv, .int .i64 s, .bool t] [A σ] (.tuple #[]) [A (eturn l σ s t)] := by
  refine Fn.enter (Tryz.func84) rfl rfl (fun w0 R => ?_)
  refine sA (xB 1 rfl (fun bk1 => (dA (xL4 1 fc_a47_4 rfl rfl (xmi rfl (TL.callD [0] [0] (ends2_ok hM hl) ⟨rfl, rfl, trivial⟩ ⟨rfl, trivial⟩ fc_c90 rfl rfl rfl rfl rfl trivial (xmu rfl (xei rfl rfl (xei rfl rfl ?_)))))))))
  refine xai rfl (xai rfl (TL.done (TQ.then (TC.draw [(0, true), (1, true), (2, true), (3, true), (4, true), (5, true), (7, true), (8, true), (9, true), (10, true), (11, true), (14, true), (15, true), (6, false), (12, false), (13, true), (16, false)] [1] fc_m (by kernel_rfl) (xf 3 fc_f47_1_3 rfl (xlc 1 fc_s39 rfl rfl (xf 0 fc_f47_0_0 rfl (xL3 1 fc_a23_3 rfl rfl ?_))))))))
  refine xmi rfl (xmi rfl (xmi rfl (TL.add _ rfl rfl (rfl) rfl rfl (TL.conv _ rfl fc_u3 fc_i110_u64 (rfl) rfl rfl (TL.shl _ rfl rfl (by decide) rfl rfl rfl (xmb rfl (TL.ncI rfl rfl rfl (xmc rfl ?_))))))))
  refine TL.callD [] [] (edge_ok hl) ⟨rfl, rfl, rfl, trivial⟩ trivial fc_c101 rfl rfl rfl rfl rfl (kL1 rfl trivial) (TL.callD [] [] bit_ok ⟨rfl, trivial⟩ trivial fc_c128 rfl rfl rfl rfl rfl (kL1 rfl trivial) (TL.or _ rfl rfl rfl rfl rfl (TL.mstore 0 hM rfl rfl rfl (by first | exact wu_rng _ | exact orU_rng _ _ | exact MemLike.rng _ _ | decide | assumption) rfl rfl rfl (kL1 rfl trivial) (TL.done ?_))))
  refine FQ.end0 (Bs := [A _]) [0] rfl rfl ⟨rfl, trivial⟩ ?_
  exact ⟨rfl, rfl⟩

theorem elift_ok {S : Type} [MemLike S] {mt : TypeId} {mv : Value} {A : S → Assn} (hM : MemI Tryz.prog mt mv A) {l : Lay} (hl : l.Ok) {σ : S} {s i : Int} : FnD Tryz.prog 31 [edgesV l mt mv, .int .i64 s, .int .i64 i] [A σ] (.tuple #[]) [A (elift l σ s i)] := by
  refine Fn.enter (Tryz.func31) rfl rfl (fun w0 R => ?_)
  refine sA (xB 1 rfl (fun bk1 => (TL.done (TQ.then (TC.draw [(0, true), (1, true), (2, true), (3, true), (4, true), (6, true), (7, true), (8, true), (9, true), (5, false), (10, false)] [1] fc_m (by kernel_rfl) (xf 3 fc_f47_1_3 rfl (xlc 1 fc_s39 rfl rfl (xf 0 fc_f47_0_0 rfl (xL3 1 fc_a23_3 rfl rfl ?_)))))))))
  refine xmi rfl (xmi rfl (TL.conv _ rfl fc_u3 fc_i110_u64 (rfl) rfl rfl (TL.ncI rfl rfl rfl (xmc rfl (TL.callD [] [] (level_ok hl) ⟨rfl, rfl, trivial⟩ trivial fc_c83 rfl rfl rfl rfl rfl (kL1 rfl trivial) (TL.mstore 0 hM rfl rfl rfl (by first | exact wu_rng _ | exact orU_rng _ _ | exact MemLike.rng _ _ | decide | assumption) rfl rfl rfl (kL1 rfl trivial) (TL.done ?_)))))))
  refine FQ.end0 (Bs := [A _]) [0] rfl rfl ⟨rfl, trivial⟩ ?_
  exact ⟨rfl, rfl⟩

theorem aget_ok {S : Type} [MemLike S] {mt : TypeId} {mv : Value} {A : S → Assn} (hM : MemI Tryz.prog mt mv A) {l : Lay} (hl : l.Ok) {p : Pen} {σ : S} {c : Int} : FnD Tryz.prog 105 [adjV l mt mv p, .int .i64 c] [A σ] (.int .i64 (aget σ c)) [A (MemLike.ld σ c)] := by
  refine Fn.enter (Tryz.func105) rfl rfl (fun w0 R => ?_)
  refine sA (xB 1 rfl (fun bk1 => (xai rfl (dA (xf 6 fc_f49_1_6 rfl (xf 3 fc_f47_1_3 rfl (xlc 1 fc_s39 rfl rfl (xmi rfl (TL.mload 0 hM rfl rfl rfl rfl rfl trivial ?_)))))))))
  refine TL.conv _ rfl fc_u110 fc_i3_i64 (rfl) rfl rfl (xai rfl (dR ?_))
  refine FQ.ret1 (v := (.int _ _)) (Bs := [A _]) [0] rfl rfl rfl ⟨rfl, trivial⟩ ?_
  exact ⟨rfl, rfl⟩

theorem aput_ok {S : Type} [MemLike S] {mt : TypeId} {mv : Value} {A : S → Assn} (hM : MemI Tryz.prog mt mv A) {l : Lay} (hl : l.Ok) {p : Pen} {σ : S} {c v : Int} : FnD Tryz.prog 136 [adjV l mt mv p, .int .i64 c, .int .i64 v] [A σ] (.tuple #[]) [A (MemLike.st σ c (IntKind.u64.wrap v))] := by
  refine Fn.enter (Tryz.func136) rfl rfl (fun w0 R => ?_)
  refine sA (xB 1 rfl (fun bk1 => (dG (xf 6 fc_f49_1_6 rfl (xf 3 fc_f47_1_3 rfl (xlc 1 fc_s39 rfl rfl (xmi rfl (xmi rfl (TL.conv _ rfl fc_u3 fc_i110_u64 (rfl) rfl rfl ?_)))))))))
  refine TL.mstore 0 hM rfl rfl rfl (by first | exact wu_rng _ | exact orU_rng _ _ | exact MemLike.rng _ _ | decide | assumption) rfl rfl rfl trivial (TL.done ?_)
  refine FQ.end0 (Bs := [A _]) [0] rfl rfl ⟨rfl, trivial⟩ ?_
  exact ⟨rfl, rfl⟩

theorem side_ok {s d : Int} : FnD Tryz.prog 100 [.int .i64 s, .int .i64 d] [] (.int .i64 (side s d)) [] := by
  refine Fn.enter (Tryz.func100) rfl rfl (fun w0 R => ?_)
  refine sA (xai rfl (dA (xmi rfl (TL.mul _ rfl rfl (rfl) rfl rfl (xmi rfl (TL.add _ rfl rfl (rfl) rfl rfl (TL.add _ rfl rfl (rfl) rfl rfl (xai rfl ?_))))))))
  refine dR ?_
  refine FQ.ret1 (v := (.int _ _)) (Bs := []) [] rfl rfl rfl trivial ?_
  exact ⟨rfl, rfl⟩

theorem anext_ok {mt : TypeId} {mv : Value} {l : Lay} (hl : l.Ok) {p : Pen} {x : Int} : FnD Tryz.prog 135 [adjV l mt mv p, .int .i64 x] [] (.int .i64 (anext l x)) [] := by
  refine Fn.enter (Tryz.func135) rfl rfl (fun w0 R => ?_)
  refine sA (xB 0 rfl (fun bk0 => (xai rfl (dA (xf 6 fc_f49_1_6 rfl (xf 0 fc_f47_0_0 rfl (xL3 0 fc_a23_3 rfl rfl (xmi rfl (TL.sub _ rfl rfl (rfl) rfl rfl ?_)))))))))
  refine TL.quo _ rfl rfl (by omega) (quo2 _) rfl rfl (xmi rfl (TL.sub _ rfl rfl (rfl) rfl rfl (TL.rem _ rfl rfl (by omega) (rfl) rfl rfl (TL.callD [] [] (next_ok hl) ⟨rfl, rfl, rfl, trivial⟩ trivial fc_c157 rfl rfl rfl rfl rfl trivial (xai rfl (dR ?_))))))
  refine FQ.ret1 (v := (.int _ _)) (Bs := []) [] rfl rfl rfl trivial ?_
  exact ⟨rfl, rfl⟩

theorem aprev_ok {mt : TypeId} {mv : Value} {l : Lay} (hl : l.Ok) {p : Pen} {x : Int} : FnD Tryz.prog 134 [adjV l mt mv p, .int .i64 x] [] (.int .i64 (aprev l x)) [] := by
  refine Fn.enter (Tryz.func134) rfl rfl (fun w0 R => ?_)
  refine sA (xB 0 rfl (fun bk0 => (xai rfl (dA (xf 6 fc_f49_1_6 rfl (xf 0 fc_f47_0_0 rfl (xL3 0 fc_a23_3 rfl rfl (xmi rfl (TL.sub _ rfl rfl (rfl) rfl rfl ?_)))))))))
  refine TL.quo _ rfl rfl (by omega) (quo2 _) rfl rfl (xmi rfl (TL.sub _ rfl rfl (rfl) rfl rfl (TL.rem _ rfl rfl (by omega) (rfl) rfl rfl (TL.callD [] [] (prev_ok hl) ⟨rfl, rfl, rfl, trivial⟩ trivial fc_c156 rfl rfl rfl rfl rfl trivial (xai rfl (dR ?_))))))
  refine FQ.ret1 (v := (.int _ _)) (Bs := []) [] rfl rfl rfl trivial ?_
  exact ⟨rfl, rfl⟩

theorem amark_ok {S : Type} [MemLike S] {mt : TypeId} {mv : Value} {A : S → Assn} (hM : MemI Tryz.prog mt mv A) {l : Lay} (hl : l.Ok) {p : Pen} {σ : S} {v i : Int} {k : Nat} {σ2 : S} (h : amark l k σ v i = some σ2) : FnD Tryz.prog 137 [adjV l mt mv p, .int .i64 v, .int .i64 i] [A σ] (.tuple #[]) [A σ2] := by
  unfold amark at h
  dsimp only at h
  refine Fn.enter (Tryz.func137) rfl rfl (fun w0 R => ?_)
  refine sA (xB 1 rfl (fun bk1 => (dA (xf 6 fc_f49_1_6 rfl (xf 0 fc_f47_0_0 rfl (xL3 1 fc_a23_3 rfl rfl (xmi rfl (xmi rfl (TL.callD [] [] (vertex_ok hl) ⟨rfl, rfl, rfl, trivial⟩ trivial fc_c82 rfl rfl rfl rfl rfl trivial ?_)))))))))
  refine xai rfl (dS (TC.draw [(0, true), (1, true), (2, true), (3, true), (4, true), (5, true), (6, false), (7, false), (8, true), (9, true)] [1] fc_m (by kernel_rfl) (xL10 1 fc_a49_10 rfl rfl (xf 6 fc_f49_1_6 rfl (xf 0 fc_f47_0_0 rfl (xL3 1 fc_a23_3 rfl rfl (xmi rfl (xmi rfl ?_))))))))
  refine TL.callD [] [] (head_ok hl) ⟨rfl, rfl, rfl, trivial⟩ trivial fc_c106 rfl rfl rfl rfl rfl (kL1 rfl trivial) (TL.callD [0] [0] (aget_ok hM hl) ⟨rfl, rfl, trivial⟩ ⟨rfl, trivial⟩ fc_c105 rfl rfl rfl rfl rfl (kL1 rfl trivial) (TL.neqV rfl rfl rfl rfl (xab rfl (dA (xmb rfl (xf 0 fc_f49_0_0 rfl (xf 0 fc_f45_0_0 rfl (xL6 1 fc_a43_6 rfl rfl ?_))))))))
  refine xmi rfl (TL.callD [0] [0] (marked_ok hM hl (by decide)) ⟨rfl, rfl, rfl, trivial⟩ ⟨rfl, trivial⟩ fc_c140 rfl rfl rfl rfl rfl trivial (TL.neqB rfl rfl fc_b4 rfl rfl (TL.cases rfl (fun q1 => ?_) (fun q1 => ?_))))
  refine TL.done (TQ.then (TC.condT rfl (TC.region (xf 0 fc_f49_0_0 rfl (xf 0 fc_f45_0_0 rfl (xL6 1 fc_a43_6 rfl rfl (xmi rfl (xmb rfl ?_))))))))
  refine TL.callD [0] [0] (mark_ok hM hl (by decide) (by rw [if_pos (by simpa using q1)] at h; exact h)) ⟨rfl, rfl, rfl, rfl, trivial⟩ ⟨rfl, trivial⟩ fc_c120 rfl rfl rfl rfl rfl trivial (TL.done ?_)
  refine FQ.end0 (Bs := [A _]) [0] rfl rfl ⟨rfl, trivial⟩ ?_
  exact ⟨rfl, rfl⟩
  refine TL.done (TQ.then (TC.condF rfl (TC.skip ?_)))
  refine FQ.end0 (Bs := [A _]) [0] rfl rfl ⟨rfl, trivial⟩ ?_
  rw [if_neg (fun hc => by revert q1 hc; cases marked l (MemLike.ld σ (l.head v i)) (l.vertex i v) 0 <;> simp <;> omega)] at h; cases h; exact ⟨rfl, rfl⟩

theorem push_ok {S : Type} [MemLike S] {mt : TypeId} {mv : Value} {A : S → Assn} (hM : MemI Tryz.prog mt mv A) {l : Lay} (hl : l.Ok) {p : Pen} {σ : S} {x v i : Int} {k : Nat} {σ2 : S} (h : push l k σ x v i = some σ2) : FnD Tryz.prog 130 [adjV l mt mv p, .int .i64 x, .int .i64 v, .int .i64 i] [A σ] (.tuple #[]) [A σ2] := by
  unfold push at h
  dsimp only at h
  refine Fn.enter (Tryz.func130) rfl rfl (fun w0 R => ?_)
  refine sA (xB 1 rfl (fun bk1 => (dA (xf 6 fc_f49_1_6 rfl (xf 0 fc_f47_0_0 rfl (xL3 1 fc_a23_3 rfl rfl (xmi rfl (xmi rfl (TL.callD [] [] (head_ok hl) ⟨rfl, rfl, rfl, trivial⟩ trivial fc_c106 rfl rfl rfl rfl rfl trivial ?_)))))))))
  refine xai rfl (dA (xL10 1 fc_a49_10 rfl rfl (xmi rfl (TL.callD [0] [0] (aget_ok hM hl) ⟨rfl, rfl, trivial⟩ ⟨rfl, trivial⟩ fc_c105 rfl rfl rfl rfl rfl trivial (xai rfl (dS (TC.draw [(0, true), (1, true), (2, true), (4, true), (3, false), (5, false)] [1] fc_m (by kernel_rfl) (xL10 1 fc_a49_10 rfl rfl ?_))))))))
  refine xL10 1 fc_a49_10 rfl rfl (xmi rfl (xmi rfl (TL.callD [] [] (anext_ok hl) ⟨rfl, rfl, trivial⟩ trivial fc_c135 rfl rfl rfl rfl rfl (kL1 rfl trivial) (TL.callD [0] [0] (aput_ok hM hl) ⟨rfl, rfl, rfl, trivial⟩ ⟨rfl, trivial⟩ fc_c136 rfl rfl rfl rfl rfl (kL1 rfl trivial) (dS (TC.draw [(0, true), (1, true), (2, true), (3, false), (4, false)] [1] fc_m (by kernel_rfl) (xL10 1 fc_a49_10 rfl rfl (xL10 1 fc_a49_10 rfl rfl ?_))))))))
  refine xmi rfl (TL.callD [] [] (aprev_ok hl) ⟨rfl, rfl, trivial⟩ trivial fc_c134 rfl rfl rfl rfl rfl (kL1 rfl trivial) (TL.callD [0] [0] (aput_ok hM hl) ⟨rfl, rfl, rfl, trivial⟩ ⟨rfl, trivial⟩ fc_c136 rfl rfl rfl rfl rfl (kL1 rfl trivial) (dB (xmi rfl (TL.neq rfl rfl rfl rfl (fun q1 => ?_) (fun q1 => ?_))))))
  refine TL.done (TQ.then (TC.condT rfl (TC.draw [(0, true), (1, true), (2, true), (4, true), (3, false), (5, false)] [1] fc_m (by kernel_rfl) (xL10 1 fc_a49_10 rfl rfl (xL10 1 fc_a49_10 rfl rfl (xmi rfl (xmi rfl (TL.callD [] [] (aprev_ok hl) ⟨rfl, rfl, trivial⟩ trivial fc_c134 rfl rfl rfl rfl rfl (kL1 rfl trivial) ?_))))))))
  refine TL.callD [0] [0] (aput_ok hM hl) ⟨rfl, rfl, rfl, trivial⟩ ⟨rfl, trivial⟩ fc_c136 rfl rfl rfl rfl rfl (kL1 rfl trivial) (dA (xL10 1 fc_a49_10 rfl rfl (xmi rfl (xmi rfl (TL.callD [0] [0] (aput_ok hM hl) ⟨rfl, rfl, rfl, trivial⟩ ⟨rfl, trivial⟩ fc_c136 rfl rfl rfl rfl rfl trivial (dG (xL10 1 fc_a49_10 rfl rfl (xmi rfl ?_))))))))
  refine xmi rfl (TL.callD [0] [0] (amark_ok hM hl (by rw [if_pos q1] at h; exact h)) ⟨rfl, rfl, rfl, trivial⟩ ⟨rfl, trivial⟩ fc_c137 rfl rfl rfl rfl rfl trivial (TL.done ?_))
  refine FQ.end0 (Bs := [A _]) [0] rfl rfl ⟨rfl, trivial⟩ ?_
  exact ⟨rfl, rfl⟩
  refine dF rfl (xL10 1 fc_a49_10 rfl rfl (xmi rfl (xmi rfl (TL.callD [0] [0] (aput_ok hM hl) ⟨rfl, rfl, rfl, trivial⟩ ⟨rfl, trivial⟩ fc_c136 rfl rfl rfl rfl rfl trivial (dG (xL10 1 fc_a49_10 rfl rfl (xmi rfl (xmi rfl ?_))))))))
  refine TL.callD [0] [0] (amark_ok hM hl (by rw [if_neg q1] at h; exact h)) ⟨rfl, rfl, rfl, trivial⟩ ⟨rfl, trivial⟩ fc_c137 rfl rfl rfl rfl rfl trivial (TL.done ?_)
  refine FQ.end0 (Bs := [A _]) [0] rfl rfl ⟨rfl, trivial⟩ ?_
  exact ⟨rfl, rfl⟩

theorem pull_ok {S : Type} [MemLike S] {mt : TypeId} {mv : Value} {A : S → Assn} (hM : MemI Tryz.prog mt mv A) {l : Lay} (hl : l.Ok) {p : Pen} {σ : S} {x v i : Int} {k : Nat} {σ2 : S} (h : pull l k σ x v i = some σ2) : FnD Tryz.prog 99 [adjV l mt mv p, .int .i64 x, .int .i64 v, .int .i64 i] [A σ] (.tuple #[]) [A σ2] := by
  unfold pull at h
  dsimp only at h
  refine Fn.enter (Tryz.func99) rfl rfl (fun w0 R => ?_)
  refine sA (xB 1 rfl (fun bk1 => (dS (TC.draw [(0, true), (1, true), (2, true), (5, true), (6, true), (7, true), (3, false), (4, false), (8, false), (9, false), (10, true), (11, true)] [1] fc_m (by kernel_rfl) (xL10 1 fc_a49_10 rfl rfl (xL10 1 fc_a49_10 rfl rfl (xmi rfl (xL10 1 fc_a49_10 rfl rfl (xL10 1 fc_a49_10 rfl rfl ?_)))))))))
  refine xmi rfl (TL.callD [] [] (aprev_ok hl) ⟨rfl, rfl, trivial⟩ trivial fc_c134 rfl rfl rfl rfl rfl (kL1 rfl trivial) (TL.callD [0] [0] (aget_ok hM hl) ⟨rfl, rfl, trivial⟩ ⟨rfl, trivial⟩ fc_c105 rfl rfl rfl rfl rfl (kL1 rfl trivial) (TL.callD [] [] (anext_ok hl) ⟨rfl, rfl, trivial⟩ trivial fc_c135 rfl rfl rfl rfl rfl (kL1 rfl trivial) (TL.callD [0] [0] (aget_ok hM hl) ⟨rfl, rfl, trivial⟩ ⟨rfl, trivial⟩ fc_c105 rfl rfl rfl rfl rfl (kL1 rfl trivial) (xai rfl (xai rfl (dB (xmi rfl ?_))))))))
  refine TL.eql rfl rfl rfl rfl (fun q1 => ?_) (fun q1 => ?_)
  refine TL.done (TQ.then (TC.condT rfl (TC.draw [(0, true), (1, true), (2, true), (3, true), (4, true), (5, true), (7, true), (6, false), (8, false)] [1] fc_m (by kernel_rfl) (xL10 1 fc_a49_10 rfl rfl (xf 6 fc_f49_1_6 rfl (xf 0 fc_f47_0_0 rfl (xL3 1 fc_a23_3 rfl rfl (xmi rfl ?_))))))))
  refine xmi rfl (xmi rfl (TL.callD [] [] (head_ok hl) ⟨rfl, rfl, rfl, trivial⟩ trivial fc_c106 rfl rfl rfl rfl rfl (kL1 rfl trivial) (TL.callD [0] [0] (aput_ok hM hl) ⟨rfl, rfl, rfl, trivial⟩ ⟨rfl, trivial⟩ fc_c136 rfl rfl rfl rfl rfl (kL1 rfl trivial) (dB (xmi rfl (TL.neq rfl rfl rfl rfl (fun q2 => ?_) (fun q2 => ?_)))))))
  refine TL.done (TQ.then (TC.condT rfl (TC.draw [(0, true), (1, true), (2, true), (4, true), (3, false), (5, false)] [1] fc_m (by kernel_rfl) (xL10 1 fc_a49_10 rfl rfl (xL10 1 fc_a49_10 rfl rfl (xmi rfl (xmi rfl (TL.callD [] [] (aprev_ok hl) ⟨rfl, rfl, trivial⟩ trivial fc_c134 rfl rfl rfl rfl rfl (kL1 rfl trivial) ?_))))))))
  refine TL.callD [0] [0] (aput_ok hM hl) ⟨rfl, rfl, rfl, trivial⟩ ⟨rfl, trivial⟩ fc_c136 rfl rfl rfl rfl rfl (kL1 rfl trivial) (dG (xL10 1 fc_a49_10 rfl rfl (xmi rfl (xmi rfl (TL.callD [0] [0] (amark_ok hM hl (by rw [if_pos q1, if_pos q2] at h; exact h)) ⟨rfl, rfl, rfl, trivial⟩ ⟨rfl, trivial⟩ fc_c137 rfl rfl rfl rfl rfl trivial (TL.done ?_))))))
  refine FQ.end0 (Bs := [A _]) [0] rfl rfl ⟨rfl, trivial⟩ ?_
  exact ⟨rfl, rfl⟩
  refine TL.done (TQ.then (TC.condF rfl (TC.skip (TQ.then (TC.region (xL10 1 fc_a49_10 rfl rfl (xmi rfl (xmi rfl ?_))))))))
  refine TL.callD [0] [0] (amark_ok hM hl (by rw [if_pos q1, if_neg q2] at h; exact h)) ⟨rfl, rfl, rfl, trivial⟩ ⟨rfl, trivial⟩ fc_c137 rfl rfl rfl rfl rfl trivial (TL.done ?_)
  refine FQ.end0 (Bs := [A _]) [0] rfl rfl ⟨rfl, trivial⟩ ?_
  exact ⟨rfl, rfl⟩
  refine TL.done (TQ.then (TC.condF rfl (TC.draw [(0, true), (1, true), (2, true), (4, true), (3, false), (5, false)] [1] fc_m (by kernel_rfl) (xL10 1 fc_a49_10 rfl rfl (xL10 1 fc_a49_10 rfl rfl (xmi rfl (xmi rfl (TL.callD [] [] (anext_ok hl) ⟨rfl, rfl, trivial⟩ trivial fc_c135 rfl rfl rfl rfl rfl (kL1 rfl trivial) ?_))))))))
  refine TL.callD [0] [0] (aput_ok hM hl) ⟨rfl, rfl, rfl, trivial⟩ ⟨rfl, trivial⟩ fc_c136 rfl rfl rfl rfl rfl (kL1 rfl trivial) (dB (xmi rfl (TL.neq rfl rfl rfl rfl (fun q2 => ?_) (fun q2 => ?_))))
  refine TL.done (TQ.then (TC.condT rfl (TC.draw [(0, true), (1, true), (2, true), (4, true), (3, false), (5, false)] [1] fc_m (by kernel_rfl) (xL10 1 fc_a49_10 rfl rfl (xL10 1 fc_a49_10 rfl rfl (xmi rfl (xmi rfl (TL.callD [] [] (aprev_ok hl) ⟨rfl, rfl, trivial⟩ trivial fc_c134 rfl rfl rfl rfl rfl (kL1 rfl trivial) ?_))))))))
  refine TL.callD [0] [0] (aput_ok hM hl) ⟨rfl, rfl, rfl, trivial⟩ ⟨rfl, trivial⟩ fc_c136 rfl rfl rfl rfl rfl (kL1 rfl trivial) (dG (xL10 1 fc_a49_10 rfl rfl (xmi rfl (xmi rfl (TL.callD [0] [0] (amark_ok hM hl (by rw [if_neg q1, if_pos q2] at h; exact h)) ⟨rfl, rfl, rfl, trivial⟩ ⟨rfl, trivial⟩ fc_c137 rfl rfl rfl rfl rfl trivial (TL.done ?_))))))
  refine FQ.end0 (Bs := [A _]) [0] rfl rfl ⟨rfl, trivial⟩ ?_
  exact ⟨rfl, rfl⟩
  refine TL.done (TQ.then (TC.condF rfl (TC.skip (TQ.then (TC.region (xL10 1 fc_a49_10 rfl rfl (xmi rfl (xmi rfl ?_))))))))
  refine TL.callD [0] [0] (amark_ok hM hl (by rw [if_neg q1, if_neg q2] at h; exact h)) ⟨rfl, rfl, rfl, trivial⟩ ⟨rfl, trivial⟩ fc_c137 rfl rfl rfl rfl rfl trivial (TL.done ?_)
  refine FQ.end0 (Bs := [A _]) [0] rfl rfl ⟨rfl, trivial⟩ ?_
  exact ⟨rfl, rfl⟩

theorem apush_all {S : Type} [MemLike S] {mt : TypeId} {mv : Value} {A : S → Assn} (hM : MemI Tryz.prog mt mv A) {l : Lay} (hl : l.Ok) {p : Pen} {σ : S} {s : Int} {k : Nat} {σ2 : S} (h : add l k σ s = some σ2) : FnD Tryz.prog 88 [adjV l mt mv p, .int .i64 s] [A σ] (.tuple #[]) [A σ2] := by
  unfold add at h
  dsimp only at h
  obtain ⟨σ1, h1, h2⟩ := Option.bind_eq_some_iff.1 h
  refine Fn.enter (Tryz.func88) rfl rfl (fun w0 R => ?_)
  refine sA (xB 1 rfl (fun bk1 => (dA (xf 6 fc_f49_1_6 rfl (xL4 1 fc_a47_4 rfl rfl (xmi rfl (TL.callD [0] [0] (eget_ok hM hl) ⟨rfl, rfl, trivial⟩ ⟨rfl, trivial⟩ fc_c47 rfl rfl rfl rfl rfl trivial (TL.alloc 2 (cs := #[.int .i64 0, .int .i64 0, .int .i64 0, .bool false]) fc_z98 rfl rfl rfl (fun _ => trivial) (fun bk2 => (TL.stW 2 4 [_, _, _, _] rfl rfl rfl rfl rfl rfl fc_a98_4 rfl rfl trivial ?_))))))))))
  refine dS (TC.draw [(0, true), (1, true), (3, true), (4, true), (5, true), (6, true), (2, false), (7, false)] [1, 2] fc_m (by kernel_rfl) (xL10 1 fc_a49_10 rfl rfl (xmi rfl (xf 0 fc_f98_0_0 rfl (xli 2 fc_s3 rfl rfl (xf 2 fc_f98_2_2 rfl (xli 2 fc_s3 rfl rfl (TL.callD [] [] side_ok ⟨rfl, rfl, trivial⟩ trivial fc_c100 rfl rfl rfl rfl rfl (kL2 rfl rfl trivial) ?_))))))))
  refine TL.callD [0] [0] (push_ok hM hl h1) ⟨rfl, rfl, rfl, rfl, trivial⟩ ⟨rfl, trivial⟩ fc_c130 rfl rfl rfl rfl rfl (kL2 rfl rfl trivial) (TL.done (TQ.then (TC.draw [(0, true), (1, true), (3, true), (4, true), (5, true), (6, true), (2, false), (7, false)] [1, 2] fc_m (by kernel_rfl) (xL10 1 fc_a49_10 rfl rfl (xmi rfl (xf 1 fc_f98_1_1 rfl (xli 2 fc_s3 rfl rfl (xf 2 fc_f98_2_2 rfl ?_))))))))
  refine xli 2 fc_s3 rfl rfl (TL.callD [] [] side_ok ⟨rfl, rfl, trivial⟩ trivial fc_c100 rfl rfl rfl rfl rfl (kL2 rfl rfl trivial) (TL.callD [0] [0] (push_ok hM hl h2) ⟨rfl, rfl, rfl, rfl, trivial⟩ ⟨rfl, trivial⟩ fc_c130 rfl rfl rfl rfl rfl (kL2 rfl rfl trivial) (TL.done ?_)))
  refine FQ.end0 (Bs := [A _]) [0] rfl rfl ⟨rfl, trivial⟩ ?_
  exact ⟨rfl, rfl⟩

theorem apull_all {S : Type} [MemLike S] {mt : TypeId} {mv : Value} {A : S → Assn} (hM : MemI Tryz.prog mt mv A) {l : Lay} (hl : l.Ok) {p : Pen} {σ : S} {s : Int} {k : Nat} {σ2 : S} (h : remove l k σ s = some σ2) : FnD Tryz.prog 58 [adjV l mt mv p, .int .i64 s] [A σ] (.tuple #[]) [A σ2] := by
  unfold remove at h
  dsimp only at h
  obtain ⟨σ1, h1, h2⟩ := Option.bind_eq_some_iff.1 h
  refine Fn.enter (Tryz.func58) rfl rfl (fun w0 R => ?_)
  refine sA (xB 1 rfl (fun bk1 => (dA (xf 6 fc_f49_1_6 rfl (xL4 1 fc_a47_4 rfl rfl (xmi rfl (TL.callD [0] [0] (eget_ok hM hl) ⟨rfl, rfl, trivial⟩ ⟨rfl, trivial⟩ fc_c47 rfl rfl rfl rfl rfl trivial (TL.alloc 2 (cs := #[.int .i64 0, .int .i64 0, .int .i64 0, .bool false]) fc_z98 rfl rfl rfl (fun _ => trivial) (fun bk2 => (TL.stW 2 4 [_, _, _, _] rfl rfl rfl rfl rfl rfl fc_a98_4 rfl rfl trivial ?_))))))))))
  refine dS (TC.draw [(0, true), (1, true), (3, true), (4, true), (5, true), (6, true), (2, false), (7, false)] [1, 2] fc_m (by kernel_rfl) (xL10 1 fc_a49_10 rfl rfl (xmi rfl (xf 0 fc_f98_0_0 rfl (xli 2 fc_s3 rfl rfl (xf 2 fc_f98_2_2 rfl (xli 2 fc_s3 rfl rfl (TL.callD [] [] side_ok ⟨rfl, rfl, trivial⟩ trivial fc_c100 rfl rfl rfl rfl rfl (kL2 rfl rfl trivial) ?_))))))))
  refine TL.callD [0] [0] (pull_ok hM hl h1) ⟨rfl, rfl, rfl, rfl, trivial⟩ ⟨rfl, trivial⟩ fc_c99 rfl rfl rfl rfl rfl (kL2 rfl rfl trivial) (TL.done (TQ.then (TC.draw [(0, true), (1, true), (3, true), (4, true), (5, true), (6, true), (2, false), (7, false)] [1, 2] fc_m (by kernel_rfl) (xL10 1 fc_a49_10 rfl rfl (xmi rfl (xf 1 fc_f98_1_1 rfl (xli 2 fc_s3 rfl rfl (xf 2 fc_f98_2_2 rfl ?_))))))))
  refine xli 2 fc_s3 rfl rfl (TL.callD [] [] side_ok ⟨rfl, rfl, trivial⟩ trivial fc_c100 rfl rfl rfl rfl rfl (kL2 rfl rfl trivial) (TL.callD [0] [0] (pull_ok hM hl h2) ⟨rfl, rfl, rfl, rfl, trivial⟩ ⟨rfl, trivial⟩ fc_c99 rfl rfl rfl rfl rfl (kL2 rfl rfl trivial) (TL.done ?_)))
  refine FQ.end0 (Bs := [A _]) [0] rfl rfl ⟨rfl, trivial⟩ ?_
  exact ⟨rfl, rfl⟩

theorem afirst_ok {S : Type} [MemLike S] {mt : TypeId} {mv : Value} {A : S → Assn} (hM : MemI Tryz.prog mt mv A) {l : Lay} (hl : l.Ok) {p : Pen} {σ : S} {v i : Int} : FnD Tryz.prog 64 [adjV l mt mv p, .int .i64 v, .int .i64 i] [A σ] (.tuple #[.int .i64 (afirst l σ v i).1, .bool (afirst l σ v i).2]) [A (afirstS l σ v i)] := by
  refine Fn.enter (Tryz.func64) rfl rfl (fun w0 R => ?_)
  refine sA (xB 1 rfl (fun bk1 => (xai rfl (xaf rfl (dS (TC.draw [(0, true), (1, true), (2, true), (3, true), (4, true), (5, true), (6, false), (7, false), (8, true)] [1] fc_m (by kernel_rfl) (xL10 1 fc_a49_10 rfl rfl (xf 6 fc_f49_1_6 rfl (xf 0 fc_f47_0_0 rfl ?_)))))))))
  refine xL3 1 fc_a23_3 rfl rfl (xmi rfl (xmi rfl (TL.callD [] [] (head_ok hl) ⟨rfl, rfl, rfl, trivial⟩ trivial fc_c106 rfl rfl rfl rfl rfl (kL1 rfl trivial) (TL.callD [0] [0] (aget_ok hM hl) ⟨rfl, rfl, trivial⟩ ⟨rfl, trivial⟩ fc_c105 rfl rfl rfl rfl rfl (kL1 rfl trivial) (xai rfl (dB (xmi rfl (TL.eql rfl rfl rfl rfl (fun q1 => ?_) (fun q1 => ?_)))))))))
  refine dT rfl (xai rfl (xaf rfl (dRR ?_)))
  refine FQ.ret2 (v := (.int _ _)) (x := (.bool false)) (Bs := [A _]) [0] rfl rfl rfl rfl ⟨rfl, trivial⟩ ?_
  first | exact ⟨(by unfold afirst; dsimp only; rw [if_pos q1]), rfl⟩ | exact ⟨(by unfold afirst; dsimp only; rw [if_neg q1]), rfl⟩
  refine dF rfl (xmi rfl (TL.sub _ rfl rfl (rfl) rfl rfl (TL.quo _ rfl rfl (by omega) (quo2 _) rfl rfl (xai rfl (xat rfl (dR ?_))))))
  refine FQ.ret2 (v := (.int _ _)) (x := (.bool true)) (Bs := [A _]) [0] rfl rfl rfl rfl ⟨rfl, trivial⟩ ?_
  first | exact ⟨(by unfold afirst; dsimp only; rw [if_pos q1]), rfl⟩ | exact ⟨(by unfold afirst; dsimp only; rw [if_neg q1]), rfl⟩

theorem lmark_ok {S : Type} [MemLike S] {mt : TypeId} {mv : Value} {A : S → Assn} (hM : MemI Tryz.prog mt mv A) {l : Lay} (hl : l.Ok) {p : Pen} {σ : S} {s i : Int} {on : Bool} {k : Nat} {σ2 : S} (h : lmark l k σ s i on = some σ2) : FnD Tryz.prog 77 [adjV l mt mv p, .int .i64 s, .int .i64 i, .bool on] [A σ] (.tuple #[]) [A σ2] := by
  unfold lmark at h
  refine Fn.enter (Tryz.func77) rfl rfl (fun w0 R => ?_)
  refine sA (xB 1 rfl (fun bk1 => (TL.done (TQ.then (TC.draw [(0, true), (1, true), (2, true), (3, true), (4, true), (5, true), (6, true), (7, true), (8, true), (9, true), (11, true), (10, false), (12, false)] [1] fc_m (by kernel_rfl) (xf 0 fc_f51_0_0 rfl (xf 0 fc_f49_0_0 rfl (xf 0 fc_f45_0_0 rfl (xL6 1 fc_a43_6 rfl rfl ?_)))))))))
  refine xf 0 fc_f51_0_0 rfl (xf 6 fc_f49_1_6 rfl (xf 0 fc_f47_0_0 rfl (xL3 1 fc_a23_3 rfl rfl (xmi rfl (xmi rfl (xmb rfl (TL.callD [] [] (arc_ok hl) ⟨rfl, rfl, rfl, rfl, trivial⟩ trivial fc_c121 rfl rfl rfl rfl rfl (kL1 rfl trivial) (TL.callD [0] [0] (mark_ok hM hl (by decide) h) ⟨rfl, rfl, rfl, rfl, trivial⟩ ⟨rfl, trivial⟩ fc_c120 rfl rfl rfl rfl rfl (kL1 rfl trivial) ?_))))))))
  refine TL.done ?_
  refine FQ.end0 (Bs := [A _]) [0] rfl rfl ⟨rfl, trivial⟩ ?_
  exact ⟨rfl, rfl⟩

theorem plant_ok {S : Type} [MemLike S] {mt : TypeId} {mv : Value} {A : S → Assn} (hM : MemI Tryz.prog mt mv A) {l : Lay} (hl : l.Ok) {p : Pen} {σ : S} {s : Int} {k : Nat} {σ2 : S} (h : plant l p k σ s = some σ2) : FnD Tryz.prog 32 [adjV l mt mv p, .int .i64 s] [A σ] (.tuple #[]) [A σ2] := by
  unfold plant at h
  dsimp only at h
  obtain ⟨σ1, h1, h2⟩ := Option.bind_eq_some_iff.1 h
  refine Fn.enter (Tryz.func32) rfl rfl (fun w0 R => ?_)
  refine sA (xB 1 rfl (fun bk1 => (dA (xf 0 fc_f51_0_0 rfl (xf 6 fc_f49_1_6 rfl (xL4 1 fc_a47_4 rfl rfl (xmi rfl (TL.callD [0] [0] (eget_ok hM hl) ⟨rfl, rfl, trivial⟩ ⟨rfl, trivial⟩ fc_c47 rfl rfl rfl rfl rfl trivial (TL.alloc 2 (cs := #[.int .i64 0, .int .i64 0, .int .i64 0, .bool false]) fc_z98 rfl rfl rfl (fun _ => trivial) (fun bk2 => ?_))))))))))
  refine TL.stW 2 4 [_, _, _, _] rfl rfl rfl rfl rfl rfl fc_a98_4 rfl rfl trivial (dA (xf 0 fc_f51_0_0 rfl (xf 6 fc_f49_1_6 rfl (xL4 1 fc_a47_4 rfl rfl (xmi rfl (TL.callD [0] [0] (eturn_ok hM hl) ⟨rfl, rfl, rfl, trivial⟩ ⟨rfl, trivial⟩ fc_c84 rfl rfl rfl rfl rfl trivial (dB (xf 2 fc_f98_2_2 rfl ?_))))))))
  refine xli 2 fc_s3 rfl rfl (TL.add _ rfl rfl (rfl) rfl rfl (xmi rfl (dK (TC.loopK (X := Nat × S × Int) [1, 2, 4, 18] [1, 2] (fun y => [(19, .int .i64 y.2.2)]) (fun y => [(0, A y.2.1)]) (fun y => plantL l p s (eget l σ s).u (eget l σ s).v y.1 k y.2.1 y.2.2 (IntKind.i64.wrap ((eget l σ s).level + 1)) = some σ1) (fun y => y.1) ((k, _, 0)) h1 ⟨rfl, trivial⟩ ⟨rfl, trivial⟩ (fun y hI => ?_)))))
  obtain ⟨j, σ3, z⟩ := y
  rcases j with _ | j
  · simp [plantL] at hI
  dsimp only at hI
  refine TC.sub (env' := [(19, _), (1, _), (2, _), (4, _), (18, _)]) (L' := [(0, _), (1, _), (2, _)]) ⟨rfl, rfl, rfl, rfl, rfl, trivial⟩ ⟨rfl, rfl, rfl, trivial⟩ (sA (TL.lss rfl rfl rfl rfl (fun q1 => ?_) (fun q1 => ?_)))
  refine dS (TC.condT rfl (TC.skip (TQ.then (TC.seq (TC.block (sA (xmi rfl (xai rfl ?_))))))))
  refine dG (xf 0 fc_f51_0_0 rfl (xf 0 fc_f49_0_0 rfl (xL6 1 fc_a45_6 rfl rfl (xmi rfl (xmi rfl (xf 0 fc_f98_0_0 rfl (xli 2 fc_s3 rfl rfl (xf 1 fc_f98_1_1 rfl ?_))))))))
  refine xli 2 fc_s3 rfl rfl ?_
  rw [plantL, if_pos q1] at hI
  obtain ⟨⟨r, σ4⟩, h3, h4⟩ := Option.bind_eq_some_iff.1 hI
  refine TL.callD [0] [0] (link_ok hM hl h3) ⟨rfl, rfl, rfl, rfl, rfl, trivial⟩ ⟨rfl, trivial⟩ fc_c78 rfl rfl rfl rfl rfl trivial (dI (TL.add _ rfl rfl (rfl) rfl rfl (xmi rfl (TL.done (TQ.roundK ((j, _, _)) ⟨h4, Nat.lt_succ_self _⟩ ⟨rfl, trivial⟩ ⟨rfl, trivial⟩ (kE4 rfl rfl rfl rfl trivial) (kL2 rfl rfl trivial))))))
  refine dS (TC.condF rfl (TC.exit (TQ.thenExit (TQ.thenExit (TQ.blockHere (TQ.then (TC.region (xL10 1 fc_a51_10 rfl rfl ?_))))))))
  refine xmi rfl (xf 2 fc_f98_2_2 rfl (xli 2 fc_s3 rfl rfl ?_))
  rw [plantL, if_neg q1] at hI
  cases hI
  refine TL.callD [0] [0] (lmark_ok hM hl h2) ⟨rfl, rfl, rfl, rfl, trivial⟩ ⟨rfl, trivial⟩ fc_c77 rfl rfl rfl rfl rfl trivial (TL.done ?_)
  refine FQ.end0 (Bs := [A _]) [0] rfl rfl ⟨rfl, trivial⟩ ?_
  exact ⟨rfl, rfl⟩

theorem fell_ok {S : Type} [MemLike S] {mt : TypeId} {mv : Value} {A : S → Assn} (hM : MemI Tryz.prog mt mv A) {l : Lay} (hl : l.Ok) {p : Pen} {σ : S} {s : Int} {k : Nat} {σ2 : S} (h : fell l p k σ s = some σ2) : FnD Tryz.prog 28 [adjV l mt mv p, .int .i64 s] [A σ] (.tuple #[]) [A σ2] := by
  unfold fell at h
  refine Fn.enter (Tryz.func28) rfl rfl (fun w0 R => ?_)
  refine sA (xB 1 rfl (fun bk1 => (dA (xf 0 fc_f51_0_0 rfl (xf 6 fc_f49_1_6 rfl (xL4 1 fc_a47_4 rfl rfl (xmi rfl (TL.callD [0] [0] (eget_ok hM hl) ⟨rfl, rfl, trivial⟩ ⟨rfl, trivial⟩ fc_c47 rfl rfl rfl rfl rfl trivial (TL.fv 2 3 (.int _ _) rfl fc_g98_2_2_3 fc_s3 rfl rfl rfl ?_)))))))))
  refine TL.add _ rfl rfl (rfl) rfl rfl (xmi rfl (dK (TC.loopK (X := Nat × S × Int) [1, 2, 11] [1] (fun y => [(12, .int .i64 y.2.2)]) (fun y => [(0, A y.2.1)]) (fun y => fellL l p s y.1 k y.2.1 y.2.2 (IntKind.i64.wrap ((eget l σ s).level + 1)) = some σ2) (fun y => y.1) ((k, _, 0)) h ⟨rfl, trivial⟩ ⟨rfl, trivial⟩ (fun y hI => ?_))))
  obtain ⟨j, σ3, z⟩ := y
  rcases j with _ | j
  · simp [fellL] at hI
  dsimp only at hI
  refine TC.sub (env' := [(12, _), (1, _), (2, _), (11, _)]) (L' := [(0, _), (1, _)]) ⟨rfl, rfl, rfl, rfl, trivial⟩ ⟨rfl, rfl, trivial⟩ (sA (TL.lss rfl rfl rfl rfl (fun q1 => ?_) (fun q1 => ?_)))
  refine dS (TC.condT rfl (TC.skip (TQ.then (TC.seq (TC.block (sA (xmi rfl (xai rfl ?_))))))))
  refine dG (xf 0 fc_f51_0_0 rfl (xf 0 fc_f49_0_0 rfl (xL6 1 fc_a45_6 rfl rfl (xmi rfl (xmi rfl ?_)))))
  rw [fellL, if_pos q1] at hI
  obtain ⟨⟨r, σ4⟩, h3, h4⟩ := Option.bind_eq_some_iff.1 hI
  refine TL.callD [0] [0] (cut_ok hM hl h3) ⟨rfl, rfl, rfl, trivial⟩ ⟨rfl, trivial⟩ fc_c79 rfl rfl rfl rfl rfl trivial (dI (TL.add _ rfl rfl (rfl) rfl rfl (xmi rfl (TL.done (TQ.roundK ((j, _, _)) ⟨h4, Nat.lt_succ_self _⟩ ⟨rfl, trivial⟩ ⟨rfl, trivial⟩ (kE3 rfl rfl rfl trivial) (kL1 rfl trivial))))))
  refine dS (TC.condF rfl (TC.exit (TQ.thenExit (TQ.thenExit (TQ.blockHere ?_)))))
  refine FQ.end0 (Bs := [A _]) [0] rfl rfl ⟨rfl, trivial⟩ ?_
  rw [fellL, if_neg q1] at hI; cases hI; exact ⟨rfl, rfl⟩

theorem treeUp_ok {S : Type} [MemLike S] {mt : TypeId} {mv : Value} {A : S → Assn} (hM : MemI Tryz.prog mt mv A) {l : Lay} (hl : l.Ok) {p : Pen} {σ : S} {s : Int} {k : Nat} {σ2 : S} (h : treeUp l p k σ s = some σ2) : FnD Tryz.prog 27 [adjV l mt mv p, .int .i64 s] [A σ] (.tuple #[]) [A σ2] := by
  unfold treeUp at h
  dsimp only at h
  obtain ⟨σ1, h1, h⟩ := Option.bind_eq_some_iff.1 h
  obtain ⟨⟨r, σ3⟩, h2, h3⟩ := Option.bind_eq_some_iff.1 h
  dsimp only at h3
  refine Fn.enter (Tryz.func27) rfl rfl (fun w0 R => ?_)
  refine sA (xB 1 rfl (fun bk1 => (dA (xf 0 fc_f51_0_0 rfl (xf 6 fc_f49_1_6 rfl (xL4 1 fc_a47_4 rfl rfl (xmi rfl (TL.callD [0] [0] (eget_ok hM hl) ⟨rfl, rfl, trivial⟩ ⟨rfl, trivial⟩ fc_c47 rfl rfl rfl rfl rfl trivial (TL.alloc 2 (cs := #[.int .i64 0, .int .i64 0, .int .i64 0, .bool false]) fc_z98 rfl rfl rfl (fun _ => trivial) (fun bk2 => ?_))))))))))
  refine TL.stW 2 4 [_, _, _, _] rfl rfl rfl rfl rfl rfl fc_a98_4 rfl rfl trivial (dA (xL10 1 fc_a51_10 rfl rfl (xmi rfl (xf 2 fc_f98_2_2 rfl (xli 2 fc_s3 rfl rfl (TL.callD [0] [0] (lmark_ok hM hl h1) ⟨rfl, rfl, rfl, rfl, trivial⟩ ⟨rfl, trivial⟩ fc_c77 rfl rfl rfl rfl rfl trivial (dA (xf 0 fc_f51_0_0 rfl ?_))))))))
  refine xf 6 fc_f49_1_6 rfl (xL4 1 fc_a47_4 rfl rfl (xmi rfl (xf 2 fc_f98_2_2 rfl (xli 2 fc_s3 rfl rfl (TL.add _ rfl rfl (rfl) rfl rfl (TL.callD [0] [0] (elift_ok hM hl) ⟨rfl, rfl, rfl, trivial⟩ ⟨rfl, trivial⟩ fc_c31 rfl rfl rfl rfl rfl trivial (dA (xf 0 fc_f51_0_0 rfl ?_))))))))
  refine xf 0 fc_f49_0_0 rfl (xL6 1 fc_a45_6 rfl rfl (xf 2 fc_f98_2_2 rfl (xli 2 fc_s3 rfl rfl (TL.add _ rfl rfl (rfl) rfl rfl (xmi rfl (xf 0 fc_f98_0_0 rfl (xli 2 fc_s3 rfl rfl (xf 1 fc_f98_1_1 rfl ?_))))))))
  refine xli 2 fc_s3 rfl rfl (TL.callD [0] [0] (link_ok hM hl h2) ⟨rfl, rfl, rfl, rfl, rfl, trivial⟩ ⟨rfl, trivial⟩ fc_c78 rfl rfl rfl rfl rfl trivial (dG (xL10 1 fc_a51_10 rfl rfl (xmi rfl (xf 2 fc_f98_2_2 rfl (xli 2 fc_s3 rfl rfl (TL.add _ rfl rfl (rfl) rfl rfl (TL.callD [0] [0] (lmark_ok hM hl h3) ⟨rfl, rfl, rfl, rfl, trivial⟩ ⟨rfl, trivial⟩ fc_c77 rfl rfl rfl rfl rfl trivial ?_))))))))
  refine TL.done ?_
  refine FQ.end0 (Bs := [A _]) [0] rfl rfl ⟨rfl, trivial⟩ ?_
  exact ⟨rfl, rfl⟩

theorem plain_ok {S : Type} [MemLike S] {mt : TypeId} {mv : Value} {A : S → Assn} (hM : MemI Tryz.prog mt mv A) {l : Lay} (hl : l.Ok) {p : Pen} {σ : S} {s : Int} {k : Nat} {σ2 : S} (h : plain l k σ s = some σ2) : FnD Tryz.prog 60 [adjV l mt mv p, .int .i64 s] [A σ] (.tuple #[]) [A σ2] := by
  unfold plain at h
  dsimp only at h
  obtain ⟨σ1, h1, h2⟩ := Option.bind_eq_some_iff.1 h
  refine Fn.enter (Tryz.func60) rfl rfl (fun w0 R => ?_)
  refine sA (xB 1 rfl (fun bk1 => (dA (xf 0 fc_f51_0_0 rfl (xf 6 fc_f49_1_6 rfl (xL4 1 fc_a47_4 rfl rfl (xmi rfl (TL.callD [0] [0] (eget_ok hM hl) ⟨rfl, rfl, trivial⟩ ⟨rfl, trivial⟩ fc_c47 rfl rfl rfl rfl rfl trivial (TL.fv 2 3 (.int _ _) rfl fc_g98_2_2_3 fc_s3 rfl rfl rfl ?_)))))))))
  refine xai rfl (dA (xf 0 fc_f51_0_0 rfl (xL10 1 fc_a49_10 rfl rfl (xmi rfl (TL.callD [0] [0] (apull_all hM hl h1) ⟨rfl, rfl, trivial⟩ ⟨rfl, trivial⟩ fc_c58 rfl rfl rfl rfl rfl trivial (dA (xf 0 fc_f51_0_0 rfl (xf 6 fc_f49_1_6 rfl ?_))))))))
  refine xL4 1 fc_a47_4 rfl rfl (xmi rfl (xmi rfl (TL.add _ rfl rfl (rfl) rfl rfl (TL.callD [0] [0] (elift_ok hM hl) ⟨rfl, rfl, rfl, trivial⟩ ⟨rfl, trivial⟩ fc_c31 rfl rfl rfl rfl rfl trivial (dG (xf 0 fc_f51_0_0 rfl (xL10 1 fc_a49_10 rfl rfl (xmi rfl ?_))))))))
  refine TL.callD [0] [0] (apush_all hM hl h2) ⟨rfl, rfl, trivial⟩ ⟨rfl, trivial⟩ fc_c88 rfl rfl rfl rfl rfl trivial (TL.done ?_)
  refine FQ.end0 (Bs := [A _]) [0] rfl rfl ⟨rfl, trivial⟩ ?_
  exact ⟨rfl, rfl⟩

theorem lfirst_ok {S : Type} [MemLike S] {mt : TypeId} {mv : Value} {A : S → Assn} (hM : MemI Tryz.prog mt mv A) {l : Lay} (hl : l.Ok) {p : Pen} {σ : S} {i v m r : Int} {k : Nat} {σ2 : S} (h0 : 0 ≤ m) (h : lfirst l k σ i v m = some (r, σ2)) : FnD Tryz.prog 62 [adjV l mt mv p, .int .i64 i, .int .i64 v, .int .i64 m] [A σ] (.int .i64 r) [A σ2] := by
  unfold lfirst at h
  obtain ⟨⟨a, σ1⟩, h1, h2⟩ := Option.bind_eq_some_iff.1 h
  refine Fn.enter (Tryz.func62) rfl rfl (fun w0 R => ?_)
  refine sA (xB 1 rfl (fun bk1 => (xai rfl (dS (TC.draw [(0, true), (1, true), (2, true), (3, true), (4, true), (5, true), (6, true), (7, true), (8, true), (9, true), (10, true), (11, true), (12, true), (13, true), (16, true), (14, false), (15, false), (17, false), (18, true)] [1] fc_m (by kernel_rfl) (xf 0 fc_f51_0_0 rfl (xf 0 fc_f49_0_0 rfl (xf 0 fc_f45_0_0 rfl (xL6 1 fc_a43_6 rfl rfl ?_)))))))))
  refine xf 0 fc_f51_0_0 rfl (xf 0 fc_f49_0_0 rfl (xf 0 fc_f45_0_0 rfl (xL6 1 fc_a43_6 rfl rfl (xf 0 fc_f51_0_0 rfl (xf 6 fc_f49_1_6 rfl (xf 0 fc_f47_0_0 rfl (xL3 1 fc_a23_3 rfl rfl (xmi rfl ?_))))))))
  refine xmi rfl (xmi rfl (TL.callD [] [] (vertex_ok hl) ⟨rfl, rfl, rfl, trivial⟩ trivial fc_c82 rfl rfl rfl rfl rfl (kL1 rfl trivial) (TL.callD [0] [0] (root_ok hM hl h1) ⟨rfl, rfl, trivial⟩ ⟨rfl, trivial⟩ fc_c81 rfl rfl rfl rfl rfl (kL1 rfl trivial) (TL.callD [0] [0] (first_ok hM hl h0 h2) ⟨rfl, rfl, rfl, trivial⟩ ⟨rfl, trivial⟩ fc_c104 rfl rfl rfl rfl rfl (kL1 rfl trivial) (xai rfl (dR ?_))))))
  refine FQ.ret1 (v := (.int _ _)) (Bs := [A _]) [0] rfl rfl rfl ⟨rfl, trivial⟩ ?_
  exact ⟨rfl, rfl⟩

theorem seek_ok {S : Type} [MemLike S] {mt : TypeId} {mv : Value} {A : S → Assn} (hM : MemI Tryz.prog mt mv A) {l : Lay} (hl : l.Ok) {p : Pen} {σ : S} {i v : Int} {r : Int × Bool} {k : Nat} {σ2 : S} (h : seek l k σ i v = some (r, σ2)) : FnD Tryz.prog 20 [adjV l mt mv p, .int .i64 i, .int .i64 v] [A σ] (.tuple #[.int .i64 r.1, .bool r.2]) [A σ2] := by
  unfold seek at h
  obtain ⟨⟨a, σ1⟩, h1, h2⟩ := Option.bind_eq_some_iff.1 h
  dsimp only at h2
  refine Fn.enter (Tryz.func20) rfl rfl (fun w0 R => ?_)
  refine sA (xB 1 rfl (fun bk1 => (xai rfl (xaf rfl (dB (xL10 1 fc_a51_10 rfl rfl (xmi rfl (xmi rfl (TL.callD [0] [0] (lfirst_ok hM hl (by decide) h1) ⟨rfl, rfl, rfl, rfl, trivial⟩ ⟨rfl, trivial⟩ fc_c62 rfl rfl rfl rfl rfl trivial ?_)))))))))
  refine xai rfl (dK (TC.loopK (X := Nat × S × Int) [1, 2, 3] [1] (fun y => [(8, .int .i64 y.2.2), (6, .int .i64 0), (7, .bool false)]) (fun y => [(0, A y.2.1)]) (fun y => seekL l i v y.1 k y.2.1 y.2.2 = some (r, σ2)) (fun y => y.1) ((k, _, _)) h2 ⟨rfl, rfl, rfl, trivial⟩ ⟨rfl, trivial⟩ (fun y hI => ?_)))
  obtain ⟨j, σ3, z⟩ := y
  rcases j with _ | j
  · simp [seekL] at hI
  dsimp only at hI
  refine TC.sub (env' := [(8, _), (6, _), (7, _), (1, _), (2, _), (3, _)]) (L' := [(0, _), (1, _)]) ⟨rfl, rfl, rfl, rfl, rfl, rfl, trivial⟩ ⟨rfl, rfl, trivial⟩ (sB (xmi rfl (TL.neq rfl rfl rfl rfl (fun q1 => ?_) (fun q1 => ?_))))
  refine TL.done (TQ.then (TC.condT rfl (TC.skip (TQ.then (TC.seq (TC.block (sA (xf 0 fc_f51_0_0 rfl ?_))))))))
  refine xf 6 fc_f49_1_6 rfl (xf 0 fc_f47_0_0 rfl (xL3 1 fc_a23_3 rfl rfl (xmi rfl (TL.callD [] [] (node_ok hl) ⟨rfl, rfl, trivial⟩ trivial fc_c63 rfl rfl rfl rfl rfl trivial (xmu rfl (TL.ext (.agg _) rfl rfl rfl rfl (TL.ext (.bool _) rfl rfl rfl rfl (TL.alloc 2 (cs := #[.bool false, .int .i64 0, .int .i64 0, .int .i64 0, .int .i64 0]) fc_z114 rfl rfl rfl (fun _ => trivial) (fun bk2 => ?_)))))))))
  refine TL.stW 2 5 [_, _, _, _, _] rfl rfl rfl rfl rfl rfl fc_a114_5 rfl rfl trivial (xab rfl (dA (xf 0 fc_f51_0_0 rfl (xL10 1 fc_a49_10 rfl rfl (xf 2 fc_f114_2_2 rfl (xli 2 fc_s3 rfl rfl (xmi rfl (TL.callD [0] [0] (afirst_ok hM hl) ⟨rfl, rfl, rfl, trivial⟩ ⟨rfl, trivial⟩ fc_c64 rfl rfl rfl rfl rfl trivial ?_))))))))
  refine xmu rfl (xei rfl rfl (TL.ext (.bool _) rfl rfl rfl rfl (xai rfl (xab rfl (dB (xf 0 fc_f51_0_0 rfl (xf 6 fc_f49_1_6 rfl (xL4 1 fc_a47_4 rfl rfl ?_))))))))
  refine xmi rfl (TL.callD [0] [0] (eget_ok hM hl) ⟨rfl, rfl, trivial⟩ ⟨rfl, trivial⟩ fc_c47 rfl rfl rfl rfl rfl trivial (TL.alloc 3 (cs := #[.int .i64 0, .int .i64 0, .int .i64 0, .bool false]) fc_z98 rfl rfl rfl (fun _ => trivial) (fun bk3 => (TL.stW 3 4 [_, _, _, _] rfl rfl rfl rfl rfl rfl fc_a98_4 rfl rfl trivial (dA (xf 0 fc_f51_0_0 rfl (xf 0 fc_f49_0_0 rfl (xL6 1 fc_a45_6 rfl rfl (xmi rfl ?_)))))))))
  refine xf 0 fc_f98_0_0 rfl (xli 3 fc_s3 rfl rfl (xf 1 fc_f98_1_1 rfl (xli 3 fc_s3 rfl rfl ?_)))
  rw [seekL, if_pos q1] at hI
  dsimp only at hI
  obtain ⟨⟨b, σ4⟩, h3, hI⟩ := Option.bind_eq_some_iff.1 hI
  dsimp only at hI
  refine TL.callD [0] [0] (same_ok hM hl h3) ⟨rfl, rfl, rfl, rfl, trivial⟩ ⟨rfl, trivial⟩ fc_c30 rfl rfl rfl rfl rfl trivial (TL.cases rfl (fun q2 => ?_) (fun q2 => ?_))
  refine xnt rfl (TL.done (TQ.then (TC.condF rfl (TC.skip (TQ.then (TC.region (xL10 1 fc_a51_10 rfl rfl (xmi rfl ?_))))))))
  rw [if_pos (by simpa using q2)] at hI
  obtain ⟨σ5, h4, hI⟩ := Option.bind_eq_some_iff.1 hI
  obtain ⟨⟨r2, σ6⟩, h5, h6⟩ := Option.bind_eq_some_iff.1 hI
  refine TL.callD [0] [0] (plain_ok hM hl h4) ⟨rfl, rfl, trivial⟩ ⟨rfl, trivial⟩ fc_c60 rfl rfl rfl rfl rfl trivial (dI (xL10 1 fc_a51_10 rfl rfl (xmi rfl (xmi rfl (TL.callD [0] [0] (lfirst_ok hM hl (by decide) h5) ⟨rfl, rfl, rfl, rfl, trivial⟩ ⟨rfl, trivial⟩ fc_c62 rfl rfl rfl rfl rfl trivial (xai rfl (TL.done (TQ.roundK ((j, _, _)) ⟨h6, Nat.lt_succ_self _⟩ ⟨rfl, rfl, rfl, trivial⟩ ⟨rfl, trivial⟩ (kE3 rfl rfl rfl trivial) (kL1 rfl trivial)))))))))
  refine xnf rfl (dT rfl (xmi rfl (xai rfl (xat rfl (dRR (TQ.blockRet (TQ.thenRet (TQ.thenRet ?_))))))))
  refine TQ.blockRet (TQ.thenRet ?_)
  refine FQ.ret2 (v := (.int _ _)) (x := (.bool true)) (Bs := [A _]) [0] rfl rfl rfl rfl ⟨rfl, trivial⟩ ?_
  rw [if_neg (by simpa using q2)] at hI; cases hI; exact ⟨rfl, rfl⟩
  refine dE rfl (sA (xai rfl (xaf rfl (dR ?_))))
  refine FQ.ret2 (v := (.int _ _)) (x := (.bool false)) (Bs := [A _]) [0] rfl rfl rfl rfl ⟨rfl, trivial⟩ ?_
  rw [seekL, if_neg q1] at hI; cases hI; exact ⟨rfl, rfl⟩

theorem smaller_ok {S : Type} [MemLike S] {mt : TypeId} {mv : Value} {A : S → Assn} (hM : MemI Tryz.prog mt mv A) {l : Lay} (hl : l.Ok) {p : Pen} {σ : S} {i u v r : Int} {k : Nat} {σ2 : S} (h : smaller l k σ i u v = some (r, σ2)) : FnD Tryz.prog 26 [adjV l mt mv p, .int .i64 i, .int .i64 u, .int .i64 v] [A σ] (.int .i64 r) [A σ2] := by
  unfold smaller at h
  obtain ⟨⟨a, σ1⟩, h1, h⟩ := Option.bind_eq_some_iff.1 h
  obtain ⟨⟨b, σ3⟩, h2, h⟩ := Option.bind_eq_some_iff.1 h
  dsimp only at h2 h
  cases h
  refine Fn.enter (Tryz.func26) rfl rfl (fun w0 R => ?_)
  refine sA (xB 1 rfl (fun bk1 => (xai rfl (dS (TC.seq (TC.draw [(0, true), (1, true), (2, true), (3, true), (4, true), (6, true), (7, true), (8, true), (9, true), (10, true), (5, false), (11, false), (12, true)] [1] fc_m (by kernel_rfl) (xf 0 fc_f51_0_0 rfl (xf 0 fc_f49_0_0 rfl (xL6 1 fc_a45_6 rfl rfl ?_)))))))))
  refine xmi rfl (xmi rfl (xf 0 fc_f51_0_0 rfl (xf 0 fc_f49_0_0 rfl (xL6 1 fc_a45_6 rfl rfl (xmi rfl (xmi rfl (TL.callD [0] [0] (count_ok hM hl h1) ⟨rfl, rfl, rfl, trivial⟩ ⟨rfl, trivial⟩ fc_c76 rfl rfl rfl rfl rfl (kL1 rfl trivial) (TL.callD [0] [0] (count_ok hM hl h2) ⟨rfl, rfl, rfl, trivial⟩ ⟨rfl, trivial⟩ fc_c76 rfl rfl rfl rfl rfl (kL1 rfl trivial) ?_))))))))
  refine TL.lss rfl rfl rfl rfl (fun q1 => ?_) (fun q1 => ?_)
  refine dT rfl (xmi rfl (xai rfl (dRR ?_)))
  refine FQ.ret1 (v := (.int _ _)) (Bs := [A _]) [0] rfl rfl rfl ⟨rfl, trivial⟩ ?_
  first | exact ⟨iE (by rw [if_pos q1]), rfl⟩ | exact ⟨iE (by rw [if_neg q1]), rfl⟩
  refine dF rfl (xmi rfl (xai rfl (dR ?_)))
  refine FQ.ret1 (v := (.int _ _)) (Bs := [A _]) [0] rfl rfl rfl ⟨rfl, trivial⟩ ?_
  first | exact ⟨iE (by rw [if_pos q1]), rfl⟩ | exact ⟨iE (by rw [if_neg q1]), rfl⟩

theorem at_Li {ab mb N : Nat} {c : Cnt} {i : Int} (h0 : 0 ≤ i) (h1 : i < N) : Go.Eng.Fn Tryz.prog 94 [.pointer (some ⟨ab, 0, none⟩), .int .i64 i, .pointer (some ⟨ab, 1, none⟩)] [arO ab mb (N) 149 c] (fun v Bs => v = .pointer (some ⟨mb, 0 + i.toNat * 1, none⟩) ∧ ∃ c2, Bs = [arO ab mb (N) 149 c2]) := by
  refine Fn.enter (Tryz.func94) rfl rfl (fun w0 R => ?_)
  refine sA (TL.asg (.pointer none) rfl rfl rfl (dB (xmi rfl (TL.lssF rfl rfl (by omega) rfl rfl (xmf rfl (xmi rfl (xmp rfl (xN0 rfl ?_))))))))
  refine xf 0 fc_f149_0_0 rfl (xls 0 fc_s24 rfl rfl (xz fc_l24_110_1 rfl (TL.geqF rfl rfl (by omega) rfl rfl (xpF rfl (dF rfl (xmp rfl (xN0 rfl (xli 0 fc_s3 rfl rfl ?_))))))))
  refine TL.add _ rfl rfl (rfl) rfl rfl (xN0 rfl (TL.st 0 #[_, _, _, _, _, _] (.int _ _) rfl rfl rfl rfl rfl rfl fc_s3 rfl rfl trivial (dA (xmp rfl (xN0 rfl (xf 0 fc_f149_0_0 rfl (xls 0 fc_s24 rfl rfl (xmi rfl ?_))))))))
  refine TL.ia _ rfl rfl fc_l24_110_1 (by omega) (by omega) rfl rfl rfl (xap rfl (dR ?_))
  refine FQ.ret1 (v := (.pointer (some ⟨_, _, none⟩))) (Bs := [_]) [0] rfl rfl rfl ⟨rfl, trivial⟩ ?_
  exact ⟨rfl, ⟨IntKind.i64.wrap (c.c1 + 1), c.c2, c.c3, c.c4, c.c5⟩, rfl⟩

theorem at_Lo {ab mb N : Nat} {c : Cnt} {i : Int} (h : ¬ (0 ≤ i ∧ i < N)) : FnD Tryz.prog 94 [.pointer (some ⟨ab, 0, none⟩), .int .i64 i, .pointer (some ⟨ab, 1, none⟩)] [arO ab mb (N) 149 c] (.pointer none) [arO ab mb (N) 149 c] := by
  refine Fn.enter (Tryz.func94) rfl rfl (fun w0 R => ?_)
  refine sA (TL.asg (.pointer none) rfl rfl rfl (dB (xmi rfl (TL.lss rfl rfl rfl rfl (fun q1 => ?_) (fun q1 => ?_)))))
  refine xmt rfl (xo rfl (xo rfl (xo rfl (xo rfl (xo rfl (xo rfl (xo rfl (xpT rfl ?_))))))))
  refine dT rfl (TL.asg (.pointer none) rfl rfl rfl (dRR ?_))
  refine FQ.ret1 (v := (.pointer none)) (Bs := [_]) [0] rfl rfl rfl ⟨rfl, trivial⟩ ?_
  first | exact ⟨rfl, rfl⟩ | (exfalso; omega)
  refine xmf rfl (xmi rfl (xmp rfl (xN0 rfl (xf 0 fc_f149_0_0 rfl (xls 0 fc_s24 rfl rfl (xz fc_l24_110_1 rfl (TL.geq rfl rfl rfl rfl (fun q2 => ?_) (fun q2 => ?_))))))))
  refine xpH rfl (dT rfl (TL.asg (.pointer none) rfl rfl rfl (dRR ?_)))
  refine FQ.ret1 (v := (.pointer none)) (Bs := [_]) [0] rfl rfl rfl ⟨rfl, trivial⟩ ?_
  first | exact ⟨rfl, rfl⟩ | (exfalso; omega)
  refine xpF rfl (dF rfl (xmp rfl (xN0 rfl (xli 0 fc_s3 rfl rfl (TL.add _ rfl rfl (rfl) rfl rfl (xN0 rfl (TL.st 0 #[_, _, _, _, _, _] (.int _ _) rfl rfl rfl rfl rfl rfl fc_s3 rfl rfl trivial (dA ?_))))))))
  refine xmp rfl (xN0 rfl (xf 0 fc_f149_0_0 rfl (xls 0 fc_s24 rfl rfl (xmi rfl (TL.ia _ rfl rfl fc_l24_110_1 (by omega) (by omega) rfl rfl rfl (xap rfl (dR ?_)))))))
  refine FQ.ret1 (v := (.pointer (some ⟨_, _, none⟩))) (Bs := [_]) [0] rfl rfl rfl ⟨rfl, trivial⟩ ?_
  first | exact ⟨rfl, rfl⟩ | (exfalso; omega)

theorem at_Si {ab mb N : Nat} {c : Cnt} {i : Int} (h0 : 0 ≤ i) (h1 : i < N) : Go.Eng.Fn Tryz.prog 94 [.pointer (some ⟨ab, 0, none⟩), .int .i64 i, .pointer (some ⟨ab, 2, none⟩)] [arO ab mb (N) 149 c] (fun v Bs => v = .pointer (some ⟨mb, 0 + i.toNat * 1, none⟩) ∧ ∃ c2, Bs = [arO ab mb (N) 149 c2]) := by
  refine Fn.enter (Tryz.func94) rfl rfl (fun w0 R => ?_)
  refine sA (TL.asg (.pointer none) rfl rfl rfl (dB (xmi rfl (TL.lssF rfl rfl (by omega) rfl rfl (xmf rfl (xmi rfl (xmp rfl (xN0 rfl ?_))))))))
  refine xf 0 fc_f149_0_0 rfl (xls 0 fc_s24 rfl rfl (xz fc_l24_110_1 rfl (TL.geqF rfl rfl (by omega) rfl rfl (xpF rfl (dF rfl (xmp rfl (xN0 rfl (xli 0 fc_s3 rfl rfl ?_))))))))
  refine TL.add _ rfl rfl (rfl) rfl rfl (xN0 rfl (TL.st 0 #[_, _, _, _, _, _] (.int _ _) rfl rfl rfl rfl rfl rfl fc_s3 rfl rfl trivial (dA (xmp rfl (xN0 rfl (xf 0 fc_f149_0_0 rfl (xls 0 fc_s24 rfl rfl (xmi rfl ?_))))))))
  refine TL.ia _ rfl rfl fc_l24_110_1 (by omega) (by omega) rfl rfl rfl (xap rfl (dR ?_))
  refine FQ.ret1 (v := (.pointer (some ⟨_, _, none⟩))) (Bs := [_]) [0] rfl rfl rfl ⟨rfl, trivial⟩ ?_
  exact ⟨rfl, ⟨c.c1, IntKind.i64.wrap (c.c2 + 1), c.c3, c.c4, c.c5⟩, rfl⟩

theorem at_So {ab mb N : Nat} {c : Cnt} {i : Int} (h : ¬ (0 ≤ i ∧ i < N)) : FnD Tryz.prog 94 [.pointer (some ⟨ab, 0, none⟩), .int .i64 i, .pointer (some ⟨ab, 2, none⟩)] [arO ab mb (N) 149 c] (.pointer none) [arO ab mb (N) 149 c] := by
  refine Fn.enter (Tryz.func94) rfl rfl (fun w0 R => ?_)
  refine sA (TL.asg (.pointer none) rfl rfl rfl (dB (xmi rfl (TL.lss rfl rfl rfl rfl (fun q1 => ?_) (fun q1 => ?_)))))
  refine xmt rfl (xo rfl (xo rfl (xo rfl (xo rfl (xo rfl (xo rfl (xo rfl (xpT rfl ?_))))))))
  refine dT rfl (TL.asg (.pointer none) rfl rfl rfl (dRR ?_))
  refine FQ.ret1 (v := (.pointer none)) (Bs := [_]) [0] rfl rfl rfl ⟨rfl, trivial⟩ ?_
  first | exact ⟨rfl, rfl⟩ | (exfalso; omega)
  refine xmf rfl (xmi rfl (xmp rfl (xN0 rfl (xf 0 fc_f149_0_0 rfl (xls 0 fc_s24 rfl rfl (xz fc_l24_110_1 rfl (TL.geq rfl rfl rfl rfl (fun q2 => ?_) (fun q2 => ?_))))))))
  refine xpH rfl (dT rfl (TL.asg (.pointer none) rfl rfl rfl (dRR ?_)))
  refine FQ.ret1 (v := (.pointer none)) (Bs := [_]) [0] rfl rfl rfl ⟨rfl, trivial⟩ ?_
  first | exact ⟨rfl, rfl⟩ | (exfalso; omega)
  refine xpF rfl (dF rfl (xmp rfl (xN0 rfl (xli 0 fc_s3 rfl rfl (TL.add _ rfl rfl (rfl) rfl rfl (xN0 rfl (TL.st 0 #[_, _, _, _, _, _] (.int _ _) rfl rfl rfl rfl rfl rfl fc_s3 rfl rfl trivial (dA ?_))))))))
  refine xmp rfl (xN0 rfl (xf 0 fc_f149_0_0 rfl (xls 0 fc_s24 rfl rfl (xmi rfl (TL.ia _ rfl rfl fc_l24_110_1 (by omega) (by omega) rfl rfl rfl (xap rfl (dR ?_)))))))
  refine FQ.ret1 (v := (.pointer (some ⟨_, _, none⟩))) (Bs := [_]) [0] rfl rfl rfl ⟨rfl, trivial⟩ ?_
  first | exact ⟨rfl, rfl⟩ | (exfalso; omega)

theorem aLoad_i {ab mb : Nat} {σ : Array UInt64} {c : Cnt} {i : Int} (h0 : 0 ≤ i) (h1 : i < σ.size) : Go.Eng.Fn Tryz.prog 65 [.pointer (some ⟨ab, 0, none⟩), .int .i64 i] [arO ab mb (σ.size) 149 c, pt mb (.cells (encM (σ)) 110)] (fun v Bs => v = .tuple #[.int .u64 (MemLike.get σ i), .int .i64 0] ∧ ∃ c2, Bs = [arO ab mb (σ.size) 149 c2, pt mb (.cells (encM (σ)) 110)]) := by
  refine Fn.enter (Tryz.func65) rfl rfl (fun w0 R => ?_)
  refine sA (xai rfl (xai rfl (dA (xmp rfl (xmi rfl (xmp rfl (xN0 rfl (xf 1 fc_f149_1_1 rfl ?_))))))))
  refine xf 0 fc_f147_0_0 rfl (TL.call [0] [0] (at_Li h0 h1) ⟨rfl, rfl, rfl, trivial⟩ ⟨rfl, trivial⟩ fc_c94 rfl rfl rfl rfl ?_)
  rintro v Bs ⟨rfl, c2, rfl⟩
  refine ⟨rfl, trivial, ?_⟩
  refine xap rfl (dB (xmp rfl (TL.nilP false rfl rfl fc_p150 rfl rfl rfl (dF rfl (xmp rfl (xN0 rfl (TL.ldM 1 rfl rfl (by omega) (by omega) fc_s110 rfl rfl (xai rfl ?_))))))))
  refine xai rfl (dR ?_)
  refine FQ.ret2 (v := (.int _ _)) (x := (.int _ _)) (Bs := [_, _]) [0, 1] rfl rfl rfl rfl ⟨rfl, rfl, trivial⟩ ?_
  exact ⟨rfl, _, rfl⟩

theorem aLoad_o {ab mb : Nat} {σ : Array UInt64} {c : Cnt} {i : Int} (h : ¬ (0 ≤ i ∧ i < σ.size)) : Go.Eng.Fn Tryz.prog 65 [.pointer (some ⟨ab, 0, none⟩), .int .i64 i] [arO ab mb (σ.size) 149 c, pt mb (.cells (encM (σ)) 110)] (fun v Bs => v = .tuple #[.int .u64 (MemLike.get σ i), .int .i64 20] ∧ ∃ c2, Bs = [arO ab mb (σ.size) 149 c2, pt mb (.cells (encM (σ)) 110)]) := by
  refine Fn.enter (Tryz.func65) rfl rfl (fun w0 R => ?_)
  refine sA (xai rfl (xai rfl (dA (xmp rfl (xmi rfl (xmp rfl (xN0 rfl (xf 1 fc_f149_1_1 rfl ?_))))))))
  refine xf 0 fc_f147_0_0 rfl (TL.callD [0] [0] (at_Lo h) ⟨rfl, rfl, rfl, trivial⟩ ⟨rfl, trivial⟩ fc_c94 rfl rfl rfl rfl rfl trivial (TL.asg (.pointer none) rfl rfl rfl (dB (TL.mv (.pointer none) rfl rfl rfl (TL.nilP true rfl rfl fc_p150 rfl rfl rfl (dT rfl (xai rfl (xai rfl ?_))))))))
  refine dRR ?_
  refine FQ.ret2 (v := (.int _ _)) (x := (.int _ _)) (Bs := [_, _]) [0, 1] rfl rfl rfl rfl ⟨rfl, rfl, trivial⟩ ?_
  exact ⟨by rw [am_get, if_neg h], _, rfl⟩

theorem aStore_i {ab mb : Nat} {σ : Array UInt64} {c : Cnt} {i : Int} (h0 : 0 ≤ i) (h1 : i < σ.size) {y : Int} (hv : 0 ≤ y ∧ y < 18446744073709551616) : Go.Eng.Fn Tryz.prog 54 [.pointer (some ⟨ab, 0, none⟩), .int .i64 i, .int .u64 y] [arO ab mb (σ.size) 149 c, pt mb (.cells (encM (σ)) 110)] (fun v Bs => v = .int .i64 0 ∧ ∃ c2, Bs = [arO ab mb (σ.size) 149 c2, pt mb (.cells (encM (MemLike.st σ i y)) 110)]) := by
  refine Fn.enter (Tryz.func54) rfl rfl (fun w0 R => ?_)
  refine sA (xai rfl (dA (xmp rfl (xmi rfl (xmp rfl (xN0 rfl (xf 1 fc_f149_1_1 rfl (xf 1 fc_f147_1_1 rfl ?_))))))))
  refine TL.call [0] [0] (at_Si h0 h1) ⟨rfl, rfl, rfl, trivial⟩ ⟨rfl, trivial⟩ fc_c94 rfl rfl rfl rfl ?_
  rintro v Bs ⟨rfl, c2, rfl⟩
  refine ⟨rfl, trivial, ?_⟩
  refine xap rfl (dB (xmp rfl (TL.nilP false rfl rfl fc_p150 rfl rfl rfl (dF rfl (xmp rfl (xmi rfl (xN0 rfl (TL.stM 1 rfl rfl rfl (by omega) (by omega) (by omega) fc_s110 rfl rfl trivial ?_))))))))
  refine dA (xai rfl (dR ?_))
  refine FQ.ret1 (v := (.int _ _)) (Bs := [_, _]) [0, 1] rfl rfl rfl ⟨rfl, rfl, trivial⟩ ?_
  exact ⟨rfl, _, rfl⟩

theorem aStore_o {ab mb : Nat} {σ : Array UInt64} {c : Cnt} {i : Int} (h : ¬ (0 ≤ i ∧ i < σ.size)) {y : Int} (hv : 0 ≤ y ∧ y < 18446744073709551616) : Go.Eng.Fn Tryz.prog 54 [.pointer (some ⟨ab, 0, none⟩), .int .i64 i, .int .u64 y] [arO ab mb (σ.size) 149 c, pt mb (.cells (encM (σ)) 110)] (fun v Bs => v = .int .i64 20 ∧ ∃ c2, Bs = [arO ab mb (σ.size) 149 c2, pt mb (.cells (encM (MemLike.st σ i y)) 110)]) := by
  have hst : (MemLike.st σ i y : Array UInt64) = σ := by rw [am_st, if_neg h]
  refine Fn.enter (Tryz.func54) rfl rfl (fun w0 R => ?_)
  refine sA (xai rfl (dA (xmp rfl (xmi rfl (xmp rfl (xN0 rfl (xf 1 fc_f149_1_1 rfl (xf 1 fc_f147_1_1 rfl ?_))))))))
  refine TL.callD [0] [0] (at_So h) ⟨rfl, rfl, rfl, trivial⟩ ⟨rfl, trivial⟩ fc_c94 rfl rfl rfl rfl rfl trivial (TL.asg (.pointer none) rfl rfl rfl (dB (TL.mv (.pointer none) rfl rfl rfl (TL.nilP true rfl rfl fc_p150 rfl rfl rfl (dT rfl (xai rfl (dRR ?_)))))))
  refine FQ.ret1 (v := (.int _ _)) (Bs := [_, _]) [0, 1] rfl rfl rfl ⟨rfl, rfl, trivial⟩ ?_
  exact ⟨rfl, _, by rw [hst]⟩

theorem aload_ok {ab mb : Nat} {σ : Array UInt64} {i : Int} : FnD Tryz.prog 65 [.pointer (some ⟨ab, 0, none⟩), .int .i64 i] [arenaA ab mb 149 110 (σ)] (.tuple #[.int .u64 (MemLike.get σ i), .int .i64 (if 0 ≤ i ∧ i < σ.size then 0 else 20)]) [arenaA ab mb 149 110 (σ)] := by
  by_cases h : 0 ≤ i ∧ i < σ.size
  · rw [if_pos h]; exact Fn.arena rfl fun c => aLoad_i h.1 h.2
  · rw [if_neg h]; exact Fn.arena rfl fun c => aLoad_o h
theorem astore_ok {ab mb : Nat} {σ : Array UInt64} {i v : Int} (hv : 0 ≤ v ∧ v < 18446744073709551616) : FnD Tryz.prog 54 [.pointer (some ⟨ab, 0, none⟩), .int .i64 i, .int .u64 v] [arenaA ab mb 149 110 (σ)] (.int .i64 (if 0 ≤ i ∧ i < σ.size then 0 else 20)) [arenaA ab mb 149 110 (MemLike.st σ i v)] := by
  by_cases h : 0 ≤ i ∧ i < σ.size
  · rw [if_pos h]; exact Fn.arena (arr_st_size _ _ _) fun c => aStore_i h.1 h.2 hv
  · rw [if_neg h]; exact Fn.arena (arr_st_size _ _ _) fun c => aStore_o h hv

theorem pload_ok {ab mb : Nat} {σ : Array UInt64} {i : Int} : FnD Tryz.prog 185 [.agg #[.pointer (some ⟨ab, 0, none⟩)], .int .i64 i] [arenaA ab mb 149 110 (σ)] (.int .u64 (MemLike.get σ i)) [arenaA ab mb 149 110 (σ)] := by
  refine Fn.enter (Tryz.func185) rfl rfl (fun w0 R => ?_)
  refine sA (xB 1 rfl (fun bk1 => (xai rfl (dA (xf 0 fc_f107_0_0 rfl (xlp 1 fc_s37 rfl rfl (xmi rfl (TL.callD [0] [0] aload_ok ⟨rfl, rfl, trivial⟩ ⟨rfl, trivial⟩ fc_c65 rfl rfl rfl rfl rfl trivial (xmu rfl ?_)))))))))
  refine xei rfl rfl (xei rfl rfl (xai rfl (xai rfl (dA (xmi rfl (xai rfl (dR ?_)))))))
  refine FQ.ret1 (v := (.int _ _)) (Bs := [arenaA ab mb 149 110 (σ)]) [0] rfl rfl rfl ⟨rfl, trivial⟩ ?_
  exact ⟨rfl, rfl⟩

theorem pstore_ok {ab mb : Nat} {σ : Array UInt64} {i : Int} {y : Int} (hv : 0 ≤ y ∧ y < 18446744073709551616) : FnD Tryz.prog 186 [.agg #[.pointer (some ⟨ab, 0, none⟩)], .int .i64 i, .int .u64 y] [arenaA ab mb 149 110 (σ)] (.tuple #[]) [arenaA ab mb 149 110 (MemLike.st σ i y)] := by
  refine Fn.enter (Tryz.func186) rfl rfl (fun w0 R => ?_)
  refine sA (xB 1 rfl (fun bk1 => (dG (xf 0 fc_f107_0_0 rfl (xlp 1 fc_s37 rfl rfl (xmi rfl (xmi rfl (TL.callD [0] [0] (astore_ok hv) ⟨rfl, rfl, rfl, trivial⟩ ⟨rfl, trivial⟩ fc_c54 rfl rfl rfl rfl rfl trivial (TL.done ?_)))))))))
  refine FQ.end0 (Bs := [_]) [0] rfl rfl ⟨rfl, trivial⟩ ?_
  exact ⟨rfl, rfl⟩

theorem plainM {ab mb : Nat} : MemI (S := Array UInt64) Tryz.prog 107 (.agg #[.pointer (some ⟨ab, 0, none⟩)]) (arenaA ab mb 149 110) :=
  ⟨⟨185, _, meth_val (by kernel_rfl) (by kernel_rfl), fun _ _ => pload_ok⟩, ⟨186, _, meth_val (by kernel_rfl) (by kernel_rfl), fun _ _ _ hv => pstore_ok hv⟩⟩

theorem anew_ok {N : Nat} (hN : N ≤ 16384) : Go.Eng.Fn Tryz.prog 50 [.int .i64 ((N : Nat) : Int)] [] (fun v Bs => ∃ ab mb, v = .tuple #[.pointer (some ⟨ab, 0, none⟩), .int .i64 0] ∧ Bs = [arenaA ab mb 149 110 (Array.replicate N 0)]) := by
  refine Fn.enter (Tryz.func50) rfl rfl (fun w0 R => ?_)
  refine sA (TL.asg (.pointer none) rfl rfl rfl (xai rfl (dB (xmi rfl (TL.lssF rfl rfl (by omega) rfl rfl (xmf rfl (xmi rfl (TL.gtrF rfl rfl (by omega) rfl rfl ?_))))))))
  refine xpF rfl (dF rfl (xmi rfl (TL.mkS 0 rfl rfl fc_k24_110_1 fc_z110 rfl (by omega) rfl rfl (fun bk0 => ⟨trivial, ?_⟩))))
  refine TL.bld [.slice none 0 0, .int .i64 0, .int .i64 0, .int .i64 0, .int .i64 0, .int .i64 0] [(.slice _ _ _)] [_, _, _, _, _, _] fc_z149 fc_q149 ⟨rfl, trivial⟩ ⟨rfl, rfl⟩ rfl rfl (xB 1 rfl (fun bk1 => (xap rfl (xai rfl (dR (TQ.conseq 0 (B := pt _ (.cells (encM (Array.replicate N 0)) 110)) rfl (fun h hh => by rw [← encM_rep]; exact hh) (TQ.arena 1 0 (N := N) (c := ⟨0, 0, 0, 0, 0⟩) (by simp) rfl rfl (by decide) ?_)))))))
  refine FQ.ret2 (v := (.pointer (some ⟨_, _, none⟩))) (x := (.int _ _)) (Bs := [_]) [1] rfl rfl rfl rfl ⟨rfl, trivial⟩ ?_
  exact ⟨_, _, rfl, rfl⟩

theorem memof_ok {ab : Nat} : FnD Tryz.prog 52 [.pointer (some ⟨ab, 0, none⟩)] [] (.agg #[.pointer (some ⟨ab, 0, none⟩)]) [] := by
  refine Fn.enter (Tryz.func52) rfl rfl (fun w0 R => ?_)
  refine sA (TL.alloc 0 (cs := #[.pointer none]) fc_z107 rfl rfl rfl (fun _ => trivial) (fun bk0 => (dA (xmp rfl (TL.bld [.pointer none] [(.pointer (some ⟨_, _, none⟩))] [_] fc_z107 fc_q107 ⟨rfl, trivial⟩ ⟨rfl, rfl⟩ rfl rfl (TL.stW 0 1 [_] rfl rfl rfl rfl rfl rfl fc_a107_1 rfl rfl trivial (dR ?_)))))))
  refine FQ.retG (rs := [.cell 2 107]) [(.agg _)] (Bs := []) [] rfl ⟨⟨_, _, _, _, _, 0, rfl, rfl, .inr ⟨1, [_], fc_a107_1, rfl, rfl⟩⟩, trivial⟩ rfl rfl trivial ?_
  exact ⟨rfl, rfl⟩

theorem has10_ok {a : Option Addr} {b off n c : Nat} {A : Assn} {f : Nat → Int} (ha : 0 < n → a = some ⟨b, off, none⟩) (hA : RowOf A encI 1 b off n f) (hn : n ≤ 1000) {x : Int} : FnD Tryz.prog 109 [.slice a n c, .int .i64 x] [A] (.bool (hasN f x n)) [A] := by
  refine Fn.enter (Tryz.func109) rfl rfl (fun w0 R => ?_)
  refine sA (xaf rfl (dB (xai rfl (dK (TC.loopK (X := Nat) [0, 1] [0] (fun i => [(5, .int .i64 ((i : Nat) : Int))]) (fun i => []) (fun i => i ≤ n ∧ ∀ j, j < i → f j ≠ x) (fun i => n - i) (0) ⟨Nat.zero_le _, fun j hj => absurd hj (Nat.not_lt_zero _)⟩ ⟨rfl, trivial⟩ trivial (fun i hI => ?_))))))
  obtain ⟨hi, hno⟩ := hI
  refine TC.sub (env' := [(5, _), (0, _), (1, _)]) (L' := [(0, _)]) ⟨rfl, rfl, rfl, trivial⟩ ⟨rfl, trivial⟩ (sB (xmi rfl (xms rfl (xz fc_l77_3_1 rfl (TL.lss rfl rfl rfl rfl (fun q1 => ?_) (fun q1 => ?_))))))
  refine TL.done (TQ.then (TC.condT rfl (TC.skip (TQ.then (TC.seq (TC.block (sA (xms rfl ?_))))))))
  refine xmi rfl (TL.iaO rfl ha rfl fc_l77_3_1 (by omega) rfl rfl (TL.ldRS 0 (.int _ _) rfl rfl hA (by omega) (rfl) fc_s3 rfl rfl (xmi rfl (TL.eql rfl rfl rfl rfl (fun q2 => ?_) (fun q2 => ?_)))))
  refine dT rfl (xat rfl (dR (TQ.blockRet (TQ.thenRet (TQ.thenRet (TQ.blockRet (TQ.thenRet ?_)))))))
  refine FQ.ret1 (v := (.bool true)) (Bs := [A]) [0] rfl rfl rfl ⟨rfl, trivial⟩ ?_
  first | exact ⟨hasN_t (i := i) (by omega) (by assumption), rfl⟩ | exact ⟨hasN_f (by omega) hi hno, rfl⟩
  refine TL.done (TQ.then (TC.condF rfl (TC.skip (TQ.inBlock (TQ.then (TC.region (xmi rfl (TL.add (((i + 1 : Nat) : Int)) rfl rfl (wrN (by omega)) rfl rfl ?_))))))))
  refine xai rfl (TL.done (TQ.roundK (i + 1) ⟨⟨by omega, fun j hj => by by_cases he : j = i; subst he; assumption; exact hno j (by omega)⟩, by omega⟩ ⟨rfl, trivial⟩ trivial (kE2 rfl rfl trivial) (kL1 rfl trivial)))
  refine dE rfl (sA (xaf rfl (dR ?_)))
  refine FQ.ret1 (v := (.bool false)) (Bs := [A]) [0] rfl rfl rfl ⟨rfl, trivial⟩ ?_
  first | exact ⟨hasN_t (i := i) (by omega) (by assumption), rfl⟩ | exact ⟨hasN_f (by omega) hi hno, rfl⟩

theorem has13_ok {a : Option Addr} {b off n c : Nat} {A : Assn} {f : Nat → Int} (ha : 0 < n → a = some ⟨b, off, none⟩) (hA : RowOf A encI 1 b off n f) (hn : n ≤ 1000) {x : Int} : FnD Tryz.prog 111 [.slice a n c, .int .i64 x] [A] (.bool (hasN f x n)) [A] := by
  refine Fn.enter (Tryz.func111) rfl rfl (fun w0 R => ?_)
  refine sA (xaf rfl (dB (xai rfl (dK (TC.loopK (X := Nat) [0, 1] [0] (fun i => [(5, .int .i64 ((i : Nat) : Int))]) (fun i => []) (fun i => i ≤ n ∧ ∀ j, j < i → f j ≠ x) (fun i => n - i) (0) ⟨Nat.zero_le _, fun j hj => absurd hj (Nat.not_lt_zero _)⟩ ⟨rfl, trivial⟩ trivial (fun i hI => ?_))))))
  obtain ⟨hi, hno⟩ := hI
  refine TC.sub (env' := [(5, _), (0, _), (1, _)]) (L' := [(0, _)]) ⟨rfl, rfl, rfl, trivial⟩ ⟨rfl, trivial⟩ (sB (xmi rfl (xms rfl (xz fc_l77_3_1 rfl (TL.lss rfl rfl rfl rfl (fun q1 => ?_) (fun q1 => ?_))))))
  refine TL.done (TQ.then (TC.condT rfl (TC.skip (TQ.then (TC.seq (TC.block (sA (xms rfl ?_))))))))
  refine xmi rfl (TL.iaO rfl ha rfl fc_l77_3_1 (by omega) rfl rfl (TL.ldRS 0 (.int _ _) rfl rfl hA (by omega) (rfl) fc_s3 rfl rfl (xmi rfl (TL.eql rfl rfl rfl rfl (fun q2 => ?_) (fun q2 => ?_)))))
  refine dT rfl (xat rfl (dR (TQ.blockRet (TQ.thenRet (TQ.thenRet (TQ.blockRet (TQ.thenRet ?_)))))))
  refine FQ.ret1 (v := (.bool true)) (Bs := [A]) [0] rfl rfl rfl ⟨rfl, trivial⟩ ?_
  first | exact ⟨hasN_t (i := i) (by omega) (by assumption), rfl⟩ | exact ⟨hasN_f (by omega) hi hno, rfl⟩
  refine TL.done (TQ.then (TC.condF rfl (TC.skip (TQ.inBlock (TQ.then (TC.region (xmi rfl (TL.add (((i + 1 : Nat) : Int)) rfl rfl (wrN (by omega)) rfl rfl ?_))))))))
  refine xai rfl (TL.done (TQ.roundK (i + 1) ⟨⟨by omega, fun j hj => by by_cases he : j = i; subst he; assumption; exact hno j (by omega)⟩, by omega⟩ ⟨rfl, trivial⟩ trivial (kE2 rfl rfl trivial) (kL1 rfl trivial)))
  refine dE rfl (sA (xaf rfl (dR ?_)))
  refine FQ.ret1 (v := (.bool false)) (Bs := [A]) [0] rfl rfl rfl ⟨rfl, trivial⟩ ?_
  first | exact ⟨hasN_t (i := i) (by omega) (by assumption), rfl⟩ | exact ⟨hasN_f (by omega) hi hno, rfl⟩

set_option maxHeartbeats 4000000 in
theorem gjoin_ok {a : Option Addr} {b off n c : Nat} {A : Assn} {f : Nat → Int × Int} (ha : 0 < n → a = some ⟨b, off, none⟩) (hA : RowOf A encP 2 b off n f) (hn : n ≤ 400) {u v : Int} : FnD Tryz.prog 69 [.slice a n c, .int .i64 u, .int .i64 v] [A] (.bool (joinB f n u v)) [A] := by
  refine Fn.enter (Tryz.func69) rfl rfl (fun w0 R => ?_)
  refine sA (xaf rfl (dA (xmi rfl (TL.bsN 1 [_] ([.int .i64 u]) fc_l77_3_1 fc_z3 ⟨rfl, trivial⟩ rfl (lit1 rfl) rfl rfl (fun bk1 => ⟨trivial, ?_⟩)))))
  refine xas rfl (dS (TC.seq (TC.conseq 1 (B := ownA encI 1 3 (.slice (some ⟨bk1, 0, none⟩) 1 1) #[u]) rfl (own_lit (enc := encI) (x := u) rfl) (TC.region (xai rfl (dK (TC.loopK (X := Nat × Value × Array Int) [0, 2, 6] [0] (fun ⟨i, w, s⟩ => [(8, .int .i64 ((i : Nat) : Int)), (7, w)]) (fun ⟨i, w, s⟩ => [(1, ownA encI 1 3 w s)]) (fun ⟨i, w, s⟩ => JI f n u i s) (fun ⟨i, w, s⟩ => 2 * n + 1 - i) ((0, _, #[u])) JI.start ⟨rfl, rfl, trivial⟩ ⟨rfl, trivial⟩ (fun y hI => ?_))))))))
  obtain ⟨i, w, s⟩ := y
  have hJ : JI f n u i s := hI
  refine TC.sub (env' := [(8, _), (7, _), (0, _), (2, _), (6, _)]) (L' := [(1, _), (0, _)]) ⟨rfl, rfl, rfl, rfl, rfl, trivial⟩ ⟨rfl, rfl, trivial⟩ (TC.seq (TC.seq (TC.ownW 1 rfl (fun a9 g9 c9 hv9 hc9 ha9 => ?_))))
  cases hv9
  refine TC.region (xmi rfl (xmv rfl (xz fc_l77_3_1 rfl (TL.lss rfl rfl rfl rfl (fun q1 => ?_) (fun q1 => ?_)))))
  refine TL.done (TQ.then (TC.condT rfl (TC.skip (TQ.then (TC.seq (TC.block (sA (xai rfl ?_))))))))
  refine dK ?_
  obtain ⟨x0, hx0⟩ : ∃ x0, s[i]! = x0 := ⟨_, rfl⟩
  refine TC.loopK (X := Nat × Value × Array Int) [0, 2, 6, 8] [0] (fun ⟨k, w, s⟩ => [(9, .int .i64 ((k : Nat) : Int)), (7, w)]) (fun ⟨k, w, s⟩ => [(1, ownA encI 1 3 w s)]) (fun ⟨k, w, s⟩ => k ≤ n ∧ JK f n u i x0 k s) (fun ⟨k, w, s⟩ => n - k) ((0, _, s)) ⟨Nat.zero_le _, hx0 ▸ JK.begin hJ (by omega)⟩ ⟨rfl, rfl, trivial⟩ ⟨rfl, trivial⟩ (fun y hI => ?_)
  obtain ⟨k, w, s⟩ := y
  obtain ⟨hkn, hK⟩ := hI
  replace hkn : k ≤ n := hkn
  replace hK : JK f n u i x0 k s := hK
  refine TC.sub (env' := [(9, _), (7, _), (0, _), (2, _), (6, _), (8, _)]) (L' := [(1, _), (0, _)]) ⟨rfl, rfl, rfl, rfl, rfl, rfl, trivial⟩ ⟨rfl, rfl, trivial⟩ (sB (xmi rfl (xms rfl (xz fc_l122_70_2 rfl (TL.lss rfl rfl rfl rfl (fun q2 => ?_) (fun q2 => ?_))))))
  refine TL.done (TQ.then (TC.condT rfl (TC.skip (TQ.then (TC.seq (TC.block (TC.seq (TC.draw [(0, true), (1, true), (2, true), (3, true), (4, true), (5, true), (6, true), (7, true), (8, true), (9, true), (10, true), (11, true)] [0] fc_m (by kernel_rfl) ?_))))))))
  refine xms rfl (xmi rfl (TL.iaO rfl ha rfl fc_l122_70_2 (by omega) rfl rfl (TL.iaA (_ + 0) rfl rfl fc_r70_2_3_1 (by decide) (by decide) rfl rfl rfl (TL.ldRF 0 (.int _ _) rfl rfl hA (by omega) (encP_ok _).1 rfl fc_s3 rfl rfl (xms rfl (xmi rfl (TL.iaO rfl ha rfl fc_l122_70_2 (by omega) rfl rfl (TL.iaA (_ + 1) rfl rfl fc_r70_2_3_1 (by decide) (by decide) rfl rfl rfl ?_))))))))
  refine TL.ldRF 0 (.int _ _) rfl rfl hA (by omega) (encP_ok _).1 rfl fc_s3 rfl rfl (xai rfl (xai rfl (dB (xmi rfl (TL.lss rfl rfl rfl rfl (fun q3 => ?_) (fun q3 => ?_))))))
  refine TL.done (TQ.then (TC.condT rfl (TC.exit (TQ.thenExit (TQ.blockHere (TQ.then (TC.region (xmi rfl ?_))))))))
  refine TL.add (((k + 1 : Nat) : Int)) rfl rfl (wrN (by omega)) rfl rfl (xai rfl (TL.done (TQ.roundK ((k + 1, _, _)) ⟨⟨(show k + 1 ≤ n by omega), (by first | exact hK.skip (by assumption) | exact hK.next (fun e => by first | exact hm1 e | exact mem_app.2 (.inl (hm1 e))) (fun e => by first | exact hasN_mem.1 (by assumption) | exact mem_app.2 (.inr rfl) | exact absurd e (by rw [← hK.hx]; assumption)))⟩, (show n - (k + 1) < n - k by omega)⟩ ⟨rfl, rfl, trivial⟩ ⟨rfl, trivial⟩ (kE4 rfl rfl rfl rfl trivial) (kL1 rfl trivial))))
  refine TL.done (TQ.then (TC.condF rfl (TC.skip (TQ.then (TC.seq (TC.seq (TC.ownW 1 rfl (fun a9 g9 c9 hv9 hc9 ha9 => ?_))))))))
  cases hv9
  refine TC.region (xmi rfl (xmv rfl (xmi rfl (TL.iaO rfl ha9 rfl fc_l77_3_1 (by first | exact hK.lt | omega) rfl rfl (TL.ldRS 1 (.int _ _) rfl rfl (own_rowOf ha9) (by first | exact hK.lt | omega) (rfl) fc_s3 rfl rfl (TL.eql rfl rfl rfl rfl (fun q4 => ?_) (fun q4 => ?_)))))))
  refine xmt rfl (xmv rfl (xmi rfl (TL.callD [1] [1] (has10_ok ha9 (own_rowOf ha9) (by first | (have := hK.ji.size; omega) | (have := hJ.size; omega))) ⟨rfl, rfl, trivial⟩ ⟨rfl, trivial⟩ fc_c109 rfl rfl rfl rfl rfl trivial (TL.cases rfl (fun q5 => ?_) (fun q5 => ?_)))))
  refine xnt rfl (xpG rfl (TL.done (TQ.then (TC.condF rfl (TC.skip (TQ.then (TC.seq ?_)))))))
  first | have hm1 := hK.mA (hasN_mem.1 (by assumption)) | have hm1 := hK.mB | have hm1 := hK.mC (by assumption)
  refine TC.ownW 1 rfl (fun a9 g9 c9 hv9 hc9 ha9 => ?_)
  cases hv9
  refine TC.region (xmi rfl (xmv rfl (xmi rfl (TL.iaO rfl ha9 rfl fc_l77_3_1 (by first | exact hK.lt | omega) rfl rfl (TL.ldRS 1 (.int _ _) rfl rfl (own_rowOf ha9) (by first | exact hK.lt | omega) (rfl) fc_s3 rfl rfl (TL.eql rfl rfl rfl rfl (fun q6 => ?_) (fun q6 => ?_)))))))
  refine xmt rfl (xmv rfl (xmi rfl (TL.callD [1] [1] (has10_ok ha9 (own_rowOf ha9) (by first | (have := hK.ji.size; omega) | (have := hJ.size; omega))) ⟨rfl, rfl, trivial⟩ ⟨rfl, trivial⟩ fc_c109 rfl rfl rfl rfl rfl trivial (TL.cases rfl (fun q7 => ?_) (fun q7 => ?_)))))
  refine xnt rfl (xpG rfl (TL.done (TQ.then (TC.condF rfl (TC.skip (TQ.inBlock (TQ.then (TC.region ?_))))))))
  refine xmi rfl (TL.add (((k + 1 : Nat) : Int)) rfl rfl (wrN (by omega)) rfl rfl (xai rfl (TL.done (TQ.roundK ((k + 1, _, _)) ⟨⟨(show k + 1 ≤ n by omega), (by first | exact hK.skip (by assumption) | exact hK.next (fun e => by first | exact hm1 e | exact mem_app.2 (.inl (hm1 e))) (fun e => by first | exact hasN_mem.1 (by assumption) | exact mem_app.2 (.inr rfl) | exact absurd e (by rw [← hK.hx]; assumption)))⟩, (show n - (k + 1) < n - k by omega)⟩ ⟨rfl, rfl, trivial⟩ ⟨rfl, trivial⟩ (kE4 rfl rfl rfl rfl trivial) (kL1 rfl trivial)))))
  refine xnf rfl (xpT rfl (TL.done (TQ.then (TC.condT rfl (TC.region (xmv rfl (xmi rfl (TL.bsN 2 [_] (encI (f k).1) fc_l77_3_1 fc_z3 ⟨rfl, trivial⟩ rfl (lit1 rfl) rfl rfl (fun bk2 => ⟨trivial, ?_⟩)))))))))
  refine TL.appS 1 2 (d2 := #[(f k).1]) rfl (rfl) rfl (fun _ => rfl) rfl rfl (row1 rfl) encI_one (by decide) fc_k77_3_1 (by have := hK.ji.size; simp at this ⊢; omega) rfl rfl (fun v3 => ⟨trivial, ?_⟩)
  replace hK := hK.push (by omega) (by omega) (.inr ⟨by rw [← hK.hx]; assumption, rfl⟩) (fun hm => absurd (hasN_mem.2 hm) (by rw [Bool.not_eq_true]; assumption))
  refine xav rfl (dI (xmi rfl (TL.add (((k + 1 : Nat) : Int)) rfl rfl (wrN (by omega)) rfl rfl (xai rfl (TL.done (TQ.roundK ((k + 1, _, _)) ⟨⟨(show k + 1 ≤ n by omega), (by first | exact hK.skip (by assumption) | exact hK.next (fun e => by first | exact hm1 e | exact mem_app.2 (.inl (hm1 e))) (fun e => by first | exact hasN_mem.1 (by assumption) | exact mem_app.2 (.inr rfl) | exact absurd e (by rw [← hK.hx]; assumption)))⟩, (show n - (k + 1) < n - k by omega)⟩ ⟨rfl, rfl, trivial⟩ ⟨rfl, trivial⟩ (kE4 rfl rfl rfl rfl trivial) (kL1 rfl trivial)))))))
  refine xmf rfl (xo rfl (xo rfl (xo rfl (xo rfl (xpF rfl (TL.done (TQ.then (TC.condF rfl ?_))))))))
  refine TC.skip (TQ.inBlock (TQ.then (TC.region (xmi rfl (TL.add (((k + 1 : Nat) : Int)) rfl rfl (wrN (by omega)) rfl rfl (xai rfl (TL.done (TQ.roundK ((k + 1, _, _)) ⟨⟨(show k + 1 ≤ n by omega), (by first | exact hK.skip (by assumption) | exact hK.next (fun e => by first | exact hm1 e | exact mem_app.2 (.inl (hm1 e))) (fun e => by first | exact hasN_mem.1 (by assumption) | exact mem_app.2 (.inr rfl) | exact absurd e (by rw [← hK.hx]; assumption)))⟩, (show n - (k + 1) < n - k by omega)⟩ ⟨rfl, rfl, trivial⟩ ⟨rfl, trivial⟩ (kE4 rfl rfl rfl rfl trivial) (kL1 rfl trivial)))))))))
  refine xnf rfl (xpT rfl (TL.done (TQ.then (TC.condT rfl (TC.region (xmv rfl (xmi rfl (TL.bsN 4 [_] (encI (f k).2) fc_l77_3_1 fc_z3 ⟨rfl, trivial⟩ rfl (lit1 rfl) rfl rfl (fun bk4 => ⟨trivial, ?_⟩)))))))))
  refine TL.appS 1 4 (d2 := #[(f k).2]) rfl (rfl) rfl (fun _ => rfl) rfl rfl (row1 rfl) encI_one (by decide) fc_k77_3_1 (by have := hK.ji.size; simp at this ⊢; omega) rfl rfl (fun v5 => ⟨trivial, ?_⟩)
  replace hK := hK.push (by omega) (by omega) (.inl ⟨by rw [← hK.hx]; assumption, rfl⟩) (fun hm => absurd (hasN_mem.2 hm) (by rw [Bool.not_eq_true]; assumption))
  refine xav rfl (dS ?_)
  first | have hm1 := hK.mA (hasN_mem.1 (by assumption)) | have hm1 := hK.mB | have hm1 := hK.mC (by assumption)
  refine TC.ownW 1 rfl (fun a9 g9 c9 hv9 hc9 ha9 => ?_)
  cases hv9
  refine TC.region (xmi rfl (xmv rfl (xmi rfl (TL.iaO rfl ha9 rfl fc_l77_3_1 (by first | exact hK.lt | omega) rfl rfl (TL.ldRS 1 (.int _ _) rfl rfl (own_rowOf ha9) (by first | exact hK.lt | omega) (rfl) fc_s3 rfl rfl (TL.eql rfl rfl rfl rfl (fun q6 => ?_) (fun q6 => ?_)))))))
  refine xmt rfl (xmv rfl (xmi rfl (TL.callD [1] [1] (has10_ok ha9 (own_rowOf ha9) (by first | (have := hK.ji.size; omega) | (have := hJ.size; omega))) ⟨rfl, rfl, trivial⟩ ⟨rfl, trivial⟩ fc_c109 rfl rfl rfl rfl rfl trivial (TL.cases rfl (fun q7 => ?_) (fun q7 => ?_)))))
  refine xnt rfl (xpG rfl (TL.done (TQ.then (TC.condF rfl (TC.skip (TQ.inBlock (TQ.then (TC.region ?_))))))))
  refine xmi rfl (TL.add (((k + 1 : Nat) : Int)) rfl rfl (wrN (by omega)) rfl rfl (xai rfl (TL.done (TQ.roundK ((k + 1, _, _)) ⟨⟨(show k + 1 ≤ n by omega), (by first | exact hK.skip (by assumption) | exact hK.next (fun e => by first | exact hm1 e | exact mem_app.2 (.inl (hm1 e))) (fun e => by first | exact hasN_mem.1 (by assumption) | exact mem_app.2 (.inr rfl) | exact absurd e (by rw [← hK.hx]; assumption)))⟩, (show n - (k + 1) < n - k by omega)⟩ ⟨rfl, rfl, trivial⟩ ⟨rfl, trivial⟩ (kE4 rfl rfl rfl rfl trivial) (kL1 rfl trivial)))))
  refine xnf rfl (xpT rfl (TL.done (TQ.then (TC.condT rfl (TC.region (xmv rfl (xmi rfl (TL.bsN 6 [_] (encI (f k).1) fc_l77_3_1 fc_z3 ⟨rfl, trivial⟩ rfl (lit1 rfl) rfl rfl (fun bk6 => ⟨trivial, ?_⟩)))))))))
  refine TL.appS 1 6 (d2 := #[(f k).1]) rfl (rfl) rfl (fun _ => rfl) rfl rfl (row1 rfl) encI_one (by decide) fc_k77_3_1 (by have := hK.ji.size; simp at this ⊢; omega) rfl rfl (fun v7 => ⟨trivial, ?_⟩)
  replace hK := hK.push (by omega) (by omega) (.inr ⟨by rw [← hK.hx]; assumption, rfl⟩) (fun hm => absurd (hasN_mem.2 hm) (by rw [Bool.not_eq_true]; assumption))
  refine xav rfl (dI (xmi rfl (TL.add (((k + 1 : Nat) : Int)) rfl rfl (wrN (by omega)) rfl rfl (xai rfl (TL.done (TQ.roundK ((k + 1, _, _)) ⟨⟨(show k + 1 ≤ n by omega), (by first | exact hK.skip (by assumption) | exact hK.next (fun e => by first | exact hm1 e | exact mem_app.2 (.inl (hm1 e))) (fun e => by first | exact hasN_mem.1 (by assumption) | exact mem_app.2 (.inr rfl) | exact absurd e (by rw [← hK.hx]; assumption)))⟩, (show n - (k + 1) < n - k by omega)⟩ ⟨rfl, rfl, trivial⟩ ⟨rfl, trivial⟩ (kE4 rfl rfl rfl rfl trivial) (kL1 rfl trivial)))))))
  refine xmf rfl (xo rfl (xo rfl (xo rfl (xo rfl (xpF rfl (TL.done (TQ.then (TC.condF rfl ?_))))))))
  refine TC.skip (TQ.inBlock (TQ.then (TC.region (xmi rfl (TL.add (((k + 1 : Nat) : Int)) rfl rfl (wrN (by omega)) rfl rfl (xai rfl (TL.done (TQ.roundK ((k + 1, _, _)) ⟨⟨(show k + 1 ≤ n by omega), (by first | exact hK.skip (by assumption) | exact hK.next (fun e => by first | exact hm1 e | exact mem_app.2 (.inl (hm1 e))) (fun e => by first | exact hasN_mem.1 (by assumption) | exact mem_app.2 (.inr rfl) | exact absurd e (by rw [← hK.hx]; assumption)))⟩, (show n - (k + 1) < n - k by omega)⟩ ⟨rfl, rfl, trivial⟩ ⟨rfl, trivial⟩ (kE4 rfl rfl rfl rfl trivial) (kL1 rfl trivial)))))))))
  refine xmf rfl (xo rfl (xo rfl (xo rfl (xo rfl (xpF rfl (TL.done (TQ.then (TC.condF rfl ?_))))))))
  refine TC.skip (TQ.then (TC.seq ?_))
  first | have hm1 := hK.mA (hasN_mem.1 (by assumption)) | have hm1 := hK.mB | have hm1 := hK.mC (by assumption)
  refine TC.ownW 1 rfl (fun a9 g9 c9 hv9 hc9 ha9 => ?_)
  cases hv9
  refine TC.region (xmi rfl (xmv rfl (xmi rfl (TL.iaO rfl ha9 rfl fc_l77_3_1 (by first | exact hK.lt | omega) rfl rfl (TL.ldRS 1 (.int _ _) rfl rfl (own_rowOf ha9) (by first | exact hK.lt | omega) (rfl) fc_s3 rfl rfl (TL.eql rfl rfl rfl rfl (fun q5 => ?_) (fun q5 => ?_)))))))
  refine xmt rfl (xmv rfl (xmi rfl (TL.callD [1] [1] (has10_ok ha9 (own_rowOf ha9) (by first | (have := hK.ji.size; omega) | (have := hJ.size; omega))) ⟨rfl, rfl, trivial⟩ ⟨rfl, trivial⟩ fc_c109 rfl rfl rfl rfl rfl trivial (TL.cases rfl (fun q6 => ?_) (fun q6 => ?_)))))
  refine xnt rfl (xpG rfl (TL.done (TQ.then (TC.condF rfl (TC.skip (TQ.inBlock (TQ.then (TC.region ?_))))))))
  refine xmi rfl (TL.add (((k + 1 : Nat) : Int)) rfl rfl (wrN (by omega)) rfl rfl (xai rfl (TL.done (TQ.roundK ((k + 1, _, _)) ⟨⟨(show k + 1 ≤ n by omega), (by first | exact hK.skip (by assumption) | exact hK.next (fun e => by first | exact hm1 e | exact mem_app.2 (.inl (hm1 e))) (fun e => by first | exact hasN_mem.1 (by assumption) | exact mem_app.2 (.inr rfl) | exact absurd e (by rw [← hK.hx]; assumption)))⟩, (show n - (k + 1) < n - k by omega)⟩ ⟨rfl, rfl, trivial⟩ ⟨rfl, trivial⟩ (kE4 rfl rfl rfl rfl trivial) (kL1 rfl trivial)))))
  refine xnf rfl (xpT rfl (TL.done (TQ.then (TC.condT rfl (TC.region (xmv rfl (xmi rfl (TL.bsN 8 [_] (encI (f k).1) fc_l77_3_1 fc_z3 ⟨rfl, trivial⟩ rfl (lit1 rfl) rfl rfl (fun bk8 => ⟨trivial, ?_⟩)))))))))
  refine TL.appS 1 8 (d2 := #[(f k).1]) rfl (rfl) rfl (fun _ => rfl) rfl rfl (row1 rfl) encI_one (by decide) fc_k77_3_1 (by have := hK.ji.size; simp at this ⊢; omega) rfl rfl (fun v9 => ⟨trivial, ?_⟩)
  replace hK := hK.push (by omega) (by omega) (.inr ⟨by rw [← hK.hx]; assumption, rfl⟩) (fun hm => absurd (hasN_mem.2 hm) (by rw [Bool.not_eq_true]; assumption))
  refine xav rfl (dI (xmi rfl (TL.add (((k + 1 : Nat) : Int)) rfl rfl (wrN (by omega)) rfl rfl (xai rfl (TL.done (TQ.roundK ((k + 1, _, _)) ⟨⟨(show k + 1 ≤ n by omega), (by first | exact hK.skip (by assumption) | exact hK.next (fun e => by first | exact hm1 e | exact mem_app.2 (.inl (hm1 e))) (fun e => by first | exact hasN_mem.1 (by assumption) | exact mem_app.2 (.inr rfl) | exact absurd e (by rw [← hK.hx]; assumption)))⟩, (show n - (k + 1) < n - k by omega)⟩ ⟨rfl, rfl, trivial⟩ ⟨rfl, trivial⟩ (kE4 rfl rfl rfl rfl trivial) (kL1 rfl trivial)))))))
  refine xmf rfl (xo rfl (xo rfl (xo rfl (xo rfl (xpF rfl (TL.done (TQ.then (TC.condF rfl ?_))))))))
  refine TC.skip (TQ.inBlock (TQ.then (TC.region (xmi rfl (TL.add (((k + 1 : Nat) : Int)) rfl rfl (wrN (by omega)) rfl rfl (xai rfl (TL.done (TQ.roundK ((k + 1, _, _)) ⟨⟨(show k + 1 ≤ n by omega), (by first | exact hK.skip (by assumption) | exact hK.next (fun e => by first | exact hm1 e | exact mem_app.2 (.inl (hm1 e))) (fun e => by first | exact hasN_mem.1 (by assumption) | exact mem_app.2 (.inr rfl) | exact absurd e (by rw [← hK.hx]; assumption)))⟩, (show n - (k + 1) < n - k by omega)⟩ ⟨rfl, rfl, trivial⟩ ⟨rfl, trivial⟩ (kE4 rfl rfl rfl rfl trivial) (kL1 rfl trivial)))))))))
  refine TL.done (TQ.then (TC.condF rfl (TC.exit (TQ.thenExit (TQ.thenExit (TQ.blockHere (TQ.inBlock (TQ.then ?_))))))))
  refine TC.region (xmi rfl (TL.add (((i + 1 : Nat) : Int)) rfl rfl (wrN (by have := hJ.size; omega)) rfl rfl (xai rfl (TL.done (TQ.roundK ((i + 1, _, _)) ⟨(by obtain rfl : k = n := (by omega); exact JK.done hK), (by have := hJ.size; have := hJ.le; show 2 * n + 1 - (i + 1) < 2 * n + 1 - i; omega)⟩ ⟨rfl, rfl, trivial⟩ ⟨rfl, trivial⟩ (kE3 rfl rfl rfl trivial) (kL1 rfl trivial))))))
  refine dE rfl (TC.seq (TC.ownW 1 rfl (fun a9 g9 c9 hv9 hc9 ha9 => ?_)))
  cases hv9
  refine TC.region (xmv rfl (xmi rfl (TL.callD [1] [1] (has10_ok ha9 (own_rowOf ha9) (by first | (have := hK.ji.size; omega) | (have := hJ.size; omega))) ⟨rfl, rfl, trivial⟩ ⟨rfl, trivial⟩ fc_c109 rfl rfl rfl rfl rfl trivial (xab rfl (dR ?_)))))
  refine FQ.ret1 (v := (.bool _)) (Bs := [A]) [0] rfl rfl rfl ⟨rfl, trivial⟩ ?_
  exact ⟨congrArg Value.bool (JI.closed hJ (by omega)), rfl⟩

theorem slot13_ok {pb ab : Nat} {v : Value} {d : Array EdR} {l : Lay} (hl : l.Ok) (hd : d.size ≤ 100) {s : Int}  : FnD Tryz.prog 23 [.pointer (some ⟨pb, 0, none⟩), .int .i64 s] [pt pb (.cells #[.int .i64 l.V, .int .i64 l.S, .int .i64 l.T, .pointer (some ⟨ab, 0, none⟩), .int .i64 l.V, .int .i64 l.S, .int .i64 l.T, .iface 107 (.agg #[.pointer (some ⟨ab, 0, none⟩)]), .int .i64 1, .int .i64 0, .int .i64 l.V, .int .i64 l.S, .int .i64 l.T, .iface 107 (.agg #[.pointer (some ⟨ab, 0, none⟩)]), v] 54), ownA encE 5 65 v d] (.int .i64 (slotN (fun i => d[i]!) s d.size)) [pt pb (.cells #[.int .i64 l.V, .int .i64 l.S, .int .i64 l.T, .pointer (some ⟨ab, 0, none⟩), .int .i64 l.V, .int .i64 l.S, .int .i64 l.T, .iface 107 (.agg #[.pointer (some ⟨ab, 0, none⟩)]), .int .i64 1, .int .i64 0, .int .i64 l.V, .int .i64 l.S, .int .i64 l.T, .iface 107 (.agg #[.pointer (some ⟨ab, 0, none⟩)]), v] 54), ownA encE 5 65 v d] := by
  refine Fn.enter (Tryz.func23) rfl rfl (fun w0 R => ?_)
  refine sA (xai rfl (dS (TC.seq (TC.ownW 1 rfl (fun a9 g9 c9 hv9 hc9 ha9 => ?_)))))
  cases hv9
  refine TC.region (xmp rfl (xN0 rfl (xf 14 fc_f54_3_14 rfl (xlv 0 fc_s52 rfl rfl (xz fc_l52_65_5 rfl (xmi rfl (dK (TC.loopK (X := Nat) [1, 10, 11] [0, 1] (fun i => [(12, .int .i64 ((i : Nat) : Int))]) (fun i => []) (fun i => i ≤ d.size ∧ ∀ j, j < i → d[j]!.slot ≠ s) (fun i => d.size - i) (0) ⟨Nat.zero_le _, fun j hj => absurd hj (Nat.not_lt_zero _)⟩ ⟨rfl, trivial⟩ trivial (fun i hI => ?_)))))))))
  obtain ⟨hi, hno⟩ := hI
  refine TC.sub (env' := [(12, _), (1, _), (10, _), (11, _)]) (L' := [(0, _), (1, _)]) ⟨rfl, rfl, rfl, rfl, trivial⟩ ⟨rfl, rfl, trivial⟩ (sA (TL.lss rfl rfl rfl rfl (fun q1 => ?_) (fun q1 => ?_)))
  refine dS (TC.condT rfl (TC.skip (TQ.then (TC.seq (TC.block (sA (xmi rfl (TL.iaO rfl ha9 rfl fc_l52_65_5 (by omega) rfl rfl ?_))))))))
  refine TL.ldRx 1 [_, _, _, _, _] rfl rfl (own_rowOf ha9) (by omega) rfl fc_a65_5 rfl rfl (TL.alloc 2 (cs := #[.int .i64 0, .int .i64 0, .int .i64 0, .int .i64 0, .bool false]) fc_z65 rfl rfl rfl (fun _ => trivial) (fun bk2 => (xai rfl (TL.stW 2 5 [_, _, _, _, _] rfl rfl rfl rfl rfl rfl fc_a65_5 rfl rfl trivial (dA (xf 0 fc_f65_0_0 rfl (xli 2 fc_s3 rfl rfl (xmi rfl (TL.eql rfl rfl rfl rfl (fun q2 => ?_) (fun q2 => ?_))))))))))
  refine dT rfl (xmi rfl (xai rfl (dR (TQ.blockRet (TQ.thenRet (TQ.thenRet (TQ.blockRet (TQ.thenRet ?_))))))))
  refine FQ.ret1 (v := (.int _ _)) (Bs := [_, _]) [0, 1] rfl rfl rfl ⟨rfl, rfl, trivial⟩ ?_
  exact ⟨iE (slotN_at (i := i) (by omega) (by assumption) hno).symm, rfl⟩
  refine TL.done (TQ.then (TC.condF rfl (TC.skip (TQ.inBlock (TQ.then (TC.region (TL.add (((i + 1 : Nat) : Int)) rfl rfl (wrN (by omega)) rfl rfl (xmi rfl ?_))))))))
  refine TL.done (TQ.roundK (i + 1) ⟨⟨by omega, fun j hj => by by_cases he : j = i; subst he; assumption; exact hno j (by omega)⟩, by omega⟩ ⟨rfl, trivial⟩ trivial (kE3 rfl rfl rfl trivial) (kL2 rfl rfl trivial))
  refine dS (TC.condF rfl (TC.exit (TQ.thenExit (TQ.thenExit (TQ.blockHere (TQ.then (sA (xai rfl ?_))))))))
  refine dR ?_
  refine FQ.ret1 (v := (.int _ _)) (Bs := [_, _]) [0, 1] rfl rfl rfl ⟨rfl, rfl, trivial⟩ ?_
  exact ⟨iE (slotN_no (fun j hj => hno j (by omega))).symm, rfl⟩

theorem forest13_ok {pb ab : Nat} {v : Value} {d : Array EdR} {l : Lay} (hl : l.Ok) (hd : d.size ≤ 100) {lv u w : Int}  : FnD Tryz.prog 24 [.pointer (some ⟨pb, 0, none⟩), .int .i64 lv, .int .i64 u, .int .i64 w] [pt pb (.cells #[.int .i64 l.V, .int .i64 l.S, .int .i64 l.T, .pointer (some ⟨ab, 0, none⟩), .int .i64 l.V, .int .i64 l.S, .int .i64 l.T, .iface 107 (.agg #[.pointer (some ⟨ab, 0, none⟩)]), .int .i64 1, .int .i64 0, .int .i64 l.V, .int .i64 l.S, .int .i64 l.T, .iface 107 (.agg #[.pointer (some ⟨ab, 0, none⟩)]), v] 54), ownA encE 5 65 v d] (.bool (forestB d lv u w)) [pt pb (.cells #[.int .i64 l.V, .int .i64 l.S, .int .i64 l.T, .pointer (some ⟨ab, 0, none⟩), .int .i64 l.V, .int .i64 l.S, .int .i64 l.T, .iface 107 (.agg #[.pointer (some ⟨ab, 0, none⟩)]), .int .i64 1, .int .i64 0, .int .i64 l.V, .int .i64 l.S, .int .i64 l.T, .iface 107 (.agg #[.pointer (some ⟨ab, 0, none⟩)]), v] 54), ownA encE 5 65 v d] := by
  refine Fn.enter (Tryz.func24) rfl rfl (fun w0 R => ?_)
  refine sA (xaf rfl (dA (TL.asg (.slice none 0 0) rfl rfl rfl (dS (TC.seq (TC.nilA 2 (A := ownA encP 2 70 (.slice none 0 0) #[]) (.inl ⟨rfl, rfl⟩) (TC.ownW 1 rfl (fun a9 g9 c9 hv9 hc9 ha9 => ?_))))))))
  cases hv9
  refine TC.region (xmp rfl (xN0 rfl (xf 14 fc_f54_3_14 rfl (xlv 0 fc_s52 rfl rfl (xz fc_l52_65_5 rfl (xmi rfl (dK (TC.loopK (X := Nat × Value) [1, 2, 3, 8, 15, 16] [0, 1] (fun ⟨i, x⟩ => [(17, .int .i64 ((i : Nat) : Int)), (9, x)]) (fun ⟨i, x⟩ => [(2, ownA encP 2 70 x (grN (fun i => d[i]!) lv i))]) (fun ⟨i, x⟩ => i ≤ d.size) (fun ⟨i, x⟩ => d.size - i) ((0, .slice none 0 0)) (Nat.zero_le _) ⟨rfl, rfl, trivial⟩ ⟨rfl, trivial⟩ (fun y hI => ?_)))))))))
  obtain ⟨i, x⟩ := y
  replace hI : i ≤ d.size := hI
  refine TC.sub (env' := [(17, _), (9, _), (1, _), (2, _), (3, _), (8, _), (15, _), (16, _)]) (L' := [(2, _), (0, _), (1, _)]) ⟨rfl, rfl, rfl, rfl, rfl, rfl, rfl, rfl, trivial⟩ ⟨rfl, rfl, rfl, trivial⟩ (sA (TL.lss rfl rfl rfl rfl (fun q1 => ?_) (fun q1 => ?_)))
  refine dS (TC.condT rfl (TC.skip (TQ.then (TC.seq (TC.block (sA (TL.iaO rfl ha9 rfl fc_l52_65_5 (by omega) rfl rfl (TL.ldRx 1 [_, _, _, _, _] rfl rfl (own_rowOf ha9) (by omega) rfl fc_a65_5 rfl rfl ?_))))))))
  refine TL.alloc 3 (cs := #[.int .i64 0, .int .i64 0, .int .i64 0, .int .i64 0, .bool false]) fc_z65 rfl rfl rfl (fun _ => trivial) (fun bk3 => (TL.stW 3 5 [_, _, _, _, _] rfl rfl rfl rfl rfl rfl fc_a65_5 rfl rfl trivial (dA (xf 4 fc_f65_4_4 rfl (xlb 3 fc_s4 rfl rfl (xmb rfl (TL.cases rfl (fun q2 => ?_) (fun q2 => ?_))))))))
  refine xf 3 fc_f65_3_3 rfl (xli 3 fc_s3 rfl rfl (xmi rfl (TL.geq rfl rfl rfl rfl (fun q3 => ?_) (fun q3 => ?_))))
  refine xpT rfl (TL.done (TQ.then (TC.condT rfl (TC.region (xmv rfl (xf 1 fc_f65_1_1 rfl (xli 3 fc_s3 rfl rfl (xf 2 fc_f65_2_2 rfl ?_))))))))
  refine xli 3 fc_s3 rfl rfl (TL.bldA [.int .i64 0, .int .i64 0] [(.int _ _), (.int _ _)] [_, _] fc_z70 fc_r70_2_3_1 ⟨rfl, rfl, trivial⟩ ⟨rfl, rfl⟩ rfl rfl (TL.bsN 4 [_] (encP (d[i]!.u, d[i]!.v)) fc_l122_70_2 fc_z70 ⟨rfl, trivial⟩ rfl (lit1 rfl) rfl rfl (fun bk4 => ⟨trivial, ?_⟩)))
  refine TL.appS 2 4 (d2 := #[(d[i]!.u, d[i]!.v)]) rfl (rfl) rfl (fun _ => rfl) rfl rfl (row1 rfl) encP_one (by decide) fc_k122_70_2 (by have := grN_len (f := (fun i => d[i]!)) (lv := lv) (n := i); simp; omega) rfl rfl (fun v5 => ⟨trivial, ?_⟩)
  refine xav rfl (dI (TL.add (((i + 1 : Nat) : Int)) rfl rfl (wrN (by omega)) rfl rfl (xmi rfl (TL.done (TQ.roundK ((i + 1, _)) ⟨(show i + 1 ≤ d.size by omega), (show d.size - (i + 1) < d.size - i by omega)⟩ ⟨rfl, rfl, trivial⟩ ⟨congrArg (fun z => some (ownA encP 2 70 _ z)) (grN_T (f := (fun i => d[i]!)) (by assumption) (by omega)), trivial⟩ (kE6 rfl rfl rfl rfl rfl rfl trivial) (kL2 rfl rfl trivial))))))
  refine xpG rfl (TL.done (TQ.then (TC.condF rfl (TC.skip (TQ.inBlock (TQ.then (TC.region (TL.add (((i + 1 : Nat) : Int)) rfl rfl (wrN (by omega)) rfl rfl ?_))))))))
  refine xmi rfl (TL.done (TQ.roundK ((i + 1, _)) ⟨(show i + 1 ≤ d.size by omega), (show d.size - (i + 1) < d.size - i by omega)⟩ ⟨rfl, rfl, trivial⟩ ⟨congrArg (fun z => some (ownA encP 2 70 _ z)) (grN_F (f := (fun i => d[i]!)) (fun hc => by have := hc.2; omega)), trivial⟩ (kE6 rfl rfl rfl rfl rfl rfl trivial) (kL2 rfl rfl trivial)))
  refine xo rfl (xo rfl (xo rfl (xo rfl (xpF rfl (TL.done (TQ.then (TC.condF rfl (TC.skip ?_))))))))
  refine TQ.inBlock (TQ.then (TC.region (TL.add (((i + 1 : Nat) : Int)) rfl rfl (wrN (by omega)) rfl rfl (xmi rfl (TL.done (TQ.roundK ((i + 1, _)) ⟨(show i + 1 ≤ d.size by omega), (show d.size - (i + 1) < d.size - i by omega)⟩ ⟨rfl, rfl, trivial⟩ ⟨congrArg (fun z => some (ownA encP 2 70 _ z)) (grN_F (f := (fun i => d[i]!)) (fun hc => by have := hc.1; simp_all)), trivial⟩ (kE6 rfl rfl rfl rfl rfl rfl trivial) (kL2 rfl rfl trivial)))))))
  refine dS (TC.condF rfl (TC.exit (TQ.thenExit (TQ.thenExit (TQ.blockHere (TQ.then (TC.seq ?_)))))))
  obtain rfl : i = d.size := by omega
  have hgl := grN_len (f := (fun i => d[i]!)) (lv := lv) (n := d.size)
  refine TC.ownW 2 rfl (fun a8 g8 c8 hv8 hc8 ha8 => ?_)
  cases hv8
  refine TC.region (xmv rfl (xmi rfl (xmi rfl (TL.callD [2] [2] (gjoin_ok ha8 (own_rowOf ha8) (by omega)) ⟨rfl, rfl, rfl, trivial⟩ ⟨rfl, trivial⟩ fc_c69 rfl rfl rfl rfl rfl trivial (xab rfl (dR ?_))))))
  refine FQ.ret1 (v := (.bool _)) (Bs := [_, _]) [0, 1] rfl rfl rfl ⟨rfl, rfl, trivial⟩ ?_
  exact ⟨rfl, rfl⟩

set_option maxHeartbeats 1000000 in
theorem put13_ok {pb ab mb : Nat} {σ : M} {v : Value} {d : Array EdR} {l : Lay} (hl : l.Ok) (hd : d.size ≤ 100) {o : OpR} {k : Nat} {σ2 : M} {d2 : Array EdR} (h : putA l k σ d o = some (σ2, d2))  : Go.Eng.Fn Tryz.prog 57 [.pointer (some ⟨pb, 0, none⟩), .agg #[.int .i64 o.kind, .int .i64 o.slot, .int .i64 o.u, .int .i64 o.v]] [pt pb (.cells #[.int .i64 l.V, .int .i64 l.S, .int .i64 l.T, .pointer (some ⟨ab, 0, none⟩), .int .i64 l.V, .int .i64 l.S, .int .i64 l.T, .iface 107 (.agg #[.pointer (some ⟨ab, 0, none⟩)]), .int .i64 1, .int .i64 0, .int .i64 l.V, .int .i64 l.S, .int .i64 l.T, .iface 107 (.agg #[.pointer (some ⟨ab, 0, none⟩)]), v] 54), arenaA ab mb 149 110 (σ), ownA encE 5 65 v d] (fun x Bs => x = .tuple #[] ∧ ∃ v2, Bs = [pt pb (.cells #[.int .i64 l.V, .int .i64 l.S, .int .i64 l.T, .pointer (some ⟨ab, 0, none⟩), .int .i64 l.V, .int .i64 l.S, .int .i64 l.T, .iface 107 (.agg #[.pointer (some ⟨ab, 0, none⟩)]), .int .i64 1, .int .i64 0, .int .i64 l.V, .int .i64 l.S, .int .i64 l.T, .iface 107 (.agg #[.pointer (some ⟨ab, 0, none⟩)]), v2] 54), arenaA ab mb 149 110 (σ2), ownA encE 5 65 v2 (d2)]) := by
  refine Fn.enter (Tryz.func57) rfl rfl (fun w0 R => ?_)
  refine sA (xB 3 rfl (fun bk3 => (dS (TC.draw [(0, true), (1, true), (2, true), (3, true), (4, true), (5, true), (6, true), (7, true), (8, true), (9, true), (10, true), (11, true)] [3] fc_m (by kernel_rfl) (xf 2 fc_f33_2_2 rfl (xli 3 fc_s3 rfl rfl (xf 3 fc_f33_3_3 rfl (xli 3 fc_s3 rfl rfl (TL.min2 rfl rfl rfl rfl ?_)))))))))
  refine xf 2 fc_f33_2_2 rfl (xli 3 fc_s3 rfl rfl (xf 3 fc_f33_3_3 rfl (xli 3 fc_s3 rfl rfl (TL.max2 rfl rfl rfl rfl (xai rfl (xai rfl (dS (TC.seq ?_))))))))
  refine TC.ownW 2 rfl (fun a9 g9 c9 hv9 hc9 ha9 => ?_)
  cases hv9
  refine TC.region (xmp rfl (xN0 rfl (xf 14 fc_f54_3_14 rfl (xlv 0 fc_s52 rfl rfl (xz fc_l52_65_5 rfl (xmi rfl (dK (TC.loopK (X := Nat) [0, 3, 4, 5, 22, 23] [0, 1, 2, 3] (fun i => [(24, .int .i64 ((i : Nat) : Int))]) (fun i => []) (fun i => i ≤ d.size ∧ ∀ j, j < i → ¬ (d[j]!.u = (min o.u o.v) ∧ d[j]!.v = (max o.u o.v))) (fun i => d.size - i) (0) ⟨Nat.zero_le _, fun j hj => absurd hj (Nat.not_lt_zero _)⟩ ⟨rfl, trivial⟩ trivial (fun i hI => ?_)))))))))
  obtain ⟨hi, hno⟩ := hI
  refine TC.sub (env' := [(24, _), (0, _), (3, _), (4, _), (5, _), (22, _), (23, _)]) (L' := [(0, _), (1, _), (2, _), (3, _)]) ⟨rfl, rfl, rfl, rfl, rfl, rfl, rfl, trivial⟩ ⟨rfl, rfl, rfl, rfl, trivial⟩ (sA (TL.lss rfl rfl rfl rfl (fun q1 => ?_) (fun q1 => ?_)))
  refine dS (TC.condT rfl (TC.skip (TQ.then (TC.seq (TC.block (sA (TL.iaO rfl ha9 rfl fc_l52_65_5 (by omega) rfl rfl (TL.ldRx 2 [_, _, _, _, _] rfl rfl (own_rowOf ha9) (by omega) rfl fc_a65_5 rfl rfl ?_))))))))
  refine TL.alloc 4 (cs := #[.int .i64 0, .int .i64 0, .int .i64 0, .int .i64 0, .bool false]) fc_z65 rfl rfl rfl (fun _ => trivial) (fun bk4 => (TL.stW 4 5 [_, _, _, _, _] rfl rfl rfl rfl rfl rfl fc_a65_5 rfl rfl trivial (dA (xf 1 fc_f65_1_1 rfl (xli 4 fc_s3 rfl rfl (xmi rfl (TL.eql rfl rfl rfl rfl (fun q2 => ?_) (fun q2 => ?_))))))))
  refine xmt rfl (xf 2 fc_f65_2_2 rfl (xli 4 fc_s3 rfl rfl (xmi rfl (TL.eql rfl rfl rfl rfl (fun q3 => ?_) (fun q3 => ?_)))))
  refine xpT rfl (TL.done (TQ.then (TC.condT rfl (TC.ret (TQ.blockRet (TQ.thenRet (TQ.thenRet (TQ.blockRet ?_))))))))
  refine TQ.thenRet ?_
  refine FQ.ret0 (Bs := [_, _, _]) [0, 1, 2] rfl rfl ⟨rfl, rfl, rfl, trivial⟩ ?_
  rw [putA, if_pos ⟨i, by omega, by assumption, by assumption⟩] at h; cases h; exact ⟨rfl, _, rfl⟩
  refine xpG rfl (TL.done (TQ.then (TC.condF rfl (TC.skip (TQ.inBlock (TQ.then (TC.region (TL.add (((i + 1 : Nat) : Int)) rfl rfl (wrN (by omega)) rfl rfl ?_))))))))
  refine xmi rfl (TL.done (TQ.roundK (i + 1) ⟨⟨by omega, fun j hj hc => if he : j = i then (by subst he; first | exact absurd hc.2 (by assumption) | exact absurd hc.1 (by assumption)) else hno j (by omega) hc⟩, by omega⟩ ⟨rfl, trivial⟩ trivial (kE6 rfl rfl rfl rfl rfl rfl trivial) (kL4 rfl rfl rfl rfl trivial)))
  refine xmf rfl (xo rfl (xo rfl (xo rfl (xo rfl (xpF rfl (TL.done (TQ.then (TC.condF rfl ?_))))))))
  refine TC.skip (TQ.inBlock (TQ.then (TC.region (TL.add (((i + 1 : Nat) : Int)) rfl rfl (wrN (by omega)) rfl rfl (xmi rfl (TL.done (TQ.roundK (i + 1) ⟨⟨by omega, fun j hj hc => if he : j = i then (by subst he; first | exact absurd hc.2 (by assumption) | exact absurd hc.1 (by assumption)) else hno j (by omega) hc⟩, by omega⟩ ⟨rfl, trivial⟩ trivial (kE6 rfl rfl rfl rfl rfl rfl trivial) (kL4 rfl rfl rfl rfl trivial))))))))
  refine dS (TC.condF rfl (TC.exit (TQ.thenExit (TQ.thenExit (TQ.blockHere (TQ.then (TC.seq ?_)))))))
  have hdup : ¬ dupB d (min o.u o.v) (max o.u o.v) := fun ⟨j, hj, h1, h2⟩ => hno j (by omega) ⟨h1, h2⟩
  refine TC.region (xmp rfl (xmi rfl (xmi rfl (TL.callD [0, 2] [0, 2] (forest13_ok hl hd) ⟨rfl, rfl, rfl, rfl, trivial⟩ ⟨rfl, rfl, trivial⟩ fc_c24 rfl rfl rfl rfl rfl trivial (TL.not _ _ rfl rfl rfl rfl (xab rfl (dS (TC.draw [(0, true), (1, true), (2, true), (3, true), (4, true), (5, true), (6, true), (7, true), (8, true), (9, true), (10, true), (11, true), (12, false)] [0, 3] fc_m (by kernel_rfl) ?_))))))))
  refine xmp rfl (xN0 rfl (xf 4 fc_f54_2_4 rfl (xf 0 fc_f51_0_0 rfl (xf 6 fc_f49_1_6 rfl (xL4 0 fc_a47_4 rfl rfl (xf 1 fc_f33_1_1 rfl (xli 3 fc_s3 rfl rfl (xf 2 fc_f33_2_2 rfl ?_))))))))
  refine xli 3 fc_s3 rfl rfl (xf 3 fc_f33_3_3 rfl (xli 3 fc_s3 rfl rfl (TL.callD [1] [1] (eput_ok plainM hl) ⟨rfl, rfl, rfl, rfl, rfl, rfl, trivial⟩ ⟨rfl, trivial⟩ fc_c87 rfl rfl rfl rfl rfl (kL2 rfl rfl trivial) (dB (xmb rfl (TL.cases rfl (fun q2 => ?_) (fun q2 => ?_)))))))
  refine TL.done (TQ.then (TC.condT rfl (TC.draw [(0, true), (1, true), (2, true), (3, true), (4, true), (5, true), (6, false)] [0, 3] fc_m (by kernel_rfl) (xmp rfl (xN0 rfl (xf 4 fc_f54_2_4 rfl (xL10 0 fc_a51_10 rfl rfl (xf 1 fc_f33_1_1 rfl ?_))))))))
  refine xli 3 fc_s3 rfl rfl ?_
  rw [putA, if_neg hdup, if_neg (by rw [Bool.not_eq_true]; simpa using ‹(!forestB d 0 (min o.u o.v) (max o.u o.v)) = true›)] at h
  obtain ⟨σ3, h1, h2⟩ := Option.bind_eq_some_iff.1 h
  cases h2
  refine TL.callD [1] [1] (plant_ok (p := P1) plainM hl h1) ⟨rfl, rfl, trivial⟩ ⟨rfl, trivial⟩ fc_c32 rfl rfl rfl rfl rfl (kL2 rfl rfl trivial) (TL.done (TQ.then (TC.ownW 2 rfl (fun a9 g9 c9 hv9 hc9 ha9 => ?_))))
  cases hv9
  refine TC.draw2 [(0, true), (1, true), (2, true), (3, true), (4, true), (5, true), (6, true), (7, true), (8, true), (9, true), (10, true), (11, false), (12, false), (13, true), (14, true)] 15 [] [0, 3] fc_m (by kernel_rfl) (xmp rfl (xmp rfl (xN0 rfl (xf 14 fc_f54_3_14 rfl (xlv 0 fc_s52 rfl rfl (xf 1 fc_f33_1_1 rfl (xli 3 fc_s3 rfl rfl (xmi rfl ?_))))))))
  refine xmi rfl (xmb rfl (TL.bld [.int .i64 0, .int .i64 0, .int .i64 0, .int .i64 0, .bool false] [(.int _ _), (.int _ _), (.int _ _), (.bool _)] [_, _, _, _, _] fc_z65 fc_q65 ⟨rfl, rfl, rfl, rfl, trivial⟩ ⟨rfl, rfl⟩ rfl rfl (TL.bsN 5 [_] (encE ⟨o.slot, min o.u o.v, max o.u o.v, 0, !forestB d 0 (min o.u o.v) (max o.u o.v)⟩) fc_l52_65_5 fc_z65 ⟨rfl, trivial⟩ rfl (lit1 rfl) rfl rfl (fun bk5 => ⟨(kL2 rfl rfl trivial), ?_⟩))))
  refine TL.appS 2 5 (d2 := #[⟨o.slot, min o.u o.v, max o.u o.v, 0, !forestB d 0 (min o.u o.v) (max o.u o.v)⟩]) rfl (rfl) rfl (fun _ => rfl) rfl rfl (row1 rfl) encE_one (by decide) fc_k52_65_5 (by simp; omega) rfl rfl (fun v6 => ⟨(kL2 rfl rfl trivial), ?_⟩)
  refine TL.ownW 2 rfl (fun a9 g9 c9 hv9 _ _ => ?_)
  cases hv9
  refine xN0 rfl (xf 14 fc_f54_3_14 rfl (TL.late (TL.st 0 #[_, _, _, _, _, _, _, _, _, _, _, _, _, _, _] _ rfl rfl rfl rfl rfl rfl fc_s52 rfl rfl trivial (TL.done ?_))))
  refine FQ.end0 (Bs := [_, _, _]) [0, 1, 2] rfl rfl ⟨rfl, rfl, rfl, trivial⟩ ?_
  exact ⟨rfl, _, rfl⟩
  refine TL.done (TQ.then (TC.condF rfl (TC.draw [(0, true), (1, true), (2, true), (3, true), (4, true), (5, true), (6, true), (7, false)] [0, 3] fc_m (by kernel_rfl) (xmp rfl (xN0 rfl (xf 4 fc_f54_2_4 rfl (xf 0 fc_f51_0_0 rfl (xL10 0 fc_a49_10 rfl rfl ?_))))))))
  refine xf 1 fc_f33_1_1 rfl (xli 3 fc_s3 rfl rfl ?_)
  rw [putA, if_neg hdup, if_pos (by simpa using ‹(!forestB d 0 (min o.u o.v) (max o.u o.v)) = false›)] at h
  obtain ⟨σ3, h1, h2⟩ := Option.bind_eq_some_iff.1 h
  cases h2
  refine TL.callD [1] [1] (apush_all (p := P1) plainM hl h1) ⟨rfl, rfl, trivial⟩ ⟨rfl, trivial⟩ fc_c88 rfl rfl rfl rfl rfl (kL2 rfl rfl trivial) (TL.done (TQ.then (TC.ownW 2 rfl (fun a9 g9 c9 hv9 hc9 ha9 => ?_))))
  cases hv9
  refine TC.draw2 [(0, true), (1, true), (2, true), (3, true), (4, true), (5, true), (6, true), (7, true), (8, true), (9, true), (10, true), (11, false), (12, false), (13, true), (14, true)] 15 [] [0, 3] fc_m (by kernel_rfl) (xmp rfl (xmp rfl (xN0 rfl (xf 14 fc_f54_3_14 rfl (xlv 0 fc_s52 rfl rfl (xf 1 fc_f33_1_1 rfl (xli 3 fc_s3 rfl rfl (xmi rfl ?_))))))))
  refine xmi rfl (xmb rfl (TL.bld [.int .i64 0, .int .i64 0, .int .i64 0, .int .i64 0, .bool false] [(.int _ _), (.int _ _), (.int _ _), (.bool _)] [_, _, _, _, _] fc_z65 fc_q65 ⟨rfl, rfl, rfl, rfl, trivial⟩ ⟨rfl, rfl⟩ rfl rfl (TL.bsN 7 [_] (encE ⟨o.slot, min o.u o.v, max o.u o.v, 0, !forestB d 0 (min o.u o.v) (max o.u o.v)⟩) fc_l52_65_5 fc_z65 ⟨rfl, trivial⟩ rfl (lit1 rfl) rfl rfl (fun bk7 => ⟨(kL2 rfl rfl trivial), ?_⟩))))
  refine TL.appS 2 7 (d2 := #[⟨o.slot, min o.u o.v, max o.u o.v, 0, !forestB d 0 (min o.u o.v) (max o.u o.v)⟩]) rfl (rfl) rfl (fun _ => rfl) rfl rfl (row1 rfl) encE_one (by decide) fc_k52_65_5 (by simp; omega) rfl rfl (fun v8 => ⟨(kL2 rfl rfl trivial), ?_⟩)
  refine TL.ownW 2 rfl (fun a9 g9 c9 hv9 _ _ => ?_)
  cases hv9
  refine xN0 rfl (xf 14 fc_f54_3_14 rfl (TL.late (TL.st 0 #[_, _, _, _, _, _, _, _, _, _, _, _, _, _, _] _ rfl rfl rfl rfl rfl rfl fc_s52 rfl rfl trivial (TL.done ?_))))
  refine FQ.end0 (Bs := [_, _, _]) [0, 1, 2] rfl rfl ⟨rfl, rfl, rfl, trivial⟩ ?_
  exact ⟨rfl, _, rfl⟩

set_option maxHeartbeats 1000000 in
theorem step_x0 {pb ab mb : Nat} {σ : M} {v : Value} {d : Array EdR} {l : Lay} (hl : l.Ok) (hd : d.size ≤ 100) {o : OpR} (hc : o.u = o.v)  : Go.Eng.Fn Tryz.prog 17 [.pointer (some ⟨pb, 0, none⟩), .agg #[.int .i64 o.kind, .int .i64 o.slot, .int .i64 o.u, .int .i64 o.v]] [pt pb (.cells #[.int .i64 l.V, .int .i64 l.S, .int .i64 l.T, .pointer (some ⟨ab, 0, none⟩), .int .i64 l.V, .int .i64 l.S, .int .i64 l.T, .iface 107 (.agg #[.pointer (some ⟨ab, 0, none⟩)]), .int .i64 1, .int .i64 0, .int .i64 l.V, .int .i64 l.S, .int .i64 l.T, .iface 107 (.agg #[.pointer (some ⟨ab, 0, none⟩)]), v] 54), arenaA ab mb 149 110 (σ), ownA encE 5 65 v d] (fun x Bs => x = .tuple #[] ∧ ∃ v2, Bs = [pt pb (.cells #[.int .i64 l.V, .int .i64 l.S, .int .i64 l.T, .pointer (some ⟨ab, 0, none⟩), .int .i64 l.V, .int .i64 l.S, .int .i64 l.T, .iface 107 (.agg #[.pointer (some ⟨ab, 0, none⟩)]), .int .i64 1, .int .i64 0, .int .i64 l.V, .int .i64 l.S, .int .i64 l.T, .iface 107 (.agg #[.pointer (some ⟨ab, 0, none⟩)]), v2] 54), arenaA ab mb 149 110 (σ), ownA encE 5 65 v2 (d)]) := by
  refine Fn.enter (Tryz.func17) rfl rfl (fun w0 R => ?_)
  refine sA (xB 3 rfl (fun bk3 => (dA (xmp rfl (xN0 rfl (xf 0 fc_f54_0_0 rfl (xL3 0 fc_a23_3 rfl rfl (TL.alloc 4 (cs := #[.int .i64 0, .int .i64 0, .int .i64 0]) fc_z23 rfl rfl rfl (fun _ => trivial) (fun bk4 => (TL.stW 4 3 [_, _, _] rfl rfl rfl rfl rfl rfl fc_a23_3 rfl rfl trivial ?_))))))))))
  refine dB (xf 2 fc_f33_2_2 rfl (xli 3 fc_s3 rfl rfl (xf 3 fc_f33_3_3 rfl (xli 3 fc_s3 rfl rfl (TL.eqlT rfl rfl (by omega) rfl rfl (xmt rfl (xo rfl (xo rfl ?_))))))))
  refine xo rfl (xpT rfl (xmt rfl (xo rfl (xo rfl (xo rfl (xo rfl (xo rfl (xpT rfl ?_))))))))
  refine xmt rfl (xo rfl (xo rfl (xo rfl (xpT rfl (xmt rfl (xo rfl (xo rfl (xo rfl ?_))))))))
  refine xo rfl (xo rfl (xpT rfl (xmt rfl (xo rfl (xo rfl (xo rfl (xpT rfl (xmt rfl ?_))))))))
  refine xo rfl (xo rfl (xo rfl (xo rfl (xo rfl (xpT rfl (TL.done (TQ.then (TC.condT rfl ?_))))))))
  refine TC.ret (TQ.thenRet ?_)
  refine FQ.ret0 (Bs := [_, _, _]) [0, 1, 2] rfl rfl ⟨rfl, rfl, rfl, trivial⟩ ?_
  exact ⟨rfl, _, rfl⟩

set_option maxHeartbeats 1000000 in
theorem step_x1 {pb ab mb : Nat} {σ : M} {v : Value} {d : Array EdR} {l : Lay} (hl : l.Ok) (hd : d.size ≤ 100) {o : OpR} (n0 : ¬ o.u = o.v) (hc : o.u < 0)  : Go.Eng.Fn Tryz.prog 17 [.pointer (some ⟨pb, 0, none⟩), .agg #[.int .i64 o.kind, .int .i64 o.slot, .int .i64 o.u, .int .i64 o.v]] [pt pb (.cells #[.int .i64 l.V, .int .i64 l.S, .int .i64 l.T, .pointer (some ⟨ab, 0, none⟩), .int .i64 l.V, .int .i64 l.S, .int .i64 l.T, .iface 107 (.agg #[.pointer (some ⟨ab, 0, none⟩)]), .int .i64 1, .int .i64 0, .int .i64 l.V, .int .i64 l.S, .int .i64 l.T, .iface 107 (.agg #[.pointer (some ⟨ab, 0, none⟩)]), v] 54), arenaA ab mb 149 110 (σ), ownA encE 5 65 v d] (fun x Bs => x = .tuple #[] ∧ ∃ v2, Bs = [pt pb (.cells #[.int .i64 l.V, .int .i64 l.S, .int .i64 l.T, .pointer (some ⟨ab, 0, none⟩), .int .i64 l.V, .int .i64 l.S, .int .i64 l.T, .iface 107 (.agg #[.pointer (some ⟨ab, 0, none⟩)]), .int .i64 1, .int .i64 0, .int .i64 l.V, .int .i64 l.S, .int .i64 l.T, .iface 107 (.agg #[.pointer (some ⟨ab, 0, none⟩)]), v2] 54), arenaA ab mb 149 110 (σ), ownA encE 5 65 v2 (d)]) := by
  refine Fn.enter (Tryz.func17) rfl rfl (fun w0 R => ?_)
  refine sA (xB 3 rfl (fun bk3 => (dA (xmp rfl (xN0 rfl (xf 0 fc_f54_0_0 rfl (xL3 0 fc_a23_3 rfl rfl (TL.alloc 4 (cs := #[.int .i64 0, .int .i64 0, .int .i64 0]) fc_z23 rfl rfl rfl (fun _ => trivial) (fun bk4 => (TL.stW 4 3 [_, _, _] rfl rfl rfl rfl rfl rfl fc_a23_3 rfl rfl trivial ?_))))))))))
  refine dB (xf 2 fc_f33_2_2 rfl (xli 3 fc_s3 rfl rfl (xf 3 fc_f33_3_3 rfl (xli 3 fc_s3 rfl rfl (TL.eqlF rfl rfl (by omega) rfl rfl (xmf rfl (xf 2 fc_f33_2_2 rfl (xli 3 fc_s3 rfl rfl ?_))))))))
  refine TL.lssT rfl rfl (by omega) rfl rfl (xpH rfl (xmt rfl (xo rfl (xo rfl (xo rfl (xo rfl (xo rfl (xpT rfl ?_))))))))
  refine xmt rfl (xo rfl (xo rfl (xo rfl (xpT rfl (xmt rfl (xo rfl (xo rfl (xo rfl ?_))))))))
  refine xo rfl (xo rfl (xpT rfl (xmt rfl (xo rfl (xo rfl (xo rfl (xpT rfl (xmt rfl ?_))))))))
  refine xo rfl (xo rfl (xo rfl (xo rfl (xo rfl (xpT rfl (TL.done (TQ.then (TC.condT rfl ?_))))))))
  refine TC.ret (TQ.thenRet ?_)
  refine FQ.ret0 (Bs := [_, _, _]) [0, 1, 2] rfl rfl ⟨rfl, rfl, rfl, trivial⟩ ?_
  exact ⟨rfl, _, rfl⟩

set_option maxHeartbeats 1000000 in
theorem step_x2 {pb ab mb : Nat} {σ : M} {v : Value} {d : Array EdR} {l : Lay} (hl : l.Ok) (hd : d.size ≤ 100) {o : OpR} (n0 : ¬ o.u = o.v) (n1 : ¬ o.u < 0) (hc : l.V ≤ o.u)  : Go.Eng.Fn Tryz.prog 17 [.pointer (some ⟨pb, 0, none⟩), .agg #[.int .i64 o.kind, .int .i64 o.slot, .int .i64 o.u, .int .i64 o.v]] [pt pb (.cells #[.int .i64 l.V, .int .i64 l.S, .int .i64 l.T, .pointer (some ⟨ab, 0, none⟩), .int .i64 l.V, .int .i64 l.S, .int .i64 l.T, .iface 107 (.agg #[.pointer (some ⟨ab, 0, none⟩)]), .int .i64 1, .int .i64 0, .int .i64 l.V, .int .i64 l.S, .int .i64 l.T, .iface 107 (.agg #[.pointer (some ⟨ab, 0, none⟩)]), v] 54), arenaA ab mb 149 110 (σ), ownA encE 5 65 v d] (fun x Bs => x = .tuple #[] ∧ ∃ v2, Bs = [pt pb (.cells #[.int .i64 l.V, .int .i64 l.S, .int .i64 l.T, .pointer (some ⟨ab, 0, none⟩), .int .i64 l.V, .int .i64 l.S, .int .i64 l.T, .iface 107 (.agg #[.pointer (some ⟨ab, 0, none⟩)]), .int .i64 1, .int .i64 0, .int .i64 l.V, .int .i64 l.S, .int .i64 l.T, .iface 107 (.agg #[.pointer (some ⟨ab, 0, none⟩)]), v2] 54), arenaA ab mb 149 110 (σ), ownA encE 5 65 v2 (d)]) := by
  refine Fn.enter (Tryz.func17) rfl rfl (fun w0 R => ?_)
  refine sA (xB 3 rfl (fun bk3 => (dA (xmp rfl (xN0 rfl (xf 0 fc_f54_0_0 rfl (xL3 0 fc_a23_3 rfl rfl (TL.alloc 4 (cs := #[.int .i64 0, .int .i64 0, .int .i64 0]) fc_z23 rfl rfl rfl (fun _ => trivial) (fun bk4 => (TL.stW 4 3 [_, _, _] rfl rfl rfl rfl rfl rfl fc_a23_3 rfl rfl trivial ?_))))))))))
  refine dB (xf 2 fc_f33_2_2 rfl (xli 3 fc_s3 rfl rfl (xf 3 fc_f33_3_3 rfl (xli 3 fc_s3 rfl rfl (TL.eqlF rfl rfl (by omega) rfl rfl (xmf rfl (xf 2 fc_f33_2_2 rfl (xli 3 fc_s3 rfl rfl ?_))))))))
  refine TL.lssF rfl rfl (by omega) rfl rfl (xpF rfl (xmf rfl (xf 2 fc_f33_2_2 rfl (xli 3 fc_s3 rfl rfl (xf 0 fc_f23_0_0 rfl (xli 4 fc_s3 rfl rfl (TL.geqT rfl rfl (by omega) rfl rfl (xpH rfl ?_))))))))
  refine xmt rfl (xo rfl (xo rfl (xo rfl (xpT rfl (xmt rfl (xo rfl (xo rfl (xo rfl ?_))))))))
  refine xo rfl (xo rfl (xpT rfl (xmt rfl (xo rfl (xo rfl (xo rfl (xpT rfl (xmt rfl ?_))))))))
  refine xo rfl (xo rfl (xo rfl (xo rfl (xo rfl (xpT rfl (TL.done (TQ.then (TC.condT rfl ?_))))))))
  refine TC.ret (TQ.thenRet ?_)
  refine FQ.ret0 (Bs := [_, _, _]) [0, 1, 2] rfl rfl ⟨rfl, rfl, rfl, trivial⟩ ?_
  exact ⟨rfl, _, rfl⟩


end Go.Proofs.YtfmjfdbmpkcndaaGreat
