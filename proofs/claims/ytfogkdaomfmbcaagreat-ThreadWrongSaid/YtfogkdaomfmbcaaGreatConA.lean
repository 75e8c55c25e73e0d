import Derived.Test.YtfogkdaomfmbcaaGreatEngB
import Derived.Test.YtfogkdaomfmbcaaGreatProg
import Derived.KernelRfl
import Derived.Tactics2
import Derived.StillTactics
import Derived.Laws.Tables
set_option linter.unusedVariables false
set_option linter.unusedSimpArgs false
set_option maxRecDepth 20000
namespace Go.Proofs.YtfogkdaomfmbcaaGreat
open Go.Eng Go.Tm
open Go.Eng Go.Tm
abbrev layV (l : Lay) : Value := .agg #[.int .i64 l.V, .int .i64 l.S, .int .i64 l.T]
abbrev thingV (t : Thing) : Value := .agg #[.bool t.arc, .int .i64 t.level, .int .i64 t.vertex, .int .i64 t.slot, .int .i64 t.side]
abbrev wdV (w : Wd) : Value := .agg #[.int .i64 w.old, .int .i64 w.new, .int .i64 w.thread, .int .i64 w.tag]
theorem levI_bd {x : Int} (_h0 : 0 ≤ x) (_h1 : x ≤ 16) : 0 ≤ levI x ∧ levI x ≤ 5 := by
  unfold levI
  repeat' split
  all_goals omega
theorem lenTab {s : ByteArray} {x : Int} (h0 : 0 ≤ x) (h1 : x ≤ 16) (hs : (List.range 17).map (fun i => (s[i]?).map (·.toNat)) = [0, 1, 2, 2, 3, 3, 3, 3, 4, 4, 4, 4, 4, 4, 4, 4, 5].map some) : (s[x.toNat]?).map (fun b => (b.toNat : Int)) = some (levI x) := by
  have hx : x.toNat < 17 := by omega
  have h2 := congrArg (fun l => l[x.toNat]?) hs
  simp only [List.getElem?_map, List.getElem?_range hx, Option.map_some] at h2
  have h3 : x = (x.toNat : Int) := by omega
  rw [h3, Int.toNat_natCast]
  generalize x.toNat = i at *
  have : i = 0 ∨ i = 1 ∨ i = 2 ∨ i = 3 ∨ i = 4 ∨ i = 5 ∨ i = 6 ∨ i = 7 ∨ i = 8 ∨ i = 9 ∨ i = 10 ∨ i = 11 ∨ i = 12 ∨ i = 13 ∨ i = 14 ∨ i = 15 ∨ i = 16 := by omega
  cases hb : s[i]? with
  | none => rw [hb] at h2; rcases this with rfl | rfl | rfl | rfl | rfl | rfl | rfl | rfl | rfl | rfl | rfl | rfl | rfl | rfl | rfl | rfl | rfl <;> simp at h2
  | some b => rw [hb] at h2; rcases this with rfl | rfl | rfl | rfl | rfl | rfl | rfl | rfl | rfl | rfl | rfl | rfl | rfl | rfl | rfl | rfl | rfl <;> simp at h2 <;> simp [h2, levI]
theorem lok_bds {l : Lay} (h : l.Ok) : 1 ≤ (l.V : Int) ∧ (l.V : Int) ≤ 16 ∧ (l.S : Int) ≤ 48 ∧ 1 ≤ (l.T : Int) ∧ (l.T : Int) ≤ 8 := by
  obtain ⟨h1, h2, h3, h4, h5⟩ := h; omega
theorem lev_bd {l : Lay} (h : l.Ok) : 1 ≤ l.lev ∧ l.lev ≤ 5 := by
  have := lok_bds h
  unfold Lay.lev levI
  repeat' split
  all_goals omega
theorem lay_bds {l : Lay} (h : l.Ok) : (1 ≤ (l.V : Int) ∧ (l.V : Int) ≤ 16 ∧ (l.S : Int) ≤ 48 ∧ 1 ≤ (l.T : Int) ∧ (l.T : Int) ≤ 8) ∧ (1 ≤ l.lev ∧ l.lev ≤ 5) ∧ l.arcs = 2 * l.lev ∧ l.free = l.T ∧ (0 ≤ l.lev * l.V ∧ l.lev * l.V ≤ 5 * 16) ∧ (0 ≤ (l.V : Int) * l.lev ∧ (l.V : Int) * l.lev ≤ 16 * 5) ∧
    (0 ≤ (l.S : Int) * l.arcs ∧ (l.S : Int) * l.arcs ≤ 48 * 10) ∧ l.nodes = l.lev * l.V + l.S * l.arcs ∧ l.heads = l.T + 1 + l.S * 7 ∧ l.edges = l.heads + l.V * l.lev ∧ (0 ≤ (l.V : Int) * (l.V - 1) ∧ (l.V : Int) * (l.V - 1) ≤ 16 * 15) ∧
    l.base = l.edges + (l.V : Int) * (l.V - 1) / 2 ∧ l.cells = l.base + l.nodes * 7 := by
  have h1 := lok_bds h
  have h2 := lev_bd h
  have h3 : l.arcs = 2 * l.lev := rfl
  exact ⟨h1, h2, h3, rfl, mul_bd (by omega) (by omega) (by omega) (by omega), mul_bd (by omega) (by omega) (by omega) (by omega), mul_bd (by omega) (by omega) (by omega) (by omega), rfl, rfl, rfl, mul_bd (by omega) (by omega) (by omega) (by omega), rfl, rfl⟩
theorem quo64 {a b : Int} (h0 : 0 ≤ a) (hb : 0 < b) (ha : a < 9223372036854775808) : IntKind.i64.wrap (a.tdiv b) = a / b := by
  rw [Int.tdiv_eq_ediv_of_nonneg h0]
  exact wr64 ⟨by have := Int.ediv_nonneg h0 (Int.le_of_lt hb); omega, by have := Int.ediv_le_self b h0; omega⟩
theorem rem64 {a b : Int} (h0 : 0 ≤ a) : a.tmod b = a % b := Int.tmod_eq_emod_of_nonneg h0
theorem edge_bd {x V : Int} (h0 : 0 ≤ x) (h1 : x < V) (h2 : V ≤ 16) : 0 ≤ x * (2 * V - x - 1) ∧ x * (2 * V - x - 1) ≤ 16 * 32 := mul_bd h0 (by omega) (by omega) (by omega)
abbrev treesV (l : Lay) (mt : TypeId) (mv : Value) (p : Pen) : Value := .agg #[.int .i64 l.V, .int .i64 l.S, .int .i64 l.T, .iface mt mv, .int .i64 p.thread, .int .i64 p.tag]
abbrev edgesV (l : Lay) (mt : TypeId) (mv : Value) : Value := .agg #[.int .i64 l.V, .int .i64 l.S, .int .i64 l.T, .iface mt mv]
abbrev adjV (l : Lay) (mt : TypeId) (mv : Value) (p : Pen) : Value := .agg #[.int .i64 l.V, .int .i64 l.S, .int .i64 l.T, .iface mt mv, .int .i64 p.thread, .int .i64 p.tag, .int .i64 l.V, .int .i64 l.S, .int .i64 l.T, .iface mt mv]
theorem lone_rng (l : Lay) (x m : Int) : 0 ≤ loneV l x m ∧ loneV l x m < 18446744073709551616 := by
  unfold loneV; split <;> exact orU_rng _ _
theorem renewV_rng {S : Type} [MemLike S] (l : Lay) (σ : S) (x m : Int) (i : Nat) : 0 ≤ (renewV l σ x m i).1 ∧ (renewV l σ x m i).1 < 18446744073709551616 := by
  cases i with
  | zero => exact lone_rng _ _ _
  | succ i => exact orU_rng _ _
abbrev edgV (e : Edg) : Value := .agg #[.int .i64 e.u, .int .i64 e.v, .int .i64 e.level, .bool e.tree]
theorem eword_rng (s : Int) (t : Bool) : 0 ≤ eword s t ∧ eword s t < 18446744073709551616 := orU_rng _ _
theorem quo2 (z : Int) : IntKind.i64.wrap ((IntKind.i64.wrap z).tdiv 2) = (IntKind.i64.wrap z).tdiv 2 := by
  have h : -9223372036854775808 ≤ IntKind.i64.wrap z ∧ IntKind.i64.wrap z < 9223372036854775808 := by
    rw [IntKind.wrap_i64]; omega
  generalize IntKind.i64.wrap z = y at *
  refine wr64 ?_
  have h1 := Int.mul_tdiv_add_tmod y 2
  have h2 := Int.tmod_lt_of_pos y (show (0:Int) < 2 by omega)
  have h3 := Int.lt_tmod_of_pos y (show (0:Int) < 2 by omega)
  omega
theorem Fn_mono {P : Program} {f : FuncId} {args : List Value} {As : List Assn} {Φ Ψ : Value → List Assn → Prop} (h : Go.Eng.Fn P f args As Φ) (hm : ∀ v Bs, Φ v Bs → Ψ v Bs) : Go.Eng.Fn P f args As Ψ :=
  fun w0 R w hs => (h w0 R w hs).mono fun _ _ ⟨v, Bs, he, hp, hs'⟩ => ⟨v, Bs, he, hm v Bs hp, hs'⟩
def wof (x : Int) : Wd := ⟨min (max x 0) 65535, min (max x 0) 65535, 0, 0⟩
theorem packif_rng (w : Wd) : 0 ≤ (if w.right then w.pack else 0) ∧ (if w.right then w.pack else 0) < 18446744073709551616 := by
  split
  · exact orU_rng _ _
  · decide
structure Ans where
  kind : Int
  u : Int
  v : Int
  thread : Int
  beg : Int
  point : Int
  fin : Int
  yes : Bool
  code : Int
  deriving Inhabited, DecidableEq
def encA (x : Ans) : List Value := [.int .i64 x.kind, .int .i64 x.u, .int .i64 x.v, .int .i64 x.thread, .int .i64 x.beg, .int .i64 x.point, .int .i64 x.fin, .bool x.yes, .int .i64 x.code]
theorem encA_ok (x : Ans) : (encA x).length = 9 ∧ ones (encA x) = true := ⟨rfl, rfl⟩
theorem encA_one (x : Ans) : (encA x).length = 9 ∧ ∀ u ∈ encA x, u.oneCell' = true := ⟨rfl, by intro u hu; simp only [encA, List.mem_cons, List.not_mem_nil, or_false] at hu; rcases hu with rfl | rfl | rfl | rfl | rfl | rfl | rfl | rfl | rfl <;> rfl⟩
structure Cal where
  k : Int
  u : Int
  v : Int
  deriving Inhabited, DecidableEq
def encC (x : Cal) : List Value := [.int .i64 x.k, .int .i64 x.u, .int .i64 x.v]
theorem encC_one (x : Cal) : (encC x).length = 3 ∧ ∀ u ∈ encC x, u.oneCell' = true := ⟨rfl, by intro u hu; simp only [encC, List.mem_cons, List.not_mem_nil, or_false] at hu; rcases hu with rfl | rfl | rfl <;> rfl⟩
def wrongI (V k u v : Int) : Int := if k < 1 ∨ 3 < k then 10 else if ¬ (0 ≤ u ∧ u < V) ∨ ¬ (0 ≤ v ∧ v < V) then 30 else if u = v ∧ k ≠ 3 then 31 else 0
def ansOf (th now : Int) (c : Cal) : Ans := ⟨c.k, c.u, c.v, th, now, 0, 0, false, 0⟩
def pendB (d : Array Ans) : Bool := decide (0 < d.size) && decide (d[d.size - 1]!.fin = 0)
theorem pend_pos {d : Array Ans} (h : pendB d = true) : 0 < d.size := by
  unfold pendB at h; simp at h; exact h.1
def cw1 : Cal := ⟨1, 0, 0⟩
def cw2 : Cal := ⟨3, 1, 1⟩
theorem clone_src {α : Type} [Inhabited α] {enc : α → List Value} {m e : Nat} {v : Value} {d : Array α} (h : HF) (hh : ownA enc m e v (#[] ++ d) h) : ownA enc m e v d h := by simpa using hh
theorem aw_ok : Lay.Ok ⟨2, 1, 1⟩ := by unfold Lay.Ok; decide
def awX : Ans := ⟨1, 0, 0, 1, 5, 6, 6, false, 31⟩
def okL (V S T : Int) : Prop := (1 ≤ V ∧ V ≤ 16) ∧ (0 ≤ S ∧ S ≤ 48) ∧ 1 ≤ T ∧ T ≤ 8
instance (V S T : Int) : Decidable (okL V S T) := by unfold okL; infer_instance

theorem fc_u33 : (Tryz.prog.underlying 33).isSome = true := by kernel_rfl
theorem fc_i5_u8 : intB Tryz.prog 5 .u8 = true := by kernel_rfl
theorem fc_str : Tryz.prog.underlying 9 = some .string := by kernel_rfl
theorem fc_u5 : (Tryz.prog.underlying 5).isSome = true := by kernel_rfl
theorem fc_i3_i64 : intB Tryz.prog 3 .i64 = true := by kernel_rfl
theorem fc_c171 : callB Tryz.prog 171 = true := by kernel_rfl
theorem fc_f45_0_0 : fldB Tryz.prog 45 0 0 = true := by kernel_rfl
theorem fc_s3 : scalB Tryz.prog 3 = true := by kernel_rfl
theorem fc_u3 : (Tryz.prog.underlying 3).isSome = true := by kernel_rfl
theorem fc_i186_u64 : intB Tryz.prog 186 .u64 = true := by kernel_rfl
theorem fc_c120 : callB Tryz.prog 120 = true := by kernel_rfl
theorem fc_a45_3 : aggB Tryz.prog 45 3 = true := by kernel_rfl
theorem fc_c75 : callB Tryz.prog 75 = true := by kernel_rfl
theorem fc_m : Tryz.prog.follows .mixedOrders = true := by kernel_rfl
theorem fc_f45_1_1 : fldB Tryz.prog 45 1 1 = true := by kernel_rfl
theorem fc_c76 : callB Tryz.prog 76 = true := by kernel_rfl
theorem fc_c54 : callB Tryz.prog 54 = true := by kernel_rfl
theorem fc_f45_2_2 : fldB Tryz.prog 45 2 2 = true := by kernel_rfl
theorem fc_c74 : callB Tryz.prog 74 = true := by kernel_rfl
theorem fc_c119 : callB Tryz.prog 119 = true := by kernel_rfl
theorem fc_c140 : callB Tryz.prog 140 = true := by kernel_rfl
theorem fc_c91 : callB Tryz.prog 91 = true := by kernel_rfl
theorem fc_c43 : callB Tryz.prog 43 = true := by kernel_rfl
theorem fc_c55 : callB Tryz.prog 55 = true := by kernel_rfl
theorem fc_z142 : zeroV Tryz.prog 142 = some (.agg #[.bool false, .int .i64 0, .int .i64 0, .int .i64 0, .int .i64 0]) := by kernel_rfl
theorem fc_q142 : placesB Tryz.prog 142 [(0, 1), (1, 1), (2, 1), (3, 1), (4, 1)] = true := by kernel_rfl
theorem fc_a142_5 : aggB Tryz.prog 142 5 = true := by kernel_rfl
theorem fc_f191_2_2 : fldB Tryz.prog 191 2 2 = true := by kernel_rfl
theorem fc_f191_0_0 : fldB Tryz.prog 191 0 0 = true := by kernel_rfl
theorem fc_c209 : callB Tryz.prog 209 = true := by kernel_rfl
theorem fc_f191_1_1 : fldB Tryz.prog 191 1 1 = true := by kernel_rfl
theorem fc_f191_3_3 : fldB Tryz.prog 191 3 3 = true := by kernel_rfl
theorem fc_a191_4 : aggB Tryz.prog 191 4 = true := by kernel_rfl
theorem fc_c131 : callB Tryz.prog 131 = true := by kernel_rfl
theorem fc_c175 : callB Tryz.prog 175 = true := by kernel_rfl
theorem fc_i33_u64 : intB Tryz.prog 33 .u64 = true := by kernel_rfl
theorem fc_z191 : zeroV Tryz.prog 191 = some (.agg #[.int .i64 0, .int .i64 0, .int .i64 0, .int .i64 0]) := by kernel_rfl
theorem fc_c174 : callB Tryz.prog 174 = true := by kernel_rfl
theorem fc_q191 : placesB Tryz.prog 191 [(0, 1), (1, 1), (2, 1), (3, 1)] = true := by kernel_rfl
theorem fc_f70_0_0 : fldB Tryz.prog 70 0 0 = true := by kernel_rfl
theorem fc_f70_1_1 : fldB Tryz.prog 70 1 1 = true := by kernel_rfl
theorem fc_c130 : callB Tryz.prog 130 = true := by kernel_rfl
theorem fc_c191 : callB Tryz.prog 191 = true := by kernel_rfl
theorem fc_c173 : callB Tryz.prog 173 = true := by kernel_rfl
theorem fc_c124 : callB Tryz.prog 124 = true := by kernel_rfl
theorem fc_f100_1_3 : fldB Tryz.prog 100 1 3 = true := by kernel_rfl
theorem fc_s98 : scalB Tryz.prog 98 = true := by kernel_rfl
theorem fc_f100_0_0 : fldB Tryz.prog 100 0 0 = true := by kernel_rfl
theorem fc_c23 : callB Tryz.prog 23 = true := by kernel_rfl
theorem fc_c79 : callB Tryz.prog 79 = true := by kernel_rfl
theorem fc_f142_1_1 : fldB Tryz.prog 142 1 1 = true := by kernel_rfl
theorem fc_a100_6 : aggB Tryz.prog 100 6 = true := by kernel_rfl
theorem fc_c172 : callB Tryz.prog 172 = true := by kernel_rfl
theorem fc_c132 : callB Tryz.prog 132 = true := by kernel_rfl
theorem fc_c210 : callB Tryz.prog 210 = true := by kernel_rfl
theorem fc_f100_2_4 : fldB Tryz.prog 100 2 4 = true := by kernel_rfl
theorem fc_a70_2 : aggB Tryz.prog 70 2 = true := by kernel_rfl
theorem fc_c147 : callB Tryz.prog 147 = true := by kernel_rfl
theorem fc_c121 : callB Tryz.prog 121 = true := by kernel_rfl
theorem fc_f142_0_0 : fldB Tryz.prog 142 0 0 = true := by kernel_rfl
theorem fc_s4 : scalB Tryz.prog 4 = true := by kernel_rfl
theorem fc_c123 : callB Tryz.prog 123 = true := by kernel_rfl
theorem fc_z152 : zeroV Tryz.prog 152 = some (.agg #[.int .i64 0, .int .i64 0]) := by kernel_rfl
theorem fc_r152_2_3_1 : arrayB Tryz.prog 152 2 3 1 = true := by kernel_rfl
theorem fc_c188 : callB Tryz.prog 188 = true := by kernel_rfl
theorem fc_c240 : callB Tryz.prog 240 = true := by kernel_rfl
theorem fc_c122 : callB Tryz.prog 122 = true := by kernel_rfl
theorem fc_c177 : callB Tryz.prog 177 = true := by kernel_rfl
theorem fc_c239 : callB Tryz.prog 239 = true := by kernel_rfl
theorem fc_c222 : callB Tryz.prog 222 = true := by kernel_rfl
theorem fc_c223 : callB Tryz.prog 223 = true := by kernel_rfl
theorem fc_c238 : callB Tryz.prog 238 = true := by kernel_rfl
theorem fc_c237 : callB Tryz.prog 237 = true := by kernel_rfl
theorem fc_c236 : callB Tryz.prog 236 = true := by kernel_rfl
theorem fc_c219 : callB Tryz.prog 219 = true := by kernel_rfl
theorem fc_c252 : callB Tryz.prog 252 = true := by kernel_rfl
theorem fc_c218 : callB Tryz.prog 218 = true := by kernel_rfl
theorem fc_f104_0_0 : fldB Tryz.prog 104 0 0 = true := by kernel_rfl
theorem fc_c59 : callB Tryz.prog 59 = true := by kernel_rfl
theorem fc_c134 : callB Tryz.prog 134 = true := by kernel_rfl
theorem fc_c221 : callB Tryz.prog 221 = true := by kernel_rfl
theorem fc_c220 : callB Tryz.prog 220 = true := by kernel_rfl
theorem fc_c197 : callB Tryz.prog 197 = true := by kernel_rfl
theorem fc_c139 : callB Tryz.prog 139 = true := by kernel_rfl
theorem fc_c176 : callB Tryz.prog 176 = true := by kernel_rfl
theorem fc_a104_6 : aggB Tryz.prog 104 6 = true := by kernel_rfl
theorem fc_c133 : callB Tryz.prog 133 = true := by kernel_rfl
theorem fc_c198 : callB Tryz.prog 198 = true := by kernel_rfl
theorem fc_c77 : callB Tryz.prog 77 = true := by kernel_rfl
theorem fc_f106_1_3 : fldB Tryz.prog 106 1 3 = true := by kernel_rfl
theorem fc_f106_0_0 : fldB Tryz.prog 106 0 0 = true := by kernel_rfl
theorem fc_c97 : callB Tryz.prog 97 = true := by kernel_rfl
theorem fc_c151 : callB Tryz.prog 151 = true := by kernel_rfl
theorem fc_c128 : callB Tryz.prog 128 = true := by kernel_rfl
theorem fc_c152 : callB Tryz.prog 152 = true := by kernel_rfl
theorem fc_z149 : zeroV Tryz.prog 149 = some (.agg #[.int .i64 0, .int .i64 0, .int .i64 0, .bool false]) := by kernel_rfl
theorem fc_a106_4 : aggB Tryz.prog 106 4 = true := by kernel_rfl
theorem fc_c127 : callB Tryz.prog 127 = true := by kernel_rfl
theorem fc_c80 : callB Tryz.prog 80 = true := by kernel_rfl
theorem fc_q149 : placesB Tryz.prog 149 [(0, 1), (1, 1), (2, 1), (3, 1)] = true := by kernel_rfl
theorem fc_a149_4 : aggB Tryz.prog 149 4 = true := by kernel_rfl
theorem fc_f108_1_6 : fldB Tryz.prog 108 1 6 = true := by kernel_rfl
theorem fc_c178 : callB Tryz.prog 178 = true := by kernel_rfl
theorem fc_c217 : callB Tryz.prog 217 = true := by kernel_rfl
theorem fc_f75_0_0 : fldB Tryz.prog 75 0 0 = true := by kernel_rfl
theorem fc_s27 : scalB Tryz.prog 27 = true := by kernel_rfl
theorem fc_l27_33_1 : sliceB Tryz.prog 27 33 1 = true := by kernel_rfl
theorem fc_f75_1_1 : fldB Tryz.prog 75 1 1 = true := by kernel_rfl
theorem fc_f73_0_0 : fldB Tryz.prog 73 0 0 = true := by kernel_rfl
theorem fc_c29 : callB Tryz.prog 29 = true := by kernel_rfl
theorem fc_p76 : ptrB Tryz.prog 76 = true := by kernel_rfl
theorem fc_s33 : scalB Tryz.prog 33 = true := by kernel_rfl
theorem fc_f73_1_1 : fldB Tryz.prog 73 1 1 = true := by kernel_rfl
theorem fc_f85_0_0 : fldB Tryz.prog 85 0 0 = true := by kernel_rfl
theorem fc_s29 : scalB Tryz.prog 29 = true := by kernel_rfl
theorem fc_c16 : callB Tryz.prog 16 = true := by kernel_rfl
theorem fc_c10 : callB Tryz.prog 10 = true := by kernel_rfl
theorem fc_k27_33_1 : appB Tryz.prog 27 33 1 = true := by kernel_rfl
theorem fc_z33 : zeroV Tryz.prog 33 = some (.int .u64 0) := by kernel_rfl
theorem fc_q75 : placesB Tryz.prog 75 [(0, 1), (1, 5)] = true := by kernel_rfl
theorem fc_z75 : zeroV Tryz.prog 75 = some (.agg #[.slice none 0 0, .int .i64 0, .int .i64 0, .int .i64 0, .int .i64 0, .int .i64 0]) := by kernel_rfl
theorem fc_z85 : zeroV Tryz.prog 85 = some (.agg #[.pointer none]) := by kernel_rfl
theorem fc_q85 : placesB Tryz.prog 85 [(0, 1)] = true := by kernel_rfl
theorem fc_a85_1 : aggB Tryz.prog 85 1 = true := by kernel_rfl
theorem fc_c126 : callB Tryz.prog 126 = true := by kernel_rfl
theorem fc_c125 : callB Tryz.prog 125 = true := by kernel_rfl
theorem fc_c78 : callB Tryz.prog 78 = true := by kernel_rfl
theorem fc_M85_Store_271 : methB Tryz.prog 85 "Store" 271 = true := by kernel_rfl
theorem fc_c73 : callB Tryz.prog 73 = true := by kernel_rfl
theorem fc_c40 : callB Tryz.prog 40 = true := by kernel_rfl
theorem fc_c41 : callB Tryz.prog 41 = true := by kernel_rfl
theorem fc_c9 : callB Tryz.prog 9 = true := by kernel_rfl
theorem fc_c32 : callB Tryz.prog 32 = true := by kernel_rfl
theorem fc_n85 : notIface Tryz.prog 85 = true := by kernel_rfl
theorem fc_c42 : callB Tryz.prog 42 = true := by kernel_rfl
theorem fc_q70 : placesB Tryz.prog 70 [(0, 1), (1, 1)] = true := by kernel_rfl
theorem fc_z70 : zeroV Tryz.prog 70 = some (.agg #[.int .i64 0, .int .i64 0]) := by kernel_rfl
theorem fc_q100 : placesB Tryz.prog 100 [(0, 3), (3, 1), (4, 2)] = true := by kernel_rfl
theorem fc_z100 : zeroV Tryz.prog 100 = some (.agg #[.int .i64 0, .int .i64 0, .int .i64 0, .nilIface, .int .i64 0, .int .i64 0]) := by kernel_rfl
theorem fc_c44 : callB Tryz.prog 44 = true := by kernel_rfl
theorem fc_f47_0_0 : fldB Tryz.prog 47 0 0 = true := by kernel_rfl
theorem fc_f47_1_1 : fldB Tryz.prog 47 1 1 = true := by kernel_rfl
theorem fc_c39 : callB Tryz.prog 39 = true := by kernel_rfl
theorem fc_f47_2_2 : fldB Tryz.prog 47 2 2 = true := by kernel_rfl
theorem fc_f130_0_0 : fldB Tryz.prog 130 0 0 = true := by kernel_rfl
theorem fc_a47_3 : aggB Tryz.prog 47 3 = true := by kernel_rfl
theorem fc_c19 : callB Tryz.prog 19 = true := by kernel_rfl
theorem fc_q132 : placesB Tryz.prog 132 [(0, 1), (1, 1)] = true := by kernel_rfl
theorem fc_z132 : zeroV Tryz.prog 132 = some (.agg #[.bool false, .int .i64 0]) := by kernel_rfl
theorem fc_n132 : notIface Tryz.prog 132 = true := by kernel_rfl
theorem fc_f130_3_5 : fldB Tryz.prog 130 3 5 = true := by kernel_rfl
theorem fc_s89 : scalB Tryz.prog 89 = true := by kernel_rfl
theorem fc_l89_47_3 : sliceB Tryz.prog 89 47 3 = true := by kernel_rfl
theorem fc_z47 : zeroV Tryz.prog 47 = some (.agg #[.int .i64 0, .int .i64 0, .int .i64 0]) := by kernel_rfl
theorem fc_c112 : callB Tryz.prog 112 = true := by kernel_rfl
theorem fc_f130_4_6 : fldB Tryz.prog 130 4 6 = true := by kernel_rfl
theorem fc_s20 : scalB Tryz.prog 20 = true := by kernel_rfl
theorem fc_f130_5_7 : fldB Tryz.prog 130 5 7 = true := by kernel_rfl
theorem fc_s91 : scalB Tryz.prog 91 = true := by kernel_rfl
theorem fc_f130_1_3 : fldB Tryz.prog 130 1 3 = true := by kernel_rfl
theorem fc_q94 : placesB Tryz.prog 94 [(0, 3), (3, 1), (4, 1), (5, 1), (6, 1), (7, 1), (8, 1)] = true := by kernel_rfl
theorem fc_z94 : zeroV Tryz.prog 94 = some (.agg #[.int .i64 0, .int .i64 0, .int .i64 0, .int .i64 0, .int .i64 0, .int .i64 0, .int .i64 0, .bool false, .int .i64 0]) := by kernel_rfl
theorem fc_l91_94_9 : sliceB Tryz.prog 91 94 9 = true := by kernel_rfl
theorem fc_k91_94_9 : appB Tryz.prog 91 94 9 = true := by kernel_rfl
theorem fc_f94_4_6 : fldB Tryz.prog 94 4 6 = true := by kernel_rfl
theorem fc_f94_3_5 : fldB Tryz.prog 94 3 5 = true := by kernel_rfl
theorem fc_f94_5_7 : fldB Tryz.prog 94 5 7 = true := by kernel_rfl
theorem fc_f94_6_8 : fldB Tryz.prog 94 6 8 = true := by kernel_rfl
theorem fc_s30 : scalB Tryz.prog 30 = true := by kernel_rfl
theorem fc_c36 : callB Tryz.prog 36 = true := by kernel_rfl
theorem fc_c62 : callB Tryz.prog 62 = true := by kernel_rfl
theorem fc_ty132 : tyB Tryz.prog 132 = true := by kernel_rfl
theorem fc_a132_2 : aggB Tryz.prog 132 2 = true := by kernel_rfl
theorem fc_f132_0_0 : fldB Tryz.prog 132 0 0 = true := by kernel_rfl
theorem fc_f132_1_1 : fldB Tryz.prog 132 1 1 = true := by kernel_rfl
theorem fc_c63 : callB Tryz.prog 63 = true := by kernel_rfl
theorem fc_f130_6_8 : fldB Tryz.prog 130 6 8 = true := by kernel_rfl
theorem fc_k89_47_3 : appB Tryz.prog 89 47 3 = true := by kernel_rfl
theorem fc_c72 : callB Tryz.prog 72 = true := by kernel_rfl
theorem fc_c61 : callB Tryz.prog 61 = true := by kernel_rfl
theorem fc_q130 : placesB Tryz.prog 130 [(0, 3), (3, 1), (4, 1), (5, 1), (6, 1), (7, 1), (8, 1)] = true := by kernel_rfl
theorem fc_z130 : zeroV Tryz.prog 130 = some (.agg #[.int .i64 0, .int .i64 0, .int .i64 0, .int .i64 0, .int .i64 0, .slice none 0 0, .nilIface, .slice none 0 0, .bool false]) := by kernel_rfl
theorem fc_q45 : placesB Tryz.prog 45 [(0, 1), (1, 1), (2, 1)] = true := by kernel_rfl
theorem fc_z45 : zeroV Tryz.prog 45 = some (.agg #[.int .i64 0, .int .i64 0, .int .i64 0]) := by kernel_rfl
theorem fc_c21 : callB Tryz.prog 21 = true := by kernel_rfl
theorem fc_q47 : placesB Tryz.prog 47 [(0, 1), (1, 1), (2, 1)] = true := by kernel_rfl
theorem fc_c33 : callB Tryz.prog 33 = true := by kernel_rfl
theorem fc_p29 : ptrB Tryz.prog 29 = true := by kernel_rfl
theorem fc_p87 : ptrB Tryz.prog 87 = true := by kernel_rfl
theorem fc_c34 : callB Tryz.prog 34 = true := by kernel_rfl
theorem fc_c35 : callB Tryz.prog 35 = true := by kernel_rfl
theorem fc_c37 : callB Tryz.prog 37 = true := by kernel_rfl
theorem fc_a94_9 : aggB Tryz.prog 94 9 = true := by kernel_rfl
theorem fc_eg94 : Tryz.prog.eqGuardType Tryz.prog.depth 94 = false := by kernel_rfl
theorem fc_c38 : callB Tryz.prog 38 = true := by kernel_rfl
theorem fc_f49_0_0 : fldB Tryz.prog 49 0 0 = true := by kernel_rfl
theorem fc_f49_1_1 : fldB Tryz.prog 49 1 1 = true := by kernel_rfl
theorem fc_f49_2_2 : fldB Tryz.prog 49 2 2 = true := by kernel_rfl
theorem fc_q49 : placesB Tryz.prog 49 [(0, 1), (1, 1), (2, 1)] = true := by kernel_rfl
theorem fc_z49 : zeroV Tryz.prog 49 = some (.agg #[.int .i64 0, .int .i64 0, .int .i64 0]) := by kernel_rfl
theorem fc_c17 : callB Tryz.prog 17 = true := by kernel_rfl
theorem fc_c20 : callB Tryz.prog 20 = true := by kernel_rfl
theorem fc_c18 : callB Tryz.prog 18 = true := by kernel_rfl

theorem below_ok {n m : Int} : FnD Tryz.prog 54 [.int .i64 n, .int .i64 m] [] (.bool (decide (0 ≤ n ∧ n < m))) [] := by
  refine Fn.enter (Tryz.func54) rfl rfl (fun w0 R => ?_)
  refine TC.seq ?_
  refine TC.region ?_
  refine TL.asg (.bool false) rfl rfl rfl ?_
  refine TL.done ?_
  refine TQ.then ?_
  refine TC.seq ?_
  refine TC.region ?_
  refine TL.mv (.int _ _) rfl rfl rfl ?_
  refine TL.geq rfl rfl rfl rfl (fun q1 => ?_) (fun q1 => ?_)
  · skip
    refine TL.mv (.bool true) rfl rfl rfl ?_
    refine TL.mv (.int _ _) rfl rfl rfl ?_
    refine TL.mv (.int _ _) rfl rfl rfl ?_
    refine TL.lssV rfl rfl rfl rfl ?_
    refine TL.pickT (.bool _) rfl rfl rfl rfl ?_
    refine TL.asg (.bool _) rfl rfl rfl ?_
    refine TL.done ?_
    refine TQ.then ?_
    refine TC.ret ?_
    refine FQ.ret1 (v := (.bool _)) (Bs := []) [] rfl rfl rfl trivial ?_
    first | exact ⟨bT (by omega), rfl⟩ | exact ⟨bF (by omega), rfl⟩ | exact ⟨congrArg Value.bool (decide_eq_decide.2 (by omega)), rfl⟩
  · skip
    refine TL.mv (.bool false) rfl rfl rfl ?_
    refine TL.off rfl rfl ?_
    refine TL.off rfl rfl ?_
    refine TL.off rfl rfl ?_
    refine TL.pickF (.bool false) rfl rfl rfl rfl ?_
    refine TL.asg (.bool false) rfl rfl rfl ?_
    refine TL.done ?_
    refine TQ.then ?_
    refine TC.ret ?_
    refine FQ.ret1 (v := (.bool false)) (Bs := []) [] rfl rfl rfl trivial ?_
    first | exact ⟨bT (by omega), rfl⟩ | exact ⟨bF (by omega), rfl⟩ | exact ⟨congrArg Value.bool (decide_eq_decide.2 (by omega)), rfl⟩

theorem len64_ok {x : Int} (h0 : 0 ≤ x) (h1 : x ≤ 16) : FnD Tryz.prog 171 [.int .u64 x] [] (.int .i64 (levI x)) [] := by
  have hl := levI_bd h0 h1
  refine Fn.enter (Tryz.func171) rfl rfl (fun w0 R => ?_)
  refine TC.seq ?_
  refine TC.region ?_
  refine TL.asg (.int _ _) rfl rfl rfl ?_
  refine TL.done ?_
  refine TQ.then ?_
  refine TC.seq ?_
  refine TC.seq ?_
  refine TC.region ?_
  refine TL.mv (.int _ _) rfl rfl rfl ?_
  refine TL.geqF rfl rfl (by omega) rfl rfl ?_
  refine TL.done ?_
  refine TQ.then ?_
  refine TC.condF rfl ?_
  refine TC.skip ?_
  refine TQ.then ?_
  refine TC.seq ?_
  refine TC.seq ?_
  refine TC.region ?_
  refine TL.mv (.int _ _) rfl rfl rfl ?_
  refine TL.geqF rfl rfl (by omega) rfl rfl ?_
  refine TL.done ?_
  refine TQ.then ?_
  refine TC.condF rfl ?_
  refine TC.skip ?_
  refine TQ.then ?_
  refine TC.seq ?_
  refine TC.seq ?_
  refine TC.region ?_
  refine TL.mv (.int _ _) rfl rfl rfl ?_
  refine TL.geqF rfl rfl (by omega) rfl rfl ?_
  refine TL.done ?_
  refine TQ.then ?_
  refine TC.condF rfl ?_
  refine TC.skip ?_
  refine TQ.then ?_
  refine TC.seq ?_
  refine TC.region ?_
  refine TL.mv (.int _ _) rfl rfl rfl ?_
  refine TL.mv (.int _ _) rfl rfl rfl ?_
  refine TL.conv _ rfl fc_u33 fc_i5_u8 (wru8 (by omega)) rfl rfl ?_
  refine TL.ixS (levI x) rfl rfl fc_str (by omega) (lenTab h0 h1 (by kernel_rfl)) rfl rfl ?_
  refine TL.conv _ rfl fc_u5 fc_i3_i64 (wr64 (by omega)) rfl rfl ?_
  refine TL.add _ rfl rfl (wr64 (by omega)) rfl rfl ?_
  refine TL.asg (.int _ _) rfl rfl rfl ?_
  refine TL.done ?_
  refine TQ.then ?_
  refine TC.ret ?_
  refine FQ.ret1 (v := (.int _ _)) (Bs := []) [] rfl rfl rfl trivial ?_
  exact ⟨iE (by omega), rfl⟩

theorem len_ok {x : Int} (h0 : 0 ≤ x) (h1 : x ≤ 16) : FnD Tryz.prog 120 [.int .u64 x] [] (.int .i64 (levI x)) [] := by
  refine Fn.enter (Tryz.func120) rfl rfl (fun w0 R => ?_)
  refine TC.seq ?_
  refine TC.region ?_
  refine TL.asg (.int _ _) rfl rfl rfl ?_
  refine TL.done ?_
  refine TQ.then ?_
  refine TC.seq ?_
  refine TC.condF rfl ?_
  refine TC.skip ?_
  refine TQ.then ?_
  refine TC.seq ?_
  refine TC.region ?_
  refine TL.mv (.int _ _) rfl rfl rfl ?_
  refine TL.callD [] [] (len64_ok (by omega) (by omega)) ⟨rfl, trivial⟩ trivial fc_c171 rfl rfl rfl rfl rfl trivial ?_
  refine TL.asg (.int _ _) rfl rfl rfl ?_
  refine TL.done ?_
  refine TQ.then ?_
  refine TC.ret ?_
  refine FQ.ret1 (v := (.int _ _)) (Bs := []) [] rfl rfl rfl trivial ?_
  exact ⟨rfl, rfl⟩

theorem levels_ok {l : Lay} (hl : l.Ok)  : FnD Tryz.prog 75 [layV l] [] (.int .i64 l.lev) [] := by
  have hb := lok_bds hl
  refine Fn.enter (Tryz.func75) rfl rfl (fun w0 R => ?_)
  refine TC.seq ?_
  refine TC.region ?_
  refine TL.boxA 0 rfl rfl rfl (fun _ => trivial) (fun bk0 => ?_)
  refine TL.asg (.int _ _) rfl rfl rfl ?_
  refine TL.done ?_
  refine TQ.then ?_
  refine TC.seq ?_
  refine TC.region ?_
  refine TL.fa 0 rfl fc_f45_0_0 rfl rfl ?_
  refine TL.ld 0 (.int _ _) rfl rfl rfl fc_s3 rfl rfl ?_
  refine TL.conv _ rfl fc_u3 fc_i186_u64 (wru64 (by omega)) rfl rfl ?_
  refine TL.callD [] [] (len_ok (by omega) (by omega)) ⟨rfl, trivial⟩ trivial fc_c120 rfl rfl rfl rfl rfl trivial ?_
  refine TL.asg (.int _ _) rfl rfl rfl ?_
  refine TL.done ?_
  refine TQ.then ?_
  refine TC.ret ?_
  refine FQ.ret1 (v := (.int _ _)) (Bs := []) [] rfl rfl rfl trivial ?_
  exact ⟨rfl, rfl⟩

theorem arcs_ok {l : Lay} (hl : l.Ok)  : FnD Tryz.prog 76 [layV l] [] (.int .i64 l.arcs) [] := by
  have hb := lay_bds hl
  refine Fn.enter (Tryz.func76) rfl rfl (fun w0 R => ?_)
  refine TC.seq ?_
  refine TC.region ?_
  refine TL.boxA 0 rfl rfl rfl (fun _ => trivial) (fun bk0 => ?_)
  refine TL.asg (.int _ _) rfl rfl rfl ?_
  refine TL.done ?_
  refine TQ.then ?_
  refine TC.seq ?_
  refine TC.region ?_
  refine TL.ldA 0 3 [_, _, _] rfl rfl rfl fc_a45_3 rfl rfl ?_
  refine TL.callD [] [] (levels_ok hl) ⟨rfl, trivial⟩ trivial fc_c75 rfl rfl rfl rfl rfl trivial ?_
  refine TL.mul _ rfl rfl (wr64 (by omega)) rfl rfl ?_
  refine TL.asg (.int _ _) rfl rfl rfl ?_
  refine TL.done ?_
  refine TQ.then ?_
  refine TC.ret ?_
  refine FQ.ret1 (v := (.int _ _)) (Bs := []) [] rfl rfl rfl trivial ?_
  exact ⟨rfl, rfl⟩

theorem nodes_ok {l : Lay} (hl : l.Ok)  : FnD Tryz.prog 43 [layV l] [] (.int .i64 l.nodes) [] := by
  have hb := lay_bds hl
  refine Fn.enter (Tryz.func43) rfl rfl (fun w0 R => ?_)
  refine TC.seq ?_
  refine TC.region ?_
  refine TL.boxA 0 rfl rfl rfl (fun _ => trivial) (fun bk0 => ?_)
  refine TL.asg (.int _ _) rfl rfl rfl ?_
  refine TL.done ?_
  refine TQ.then ?_
  refine TC.seq ?_
  refine TC.draw [(0, true), (2, true), (3, true), (5, true), (6, true), (7, true), (1, false), (4, true), (8, false), (9, true), (10, true), (11, true)] [0] fc_m (by kernel_rfl) ?_
  refine TL.ldA 0 3 [_, _, _] rfl rfl rfl fc_a45_3 rfl rfl ?_
  refine TL.fa 0 rfl fc_f45_0_0 rfl rfl ?_
  refine TL.ld 0 (.int _ _) rfl rfl rfl fc_s3 rfl rfl ?_
  refine TL.fa 1 rfl fc_f45_1_1 rfl rfl ?_
  refine TL.ld 0 (.int _ _) rfl rfl rfl fc_s3 rfl rfl ?_
  refine TL.ldA 0 3 [_, _, _] rfl rfl rfl fc_a45_3 rfl rfl ?_
  refine TL.callD [] [] (levels_ok hl) ⟨rfl, trivial⟩ trivial fc_c75 rfl rfl rfl rfl rfl (.cons rfl rfl trivial) ?_
  refine TL.mul _ rfl rfl (wr64 (by omega)) rfl rfl ?_
  refine TL.callD [] [] (arcs_ok hl) ⟨rfl, trivial⟩ trivial fc_c76 rfl rfl rfl rfl rfl (.cons rfl rfl trivial) ?_
  refine TL.mul _ rfl rfl (wr64 (by omega)) rfl rfl ?_
  refine TL.add _ rfl rfl (wr64 (by omega)) rfl rfl ?_
  refine TL.asg (.int _ _) rfl rfl rfl ?_
  refine TL.done ?_
  refine TQ.then ?_
  refine TC.ret ?_
  refine FQ.ret1 (v := (.int _ _)) (Bs := []) [] rfl rfl rfl trivial ?_
  exact ⟨rfl, rfl⟩

theorem vertex_ok {l : Lay} (hl : l.Ok) {i v : Int} : FnD Tryz.prog 59 [layV l, .int .i64 i, .int .i64 v] [] (.int .i64 (l.vertex i v)) [] := by
  have hb := lay_bds hl
  refine Fn.enter (Tryz.func59) rfl rfl (fun w0 R => ?_)
  refine TC.seq ?_
  refine TC.region ?_
  refine TL.boxA 0 rfl rfl rfl (fun _ => trivial) (fun bk0 => ?_)
  refine TL.asg (.int _ _) rfl rfl rfl ?_
  refine TL.done ?_
  refine TQ.then ?_
  refine TC.seq ?_
  refine TC.seq ?_
  refine TC.region ?_
  refine TL.mv (.int _ _) rfl rfl rfl ?_
  refine TL.ldA 0 3 [_, _, _] rfl rfl rfl fc_a45_3 rfl rfl ?_
  refine TL.callD [] [] (levels_ok hl) ⟨rfl, trivial⟩ trivial fc_c75 rfl rfl rfl rfl rfl trivial ?_
  refine TL.callD [] [] below_ok ⟨rfl, rfl, trivial⟩ trivial fc_c54 rfl rfl rfl rfl rfl trivial ?_
  refine TL.casesP rfl (fun q1 => ?_) (fun q1 => ?_)
  · skip
    refine TL.not true false rfl rfl rfl rfl ?_
    refine TL.mv (.bool false) rfl rfl rfl ?_
    refine TL.mv (.int _ _) rfl rfl rfl ?_
    refine TL.fa 0 rfl fc_f45_0_0 rfl rfl ?_
    refine TL.ld 0 (.int _ _) rfl rfl rfl fc_s3 rfl rfl ?_
    refine TL.callD [] [] below_ok ⟨rfl, rfl, trivial⟩ trivial fc_c54 rfl rfl rfl rfl rfl trivial ?_
    refine TL.casesP rfl (fun q2 => ?_) (fun q2 => ?_)
    · skip
      refine TL.not true false rfl rfl rfl rfl ?_
      refine TL.pickF (.bool false) rfl rfl rfl rfl ?_
      refine TL.done ?_
      refine TQ.then ?_
      refine TC.condF rfl ?_
      refine TC.skip ?_
      refine TQ.then ?_
      refine TC.seq ?_
      refine TC.region ?_
      refine TL.mv (.int _ _) rfl rfl rfl ?_
      refine TL.fa 0 rfl fc_f45_0_0 rfl rfl ?_
      refine TL.ld 0 (.int _ _) rfl rfl rfl fc_s3 rfl rfl ?_
      refine TL.mul _ rfl rfl (wr64 (by have := mul_bd (a := i) (A := 5) (b := (l.V : Int)) (B := 16) (by omega) (by omega) (by omega) (by omega); omega)) rfl rfl ?_
      refine TL.add _ rfl rfl (wr64 (by have := mul_bd (a := i) (A := 5) (b := (l.V : Int)) (B := 16) (by omega) (by omega) (by omega) (by omega); omega)) rfl rfl ?_
      refine TL.mv (.int _ _) rfl rfl rfl ?_
      refine TL.add _ rfl rfl (wr64 (by have := mul_bd (a := i) (A := 5) (b := (l.V : Int)) (B := 16) (by omega) (by omega) (by omega) (by omega); omega)) rfl rfl ?_
      refine TL.asg (.int _ _) rfl rfl rfl ?_
      refine TL.done ?_
      refine TQ.then ?_
      refine TC.ret ?_
      refine FQ.ret1 (v := (.int _ _)) (Bs := []) [] rfl rfl rfl trivial ?_
      first | exact ⟨iE (by unfold Lay.vertex; rw [if_pos (by omega)]), rfl⟩ | exact ⟨iE (by unfold Lay.vertex; rw [if_neg (by omega)]), rfl⟩
    · skip
      refine TL.not false true rfl rfl rfl rfl ?_
      refine TL.pickF (.bool true) rfl rfl rfl rfl ?_
      refine TL.done ?_
      refine TQ.then ?_
      refine TC.condT rfl ?_
      refine TC.seq ?_
      refine TC.region ?_
      refine TL.asg (.int _ _) rfl rfl rfl ?_
      refine TL.done ?_
      refine TQ.then ?_
      refine TC.ret ?_
      refine TQ.thenRet ?_
      refine FQ.ret1 (v := (.int _ _)) (Bs := []) [] rfl rfl rfl trivial ?_
      first | exact ⟨iE (by unfold Lay.vertex; rw [if_pos (by omega)]), rfl⟩ | exact ⟨iE (by unfold Lay.vertex; rw [if_neg (by omega)]), rfl⟩
  · skip
    refine TL.not false true rfl rfl rfl rfl ?_
    refine TL.mv (.bool true) rfl rfl rfl ?_
    refine TL.off rfl rfl ?_
    refine TL.off rfl rfl ?_
    refine TL.off rfl rfl ?_
    refine TL.off rfl rfl ?_
    refine TL.off rfl rfl ?_
    refine TL.pickT (.bool true) rfl rfl rfl rfl ?_
    refine TL.done ?_
    refine TQ.then ?_
    refine TC.condT rfl ?_
    refine TC.seq ?_
    refine TC.region ?_
    refine TL.asg (.int _ _) rfl rfl rfl ?_
    refine TL.done ?_
    refine TQ.then ?_
    refine TC.ret ?_
    refine TQ.thenRet ?_
    refine FQ.ret1 (v := (.int _ _)) (Bs := []) [] rfl rfl rfl trivial ?_
    first | exact ⟨iE (by unfold Lay.vertex; rw [if_pos (by omega)]), rfl⟩ | exact ⟨iE (by unfold Lay.vertex; rw [if_neg (by omega)]), rfl⟩

theorem arc_ok {l : Lay} (hl : l.Ok) {s i d : Int} : FnD Tryz.prog 176 [layV l, .int .i64 s, .int .i64 i, .int .i64 d] [] (.int .i64 (l.arc s i d)) [] := by
  have hb := lay_bds hl
  refine Fn.enter (Tryz.func176) rfl rfl (fun w0 R => ?_)
  refine TC.seq ?_
  refine TC.region ?_
  refine TL.boxA 0 rfl rfl rfl (fun _ => trivial) (fun bk0 => ?_)
  refine TL.asg (.int _ _) rfl rfl rfl ?_
  refine TL.done ?_
  refine TQ.then ?_
  refine TC.seq ?_
  refine TC.seq ?_
  refine TC.region ?_
  refine TL.mv (.int _ _) rfl rfl rfl ?_
  refine TL.fa 1 rfl fc_f45_1_1 rfl rfl ?_
  refine TL.ld 0 (.int _ _) rfl rfl rfl fc_s3 rfl rfl ?_
  refine TL.callD [] [] below_ok ⟨rfl, rfl, trivial⟩ trivial fc_c54 rfl rfl rfl rfl rfl trivial ?_
  refine TL.casesP rfl (fun q1 => ?_) (fun q1 => ?_)
  · skip
    refine TL.not true false rfl rfl rfl rfl ?_
    refine TL.mv (.bool false) rfl rfl rfl ?_
    refine TL.mv (.int _ _) rfl rfl rfl ?_
    refine TL.ldA 0 3 [_, _, _] rfl rfl rfl fc_a45_3 rfl rfl ?_
    refine TL.callD [] [] (levels_ok hl) ⟨rfl, trivial⟩ trivial fc_c75 rfl rfl rfl rfl rfl trivial ?_
    refine TL.callD [] [] below_ok ⟨rfl, rfl, trivial⟩ trivial fc_c54 rfl rfl rfl rfl rfl trivial ?_
    refine TL.casesP rfl (fun q2 => ?_) (fun q2 => ?_)
    · skip
      refine TL.not true false rfl rfl rfl rfl ?_
      refine TL.pickF (.bool false) rfl rfl rfl rfl ?_
      refine TL.mv (.bool false) rfl rfl rfl ?_
      refine TL.mv (.int _ _) rfl rfl rfl ?_
      refine TL.callD [] [] below_ok ⟨rfl, rfl, trivial⟩ trivial fc_c54 rfl rfl rfl rfl rfl trivial ?_
      refine TL.casesP rfl (fun q3 => ?_) (fun q3 => ?_)
      · skip
        refine TL.not true false rfl rfl rfl rfl ?_
        refine TL.pickF (.bool false) rfl rfl rfl rfl ?_
        refine TL.done ?_
        refine TQ.then ?_
        refine TC.condF rfl ?_
        refine TC.skip ?_
        refine TQ.then ?_
        refine TC.seq ?_
        refine TC.draw [(0, true), (2, true), (3, true), (6, true), (7, true), (11, true), (12, true), (14, true), (1, false), (4, true), (5, true), (8, false), (9, true), (10, true), (13, true), (15, true), (16, true)] [0] fc_m (by kernel_rfl) ?_
        refine TL.ldA 0 3 [_, _, _] rfl rfl rfl fc_a45_3 rfl rfl ?_
        refine TL.fa 0 rfl fc_f45_0_0 rfl rfl ?_
        refine TL.ld 0 (.int _ _) rfl rfl rfl fc_s3 rfl rfl ?_
        refine TL.mv (.int _ _) rfl rfl rfl ?_
        refine TL.ldA 0 3 [_, _, _] rfl rfl rfl fc_a45_3 rfl rfl ?_
        refine TL.mv (.int _ _) rfl rfl rfl ?_
        refine TL.mul _ rfl rfl (wr64 (by omega)) rfl rfl ?_
        refine TL.mv (.int _ _) rfl rfl rfl ?_
        refine TL.callD [] [] (levels_ok hl) ⟨rfl, trivial⟩ trivial fc_c75 rfl rfl rfl rfl rfl (.cons rfl rfl trivial) ?_
        refine TL.mul _ rfl rfl (wr64 (by omega)) rfl rfl ?_
        refine TL.add _ rfl rfl (wr64 (by omega)) rfl rfl ?_
        refine TL.callD [] [] (arcs_ok hl) ⟨rfl, trivial⟩ trivial fc_c76 rfl rfl rfl rfl rfl (.cons rfl rfl trivial) ?_
        refine TL.mul _ rfl rfl (wr64 (by have := mul_bd (a := s) (A := 48) (b := l.arcs) (B := 10) (by omega) (by omega) (by omega) (by omega); omega)) rfl rfl ?_
        refine TL.add _ rfl rfl (wr64 (by have := mul_bd (a := s) (A := 48) (b := l.arcs) (B := 10) (by omega) (by omega) (by omega) (by omega); omega)) rfl rfl ?_
        refine TL.add _ rfl rfl (wr64 (by have := mul_bd (a := s) (A := 48) (b := l.arcs) (B := 10) (by omega) (by omega) (by omega) (by omega); omega)) rfl rfl ?_
        refine TL.add _ rfl rfl (wr64 (by have := mul_bd (a := s) (A := 48) (b := l.arcs) (B := 10) (by omega) (by omega) (by omega) (by omega); omega)) rfl rfl ?_
        refine TL.asg (.int _ _) rfl rfl rfl ?_
        refine TL.done ?_
        refine TQ.then ?_
        refine TC.ret ?_
        refine FQ.ret1 (v := (.int _ _)) (Bs := []) [] rfl rfl rfl trivial ?_
        first | exact ⟨iE (by unfold Lay.arc; rw [if_pos (by omega)]), rfl⟩ | exact ⟨iE (by unfold Lay.arc; rw [if_neg (by omega)]), rfl⟩
      · skip
        refine TL.not false true rfl rfl rfl rfl ?_
        refine TL.pickF (.bool true) rfl rfl rfl rfl ?_
        refine TL.done ?_
        refine TQ.then ?_
        refine TC.condT rfl ?_
        refine TC.seq ?_
        refine TC.region ?_
        refine TL.asg (.int _ _) rfl rfl rfl ?_
        refine TL.done ?_
        refine TQ.then ?_
        refine TC.ret ?_
        refine TQ.thenRet ?_
        refine FQ.ret1 (v := (.int _ _)) (Bs := []) [] rfl rfl rfl trivial ?_
        first | exact ⟨iE (by unfold Lay.arc; rw [if_pos (by omega)]), rfl⟩ | exact ⟨iE (by unfold Lay.arc; rw [if_neg (by omega)]), rfl⟩
    · skip
      refine TL.not false true rfl rfl rfl rfl ?_
      refine TL.pickF (.bool true) rfl rfl rfl rfl ?_
      refine TL.mv (.bool true) rfl rfl rfl ?_
      refine TL.off rfl rfl ?_
      refine TL.off rfl rfl ?_
      refine TL.off rfl rfl ?_
      refine TL.pickT (.bool true) rfl rfl rfl rfl ?_
      refine TL.done ?_
      refine TQ.then ?_
      refine TC.condT rfl ?_
      refine TC.seq ?_
      refine TC.region ?_
      refine TL.asg (.int _ _) rfl rfl rfl ?_
      refine TL.done ?_
      refine TQ.then ?_
      refine TC.ret ?_
      refine TQ.thenRet ?_
      refine FQ.ret1 (v := (.int _ _)) (Bs := []) [] rfl rfl rfl trivial ?_
      first | exact ⟨iE (by unfold Lay.arc; rw [if_pos (by omega)]), rfl⟩ | exact ⟨iE (by unfold Lay.arc; rw [if_neg (by omega)]), rfl⟩
  · skip
    refine TL.not false true rfl rfl rfl rfl ?_
    refine TL.mv (.bool true) rfl rfl rfl ?_
    refine TL.off rfl rfl ?_
    refine TL.off rfl rfl ?_
    refine TL.off rfl rfl ?_
    refine TL.off rfl rfl ?_
    refine TL.off rfl rfl ?_
    refine TL.pickT (.bool true) rfl rfl rfl rfl ?_
    refine TL.mv (.bool true) rfl rfl rfl ?_
    refine TL.off rfl rfl ?_
    refine TL.off rfl rfl ?_
    refine TL.off rfl rfl ?_
    refine TL.pickT (.bool true) rfl rfl rfl rfl ?_
    refine TL.done ?_
    refine TQ.then ?_
    refine TC.condT rfl ?_
    refine TC.seq ?_
    refine TC.region ?_
    refine TL.asg (.int _ _) rfl rfl rfl ?_
    refine TL.done ?_
    refine TQ.then ?_
    refine TC.ret ?_
    refine TQ.thenRet ?_
    refine FQ.ret1 (v := (.int _ _)) (Bs := []) [] rfl rfl rfl trivial ?_
    first | exact ⟨iE (by unfold Lay.arc; rw [if_pos (by omega)]), rfl⟩ | exact ⟨iE (by unfold Lay.arc; rw [if_neg (by omega)]), rfl⟩

theorem free_ok {l : Lay} (hl : l.Ok)  : FnD Tryz.prog 74 [layV l] [] (.int .i64 l.free) [] := by
  have hb := lay_bds hl
  refine Fn.enter (Tryz.func74) rfl rfl (fun w0 R => ?_)
  refine TC.seq ?_
  refine TC.region ?_
  refine TL.boxA 0 rfl rfl rfl (fun _ => trivial) (fun bk0 => ?_)
  refine TL.asg (.int _ _) rfl rfl rfl ?_
  refine TL.done ?_
  refine TQ.then ?_
  refine TC.seq ?_
  refine TC.region ?_
  refine TL.fa 2 rfl fc_f45_2_2 rfl rfl ?_
  refine TL.ld 0 (.int _ _) rfl rfl rfl fc_s3 rfl rfl ?_
  refine TL.asg (.int _ _) rfl rfl rfl ?_
  refine TL.done ?_
  refine TQ.then ?_
  refine TC.ret ?_
  refine FQ.ret1 (v := (.int _ _)) (Bs := []) [] rfl rfl rfl trivial ?_
  exact ⟨rfl, rfl⟩

theorem of_ok {l : Lay} (hl : l.Ok) {s f : Int} (hf : 0 ≤ f ∧ f ≤ 8) : FnD Tryz.prog 119 [layV l, .int .i64 s, .int .i64 f] [] (.int .i64 (l.of s f)) [] := by
  have hb := lay_bds hl
  refine Fn.enter (Tryz.func119) rfl rfl (fun w0 R => ?_)
  refine TC.seq ?_
  refine TC.region ?_
  refine TL.boxA 0 rfl rfl rfl (fun _ => trivial) (fun bk0 => ?_)
  refine TL.asg (.int _ _) rfl rfl rfl ?_
  refine TL.done ?_
  refine TQ.then ?_
  refine TC.seq ?_
  refine TC.seq ?_
  refine TC.region ?_
  refine TL.mv (.int _ _) rfl rfl rfl ?_
  refine TL.fa 1 rfl fc_f45_1_1 rfl rfl ?_
  refine TL.ld 0 (.int _ _) rfl rfl rfl fc_s3 rfl rfl ?_
  refine TL.callD [] [] below_ok ⟨rfl, rfl, trivial⟩ trivial fc_c54 rfl rfl rfl rfl rfl trivial ?_
  refine TL.casesP rfl (fun q1 => ?_) (fun q1 => ?_)
  · skip
    refine TL.not true false rfl rfl rfl rfl ?_
    refine TL.done ?_
    refine TQ.then ?_
    refine TC.condF rfl ?_
    refine TC.skip ?_
    refine TQ.then ?_
    refine TC.seq ?_
    refine TC.region ?_
    refine TL.ldA 0 3 [_, _, _] rfl rfl rfl fc_a45_3 rfl rfl ?_
    refine TL.callD [] [] (free_ok hl) ⟨rfl, trivial⟩ trivial fc_c74 rfl rfl rfl rfl rfl trivial ?_
    refine TL.add _ rfl rfl (wr64 (by omega)) rfl rfl ?_
    refine TL.mv (.int _ _) rfl rfl rfl ?_
    refine TL.mul _ rfl rfl (wr64 (by omega)) rfl rfl ?_
    refine TL.add _ rfl rfl (wr64 (by omega)) rfl rfl ?_
    refine TL.mv (.int _ _) rfl rfl rfl ?_
    refine TL.add _ rfl rfl (wr64 (by omega)) rfl rfl ?_
    refine TL.asg (.int _ _) rfl rfl rfl ?_
    refine TL.done ?_
    refine TQ.then ?_
    refine TC.ret ?_
    refine FQ.ret1 (v := (.int _ _)) (Bs := []) [] rfl rfl rfl trivial ?_
    first | exact ⟨iE (by unfold Lay.of Lay.free at *; rw [if_pos (by omega)]), rfl⟩ | exact ⟨iE (by unfold Lay.of Lay.free at *; rw [if_neg (by omega)]), rfl⟩
  · skip
    refine TL.not false true rfl rfl rfl rfl ?_
    refine TL.done ?_
    refine TQ.then ?_
    refine TC.condT rfl ?_
    refine TC.seq ?_
    refine TC.region ?_
    refine TL.asg (.int _ _) rfl rfl rfl ?_
    refine TL.done ?_
    refine TQ.then ?_
    refine TC.ret ?_
    refine TQ.thenRet ?_
    refine FQ.ret1 (v := (.int _ _)) (Bs := []) [] rfl rfl rfl trivial ?_
    first | exact ⟨iE (by unfold Lay.of Lay.free at *; rw [if_pos (by omega)]), rfl⟩ | exact ⟨iE (by unfold Lay.of Lay.free at *; rw [if_neg (by omega)]), rfl⟩

theorem ends_ok {l : Lay} (hl : l.Ok) {s : Int} : FnD Tryz.prog 151 [layV l, .int .i64 s] [] (.int .i64 (l.ends s)) [] := by
  have hb := lay_bds hl
  refine Fn.enter (Tryz.func151) rfl rfl (fun w0 R => ?_)
  refine TC.seq ?_
  refine TC.region ?_
  refine TL.boxA 0 rfl rfl rfl (fun _ => trivial) (fun bk0 => ?_)
  refine TL.asg (.int _ _) rfl rfl rfl ?_
  refine TL.done ?_
  refine TQ.then ?_
  refine TC.seq ?_
  refine TC.region ?_
  refine TL.ldA 0 3 [_, _, _] rfl rfl rfl fc_a45_3 rfl rfl ?_
  refine TL.mv (.int _ _) rfl rfl rfl ?_
  refine TL.callD [] [] (of_ok hl (by omega)) ⟨rfl, rfl, rfl, trivial⟩ trivial fc_c119 rfl rfl rfl rfl rfl trivial ?_
  refine TL.asg (.int _ _) rfl rfl rfl ?_
  refine TL.done ?_
  refine TQ.then ?_
  refine TC.ret ?_
  refine FQ.ret1 (v := (.int _ _)) (Bs := []) [] rfl rfl rfl trivial ?_
  exact ⟨rfl, rfl⟩

theorem level_ok {l : Lay} (hl : l.Ok) {s : Int} : FnD Tryz.prog 128 [layV l, .int .i64 s] [] (.int .i64 (l.level s)) [] := by
  have hb := lay_bds hl
  refine Fn.enter (Tryz.func128) rfl rfl (fun w0 R => ?_)
  refine TC.seq ?_
  refine TC.region ?_
  refine TL.boxA 0 rfl rfl rfl (fun _ => trivial) (fun bk0 => ?_)
  refine TL.asg (.int _ _) rfl rfl rfl ?_
  refine TL.done ?_
  refine TQ.then ?_
  refine TC.seq ?_
  refine TC.region ?_
  refine TL.ldA 0 3 [_, _, _] rfl rfl rfl fc_a45_3 rfl rfl ?_
  refine TL.mv (.int _ _) rfl rfl rfl ?_
  refine TL.callD [] [] (of_ok hl (by omega)) ⟨rfl, rfl, rfl, trivial⟩ trivial fc_c119 rfl rfl rfl rfl rfl trivial ?_
  refine TL.asg (.int _ _) rfl rfl rfl ?_
  refine TL.done ?_
  refine TQ.then ?_
  refine TC.ret ?_
  refine FQ.ret1 (v := (.int _ _)) (Bs := []) [] rfl rfl rfl trivial ?_
  exact ⟨rfl, rfl⟩

theorem next_ok {l : Lay} (hl : l.Ok) {s d : Int} : FnD Tryz.prog 178 [layV l, .int .i64 s, .int .i64 d] [] (.int .i64 (l.next s d)) [] := by
  have hb := lay_bds hl
  refine Fn.enter (Tryz.func178) rfl rfl (fun w0 R => ?_)
  refine TC.seq ?_
  refine TC.region ?_
  refine TL.boxA 0 rfl rfl rfl (fun _ => trivial) (fun bk0 => ?_)
  refine TL.asg (.int _ _) rfl rfl rfl ?_
  refine TL.done ?_
  refine TQ.then ?_
  refine TC.seq ?_
  refine TC.seq ?_
  refine TC.region ?_
  refine TL.mv (.int _ _) rfl rfl rfl ?_
  refine TL.callD [] [] below_ok ⟨rfl, rfl, trivial⟩ trivial fc_c54 rfl rfl rfl rfl rfl trivial ?_
  refine TL.casesP rfl (fun q1 => ?_) (fun q1 => ?_)
  · skip
    refine TL.not true false rfl rfl rfl rfl ?_
    refine TL.done ?_
    refine TQ.then ?_
    refine TC.condF rfl ?_
    refine TC.skip ?_
    refine TQ.then ?_
    refine TC.seq ?_
    refine TC.region ?_
    refine TL.ldA 0 3 [_, _, _] rfl rfl rfl fc_a45_3 rfl rfl ?_
    refine TL.mv (.int _ _) rfl rfl rfl ?_
    refine TL.mv (.int _ _) rfl rfl rfl ?_
    refine TL.add _ rfl rfl (wr64 (by omega)) rfl rfl ?_
    refine TL.callD [] [] (of_ok hl (by omega)) ⟨rfl, rfl, rfl, trivial⟩ trivial fc_c119 rfl rfl rfl rfl rfl trivial ?_
    refine TL.asg (.int _ _) rfl rfl rfl ?_
    refine TL.done ?_
    refine TQ.then ?_
    refine TC.ret ?_
    refine FQ.ret1 (v := (.int _ _)) (Bs := []) [] rfl rfl rfl trivial ?_
    first | exact ⟨iE (by unfold Lay.next; rw [if_pos (by omega)]), rfl⟩ | exact ⟨iE (by unfold Lay.next; rw [if_neg (by omega)]), rfl⟩
  · skip
    refine TL.not false true rfl rfl rfl rfl ?_
    refine TL.done ?_
    refine TQ.then ?_
    refine TC.condT rfl ?_
    refine TC.seq ?_
    refine TC.region ?_
    refine TL.asg (.int _ _) rfl rfl rfl ?_
    refine TL.done ?_
    refine TQ.then ?_
    refine TC.ret ?_
    refine TQ.thenRet ?_
    refine FQ.ret1 (v := (.int _ _)) (Bs := []) [] rfl rfl rfl trivial ?_
    first | exact ⟨iE (by unfold Lay.next; rw [if_pos (by omega)]), rfl⟩ | exact ⟨iE (by unfold Lay.next; rw [if_neg (by omega)]), rfl⟩

theorem prev_ok {l : Lay} (hl : l.Ok) {s d : Int} : FnD Tryz.prog 217 [layV l, .int .i64 s, .int .i64 d] [] (.int .i64 (l.prev s d)) [] := by
  have hb := lay_bds hl
  refine Fn.enter (Tryz.func217) rfl rfl (fun w0 R => ?_)
  refine TC.seq ?_
  refine TC.region ?_
  refine TL.boxA 0 rfl rfl rfl (fun _ => trivial) (fun bk0 => ?_)
  refine TL.asg (.int _ _) rfl rfl rfl ?_
  refine TL.done ?_
  refine TQ.then ?_
  refine TC.seq ?_
  refine TC.seq ?_
  refine TC.region ?_
  refine TL.mv (.int _ _) rfl rfl rfl ?_
  refine TL.callD [] [] below_ok ⟨rfl, rfl, trivial⟩ trivial fc_c54 rfl rfl rfl rfl rfl trivial ?_
  refine TL.casesP rfl (fun q1 => ?_) (fun q1 => ?_)
  · skip
    refine TL.not true false rfl rfl rfl rfl ?_
    refine TL.done ?_
    refine TQ.then ?_
    refine TC.condF rfl ?_
    refine TC.skip ?_
    refine TQ.then ?_
    refine TC.seq ?_
    refine TC.region ?_
    refine TL.ldA 0 3 [_, _, _] rfl rfl rfl fc_a45_3 rfl rfl ?_
    refine TL.mv (.int _ _) rfl rfl rfl ?_
    refine TL.mv (.int _ _) rfl rfl rfl ?_
    refine TL.add _ rfl rfl (wr64 (by omega)) rfl rfl ?_
    refine TL.callD [] [] (of_ok hl (by omega)) ⟨rfl, rfl, rfl, trivial⟩ trivial fc_c119 rfl rfl rfl rfl rfl trivial ?_
    refine TL.asg (.int _ _) rfl rfl rfl ?_
    refine TL.done ?_
    refine TQ.then ?_
    refine TC.ret ?_
    refine FQ.ret1 (v := (.int _ _)) (Bs := []) [] rfl rfl rfl trivial ?_
    first | exact ⟨iE (by unfold Lay.prev; rw [if_pos (by omega)]), rfl⟩ | exact ⟨iE (by unfold Lay.prev; rw [if_neg (by omega)]), rfl⟩
  · skip
    refine TL.not false true rfl rfl rfl rfl ?_
    refine TL.done ?_
    refine TQ.then ?_
    refine TC.condT rfl ?_
    refine TC.seq ?_
    refine TC.region ?_
    refine TL.asg (.int _ _) rfl rfl rfl ?_
    refine TL.done ?_
    refine TQ.then ?_
    refine TC.ret ?_
    refine TQ.thenRet ?_
    refine FQ.ret1 (v := (.int _ _)) (Bs := []) [] rfl rfl rfl trivial ?_
    first | exact ⟨iE (by unfold Lay.prev; rw [if_pos (by omega)]), rfl⟩ | exact ⟨iE (by unfold Lay.prev; rw [if_neg (by omega)]), rfl⟩

theorem heads_ok {l : Lay} (hl : l.Ok)  : FnD Tryz.prog 140 [layV l] [] (.int .i64 l.heads) [] := by
  have hb := lay_bds hl
  refine Fn.enter (Tryz.func140) rfl rfl (fun w0 R => ?_)
  refine TC.seq ?_
  refine TC.region ?_
  refine TL.boxA 0 rfl rfl rfl (fun _ => trivial) (fun bk0 => ?_)
  refine TL.asg (.int _ _) rfl rfl rfl ?_
  refine TL.done ?_
  refine TQ.then ?_
  refine TC.seq ?_
  refine TC.draw [(0, true), (3, true), (4, true), (5, true), (1, false), (2, true), (6, true), (7, true)] [0] fc_m (by kernel_rfl) ?_
  refine TL.ldA 0 3 [_, _, _] rfl rfl rfl fc_a45_3 rfl rfl ?_
  refine TL.fa 1 rfl fc_f45_1_1 rfl rfl ?_
  refine TL.ld 0 (.int _ _) rfl rfl rfl fc_s3 rfl rfl ?_
  refine TL.mul _ rfl rfl (wr64 (by omega)) rfl rfl ?_
  refine TL.callD [] [] (free_ok hl) ⟨rfl, trivial⟩ trivial fc_c74 rfl rfl rfl rfl rfl (.cons rfl rfl trivial) ?_
  refine TL.add _ rfl rfl (wr64 (by omega)) rfl rfl ?_
  refine TL.add _ rfl rfl (wr64 (by omega)) rfl rfl ?_
  refine TL.asg (.int _ _) rfl rfl rfl ?_
  refine TL.done ?_
  refine TQ.then ?_
  refine TC.ret ?_
  refine FQ.ret1 (v := (.int _ _)) (Bs := []) [] rfl rfl rfl trivial ?_
  exact ⟨rfl, rfl⟩

theorem head_ok {l : Lay} (hl : l.Ok) {v i : Int} : FnD Tryz.prog 136 [layV l, .int .i64 v, .int .i64 i] [] (.int .i64 (l.head v i)) [] := by
  have hb := lay_bds hl
  refine Fn.enter (Tryz.func136) rfl rfl (fun w0 R => ?_)
  refine TC.seq ?_
  refine TC.region ?_
  refine TL.boxA 0 rfl rfl rfl (fun _ => trivial) (fun bk0 => ?_)
  refine TL.asg (.int _ _) rfl rfl rfl ?_
  refine TL.done ?_
  refine TQ.then ?_
  refine TC.seq ?_
  refine TC.seq ?_
  refine TC.region ?_
  refine TL.mv (.int _ _) rfl rfl rfl ?_
  refine TL.fa 0 rfl fc_f45_0_0 rfl rfl ?_
  refine TL.ld 0 (.int _ _) rfl rfl rfl fc_s3 rfl rfl ?_
  refine TL.callD [] [] below_ok ⟨rfl, rfl, trivial⟩ trivial fc_c54 rfl rfl rfl rfl rfl trivial ?_
  refine TL.casesP rfl (fun q1 => ?_) (fun q1 => ?_)
  · skip
    refine TL.not true false rfl rfl rfl rfl ?_
    refine TL.mv (.bool false) rfl rfl rfl ?_
    refine TL.mv (.int _ _) rfl rfl rfl ?_
    refine TL.ldA 0 3 [_, _, _] rfl rfl rfl fc_a45_3 rfl rfl ?_
    refine TL.callD [] [] (levels_ok hl) ⟨rfl, trivial⟩ trivial fc_c75 rfl rfl rfl rfl rfl trivial ?_
    refine TL.callD [] [] below_ok ⟨rfl, rfl, trivial⟩ trivial fc_c54 rfl rfl rfl rfl rfl trivial ?_
    refine TL.casesP rfl (fun q2 => ?_) (fun q2 => ?_)
    · skip
      refine TL.not true false rfl rfl rfl rfl ?_
      refine TL.pickF (.bool false) rfl rfl rfl rfl ?_
      refine TL.done ?_
      refine TQ.then ?_
      refine TC.condF rfl ?_
      refine TC.skip ?_
      refine TQ.then ?_
      refine TC.seq ?_
      refine TC.draw [(0, true), (2, true), (3, true), (7, true), (1, false), (4, false), (5, true), (6, true), (8, true), (9, true)] [0] fc_m (by kernel_rfl) ?_
      refine TL.ldA 0 3 [_, _, _] rfl rfl rfl fc_a45_3 rfl rfl ?_
      refine TL.mv (.int _ _) rfl rfl rfl ?_
      refine TL.ldA 0 3 [_, _, _] rfl rfl rfl fc_a45_3 rfl rfl ?_
      refine TL.mv (.int _ _) rfl rfl rfl ?_
      refine TL.callD [] [] (heads_ok hl) ⟨rfl, trivial⟩ trivial fc_c140 rfl rfl rfl rfl rfl (.cons rfl rfl trivial) ?_
      refine TL.callD [] [] (levels_ok hl) ⟨rfl, trivial⟩ trivial fc_c75 rfl rfl rfl rfl rfl (.cons rfl rfl trivial) ?_
      refine TL.mul _ rfl rfl (wr64 (by have := mul_bd (a := v) (A := 16) (b := l.lev) (B := 5) (by omega) (by omega) (by omega) (by omega); omega)) rfl rfl ?_
      refine TL.add _ rfl rfl (wr64 (by have := mul_bd (a := v) (A := 16) (b := l.lev) (B := 5) (by omega) (by omega) (by omega) (by omega); omega)) rfl rfl ?_
      refine TL.add _ rfl rfl (wr64 (by have := mul_bd (a := v) (A := 16) (b := l.lev) (B := 5) (by omega) (by omega) (by omega) (by omega); omega)) rfl rfl ?_
      refine TL.asg (.int _ _) rfl rfl rfl ?_
      refine TL.done ?_
      refine TQ.then ?_
      refine TC.ret ?_
      refine FQ.ret1 (v := (.int _ _)) (Bs := []) [] rfl rfl rfl trivial ?_
      first | exact ⟨iE (by unfold Lay.head; rw [if_pos (by omega)]), rfl⟩ | exact ⟨iE (by unfold Lay.head; rw [if_neg (by omega)]), rfl⟩
    · skip
      refine TL.not false true rfl rfl rfl rfl ?_
      refine TL.pickF (.bool true) rfl rfl rfl rfl ?_
      refine TL.done ?_
      refine TQ.then ?_
      refine TC.condT rfl ?_
      refine TC.seq ?_
      refine TC.region ?_
      refine TL.asg (.int _ _) rfl rfl rfl ?_
      refine TL.done ?_
      refine TQ.then ?_
      refine TC.ret ?_
      refine TQ.thenRet ?_
      refine FQ.ret1 (v := (.int _ _)) (Bs := []) [] rfl rfl rfl trivial ?_
      first | exact ⟨iE (by unfold Lay.head; rw [if_pos (by omega)]), rfl⟩ | exact ⟨iE (by unfold Lay.head; rw [if_neg (by omega)]), rfl⟩
  · skip
    refine TL.not false true rfl rfl rfl rfl ?_
    refine TL.mv (.bool true) rfl rfl rfl ?_
    refine TL.off rfl rfl ?_
    refine TL.off rfl rfl ?_
    refine TL.off rfl rfl ?_
    refine TL.off rfl rfl ?_
    refine TL.off rfl rfl ?_
    refine TL.pickT (.bool true) rfl rfl rfl rfl ?_
    refine TL.done ?_
    refine TQ.then ?_
    refine TC.condT rfl ?_
    refine TC.seq ?_
    refine TC.region ?_
    refine TL.asg (.int _ _) rfl rfl rfl ?_
    refine TL.done ?_
    refine TQ.then ?_
    refine TC.ret ?_
    refine TQ.thenRet ?_
    refine FQ.ret1 (v := (.int _ _)) (Bs := []) [] rfl rfl rfl trivial ?_
    first | exact ⟨iE (by unfold Lay.head; rw [if_pos (by omega)]), rfl⟩ | exact ⟨iE (by unfold Lay.head; rw [if_neg (by omega)]), rfl⟩

theorem edges_ok {l : Lay} (hl : l.Ok)  : FnD Tryz.prog 91 [layV l] [] (.int .i64 l.edges) [] := by
  have hb := lay_bds hl
  refine Fn.enter (Tryz.func91) rfl rfl (fun w0 R => ?_)
  refine TC.seq ?_
  refine TC.region ?_
  refine TL.boxA 0 rfl rfl rfl (fun _ => trivial) (fun bk0 => ?_)
  refine TL.asg (.int _ _) rfl rfl rfl ?_
  refine TL.done ?_
  refine TQ.then ?_
  refine TC.seq ?_
  refine TC.draw [(0, true), (2, true), (3, true), (4, true), (1, false), (5, false), (6, true), (7, true), (8, true)] [0] fc_m (by kernel_rfl) ?_
  refine TL.ldA 0 3 [_, _, _] rfl rfl rfl fc_a45_3 rfl rfl ?_
  refine TL.fa 0 rfl fc_f45_0_0 rfl rfl ?_
  refine TL.ld 0 (.int _ _) rfl rfl rfl fc_s3 rfl rfl ?_
  refine TL.ldA 0 3 [_, _, _] rfl rfl rfl fc_a45_3 rfl rfl ?_
  refine TL.callD [] [] (heads_ok hl) ⟨rfl, trivial⟩ trivial fc_c140 rfl rfl rfl rfl rfl (.cons rfl rfl trivial) ?_
  refine TL.callD [] [] (levels_ok hl) ⟨rfl, trivial⟩ trivial fc_c75 rfl rfl rfl rfl rfl (.cons rfl rfl trivial) ?_
  refine TL.mul _ rfl rfl (wr64 (by omega)) rfl rfl ?_
  refine TL.add _ rfl rfl (wr64 (by omega)) rfl rfl ?_
  refine TL.asg (.int _ _) rfl rfl rfl ?_
  refine TL.done ?_
  refine TQ.then ?_
  refine TC.ret ?_
  refine FQ.ret1 (v := (.int _ _)) (Bs := []) [] rfl rfl rfl trivial ?_
  exact ⟨rfl, rfl⟩

theorem edge_ok {l : Lay} (hl : l.Ok) {a b : Int} : FnD Tryz.prog 97 [layV l, .int .i64 a, .int .i64 b] [] (.int .i64 (l.edge a b)) [] := by
  have hb := lay_bds hl
  refine Fn.enter (Tryz.func97) rfl rfl (fun w0 R => ?_)
  refine TC.seq ?_
  refine TC.region ?_
  refine TL.boxA 0 rfl rfl rfl (fun _ => trivial) (fun bk0 => ?_)
  refine TL.asg (.int _ _) rfl rfl rfl ?_
  refine TL.done ?_
  refine TQ.then ?_
  refine TC.seq ?_
  refine TC.region ?_
  refine TL.mv (.int _ _) rfl rfl rfl ?_
  refine TL.mv (.int _ _) rfl rfl rfl ?_
  refine TL.min2 rfl rfl rfl rfl ?_
  refine TL.mv (.int _ _) rfl rfl rfl ?_
  refine TL.mv (.int _ _) rfl rfl rfl ?_
  refine TL.max2 rfl rfl rfl rfl ?_
  refine TL.asg (.int _ _) rfl rfl rfl ?_
  refine TL.asg (.int _ _) rfl rfl rfl ?_
  refine TL.done ?_
  refine TQ.then ?_
  refine TC.seq ?_
  refine TC.seq ?_
  refine TC.region ?_
  refine TL.mv (.int _ _) rfl rfl rfl ?_
  refine TL.mv (.int _ _) rfl rfl rfl ?_
  refine TL.eql rfl rfl rfl rfl (fun q1 => ?_) (fun q1 => ?_)
  · skip
    refine TL.mv (.bool true) rfl rfl rfl ?_
    refine TL.off rfl rfl ?_
    refine TL.off rfl rfl ?_
    refine TL.off rfl rfl ?_
    refine TL.off rfl rfl ?_
    refine TL.off rfl rfl ?_
    refine TL.pickT (.bool true) rfl rfl rfl rfl ?_
    refine TL.mv (.bool true) rfl rfl rfl ?_
    refine TL.off rfl rfl ?_
    refine TL.off rfl rfl ?_
    refine TL.off rfl rfl ?_
    refine TL.off rfl rfl ?_
    refine TL.off rfl rfl ?_
    refine TL.pickT (.bool true) rfl rfl rfl rfl ?_
    refine TL.done ?_
    refine TQ.then ?_
    refine TC.condT rfl ?_
    refine TC.seq ?_
    refine TC.region ?_
    refine TL.asg (.int _ _) rfl rfl rfl ?_
    refine TL.done ?_
    refine TQ.then ?_
    refine TC.ret ?_
    refine TQ.thenRet ?_
    refine FQ.ret1 (v := (.int _ _)) (Bs := []) [] rfl rfl rfl trivial ?_
    first | exact ⟨iE (by unfold Lay.edge; rw [if_neg (by omega)]), rfl⟩ | exact ⟨iE (by unfold Lay.edge; rw [if_pos (by omega)]), rfl⟩
  · skip
    refine TL.mv (.bool false) rfl rfl rfl ?_
    refine TL.mv (.int _ _) rfl rfl rfl ?_
    refine TL.fa 0 rfl fc_f45_0_0 rfl rfl ?_
    refine TL.ld 0 (.int _ _) rfl rfl rfl fc_s3 rfl rfl ?_
    refine TL.callD [] [] below_ok ⟨rfl, rfl, trivial⟩ trivial fc_c54 rfl rfl rfl rfl rfl trivial ?_
    refine TL.casesP rfl (fun q2 => ?_) (fun q2 => ?_)
    · skip
      refine TL.not true false rfl rfl rfl rfl ?_
      refine TL.pickF (.bool false) rfl rfl rfl rfl ?_
      refine TL.mv (.bool false) rfl rfl rfl ?_
      refine TL.mv (.int _ _) rfl rfl rfl ?_
      refine TL.fa 0 rfl fc_f45_0_0 rfl rfl ?_
      refine TL.ld 0 (.int _ _) rfl rfl rfl fc_s3 rfl rfl ?_
      refine TL.callD [] [] below_ok ⟨rfl, rfl, trivial⟩ trivial fc_c54 rfl rfl rfl rfl rfl trivial ?_
      refine TL.casesP rfl (fun q3 => ?_) (fun q3 => ?_)
      · skip
        refine TL.not true false rfl rfl rfl rfl ?_
        refine TL.pickF (.bool false) rfl rfl rfl rfl ?_
        refine TL.done ?_
        refine TQ.then ?_
        refine TC.condF rfl ?_
        refine TC.skip ?_
        refine TQ.then ?_
        refine TC.seq ?_
        refine TC.draw [(0, true), (2, true), (3, true), (4, true), (5, true), (6, true), (7, true), (8, true), (9, true), (10, true), (12, true), (14, true), (1, false), (11, true), (13, true), (15, true), (16, true), (17, true)] [0] fc_m (by kernel_rfl) ?_
        refine TL.ldA 0 3 [_, _, _] rfl rfl rfl fc_a45_3 rfl rfl ?_
        refine TL.mv (.int _ _) rfl rfl rfl ?_
        refine TL.fa 0 rfl fc_f45_0_0 rfl rfl ?_
        refine TL.ld 0 (.int _ _) rfl rfl rfl fc_s3 rfl rfl ?_
        refine TL.mul _ rfl rfl (wr64 (by omega)) rfl rfl ?_
        refine TL.mv (.int _ _) rfl rfl rfl ?_
        refine TL.sub _ rfl rfl (wr64 (by omega)) rfl rfl ?_
        refine TL.sub _ rfl rfl (wr64 (by omega)) rfl rfl ?_
        refine TL.mul _ rfl rfl (wr64 (by have h9 := edge_bd (x := min a b) (V := (l.V : Int)) (by omega) (by omega) (by omega); omega)) rfl rfl ?_
        refine TL.quo _ rfl rfl (by omega) (quo64 (by have h9 := edge_bd (x := min a b) (V := (l.V : Int)) (by omega) (by omega) (by omega); omega) (by omega) (by have h9 := edge_bd (x := min a b) (V := (l.V : Int)) (by omega) (by omega) (by omega); omega)) rfl rfl ?_
        refine TL.mv (.int _ _) rfl rfl rfl ?_
        refine TL.mv (.int _ _) rfl rfl rfl ?_
        refine TL.callD [] [] (edges_ok hl) ⟨rfl, trivial⟩ trivial fc_c91 rfl rfl rfl rfl rfl (.cons rfl rfl trivial) ?_
        refine TL.add _ rfl rfl (wr64 (by have h9 := edge_bd (x := min a b) (V := (l.V : Int)) (by omega) (by omega) (by omega); omega)) rfl rfl ?_
        refine TL.add _ rfl rfl (wr64 (by have h9 := edge_bd (x := min a b) (V := (l.V : Int)) (by omega) (by omega) (by omega); omega)) rfl rfl ?_
        refine TL.sub _ rfl rfl (wr64 (by have h9 := edge_bd (x := min a b) (V := (l.V : Int)) (by omega) (by omega) (by omega); omega)) rfl rfl ?_
        refine TL.sub _ rfl rfl (wr64 (by have h9 := edge_bd (x := min a b) (V := (l.V : Int)) (by omega) (by omega) (by omega); omega)) rfl rfl ?_
        refine TL.asg (.int _ _) rfl rfl rfl ?_
        refine TL.done ?_
        refine TQ.then ?_
        refine TC.ret ?_
        refine FQ.ret1 (v := (.int _ _)) (Bs := []) [] rfl rfl rfl trivial ?_
        first | exact ⟨iE (by unfold Lay.edge; rw [if_neg (by omega)]), rfl⟩ | exact ⟨iE (by unfold Lay.edge; rw [if_pos (by omega)]), rfl⟩
      · skip
        refine TL.not false true rfl rfl rfl rfl ?_
        refine TL.pickF (.bool true) rfl rfl rfl rfl ?_
        refine TL.done ?_
        refine TQ.then ?_
        refine TC.condT rfl ?_
        refine TC.seq ?_
        refine TC.region ?_
        refine TL.asg (.int _ _) rfl rfl rfl ?_
        refine TL.done ?_
        refine TQ.then ?_
        refine TC.ret ?_
        refine TQ.thenRet ?_
        refine FQ.ret1 (v := (.int _ _)) (Bs := []) [] rfl rfl rfl trivial ?_
        first | exact ⟨iE (by unfold Lay.edge; rw [if_neg (by omega)]), rfl⟩ | exact ⟨iE (by unfold Lay.edge; rw [if_pos (by omega)]), rfl⟩
    · skip
      refine TL.not false true rfl rfl rfl rfl ?_
      refine TL.pickF (.bool true) rfl rfl rfl rfl ?_
      refine TL.mv (.bool true) rfl rfl rfl ?_
      refine TL.off rfl rfl ?_
      refine TL.off rfl rfl ?_
      refine TL.off rfl rfl ?_
      refine TL.off rfl rfl ?_
      refine TL.off rfl rfl ?_
      refine TL.pickT (.bool true) rfl rfl rfl rfl ?_
      refine TL.done ?_
      refine TQ.then ?_
      refine TC.condT rfl ?_
      refine TC.seq ?_
      refine TC.region ?_
      refine TL.asg (.int _ _) rfl rfl rfl ?_
      refine TL.done ?_
      refine TQ.then ?_
      refine TC.ret ?_
      refine TQ.thenRet ?_
      refine FQ.ret1 (v := (.int _ _)) (Bs := []) [] rfl rfl rfl trivial ?_
      first | exact ⟨iE (by unfold Lay.edge; rw [if_neg (by omega)]), rfl⟩ | exact ⟨iE (by unfold Lay.edge; rw [if_pos (by omega)]), rfl⟩

theorem base_ok {l : Lay} (hl : l.Ok)  : FnD Tryz.prog 55 [layV l] [] (.int .i64 l.base) [] := by
  have hb := lay_bds hl
  refine Fn.enter (Tryz.func55) rfl rfl (fun w0 R => ?_)
  refine TC.seq ?_
  refine TC.region ?_
  refine TL.boxA 0 rfl rfl rfl (fun _ => trivial) (fun bk0 => ?_)
  refine TL.asg (.int _ _) rfl rfl rfl ?_
  refine TL.done ?_
  refine TQ.then ?_
  refine TC.seq ?_
  refine TC.draw [(0, true), (2, true), (3, true), (4, true), (5, true), (6, true), (7, true), (8, true), (1, false), (9, true), (10, true)] [0] fc_m (by kernel_rfl) ?_
  refine TL.ldA 0 3 [_, _, _] rfl rfl rfl fc_a45_3 rfl rfl ?_
  refine TL.fa 0 rfl fc_f45_0_0 rfl rfl ?_
  refine TL.ld 0 (.int _ _) rfl rfl rfl fc_s3 rfl rfl ?_
  refine TL.fa 0 rfl fc_f45_0_0 rfl rfl ?_
  refine TL.ld 0 (.int _ _) rfl rfl rfl fc_s3 rfl rfl ?_
  refine TL.sub _ rfl rfl (wr64 (by omega)) rfl rfl ?_
  refine TL.mul _ rfl rfl (wr64 (by omega)) rfl rfl ?_
  refine TL.quo _ rfl rfl (by omega) (quo64 (by omega) (by omega) (by omega)) rfl rfl ?_
  refine TL.callD [] [] (edges_ok hl) ⟨rfl, trivial⟩ trivial fc_c91 rfl rfl rfl rfl rfl (.cons rfl rfl trivial) ?_
  refine TL.add _ rfl rfl (wr64 (by omega)) rfl rfl ?_
  refine TL.asg (.int _ _) rfl rfl rfl ?_
  refine TL.done ?_
  refine TQ.then ?_
  refine TC.ret ?_
  refine FQ.ret1 (v := (.int _ _)) (Bs := []) [] rfl rfl rfl trivial ?_
  exact ⟨rfl, rfl⟩

theorem field_ok {l : Lay} (hl : l.Ok) {x f : Int} : FnD Tryz.prog 23 [layV l, .int .i64 x, .int .i64 f] [] (.int .i64 (l.field x f)) [] := by
  have hb := lay_bds hl
  refine Fn.enter (Tryz.func23) rfl rfl (fun w0 R => ?_)
  refine TC.seq ?_
  refine TC.region ?_
  refine TL.boxA 0 rfl rfl rfl (fun _ => trivial) (fun bk0 => ?_)
  refine TL.asg (.int _ _) rfl rfl rfl ?_
  refine TL.done ?_
  refine TQ.then ?_
  refine TC.seq ?_
  refine TC.seq ?_
  refine TC.region ?_
  refine TL.mv (.int _ _) rfl rfl rfl ?_
  refine TL.sub _ rfl rfl (rfl) rfl rfl ?_
  refine TL.ldA 0 3 [_, _, _] rfl rfl rfl fc_a45_3 rfl rfl ?_
  refine TL.callD [] [] (nodes_ok hl) ⟨rfl, trivial⟩ trivial fc_c43 rfl rfl rfl rfl rfl trivial ?_
  refine TL.callD [] [] below_ok ⟨rfl, rfl, trivial⟩ trivial fc_c54 rfl rfl rfl rfl rfl trivial ?_
  refine TL.casesP rfl (fun q1 => ?_) (fun q1 => ?_)
  · skip
    refine TL.not true false rfl rfl rfl rfl ?_
    refine TL.mv (.bool false) rfl rfl rfl ?_
    refine TL.mv (.int _ _) rfl rfl rfl ?_
    refine TL.callD [] [] below_ok ⟨rfl, rfl, trivial⟩ trivial fc_c54 rfl rfl rfl rfl rfl trivial ?_
    refine TL.casesP rfl (fun q2 => ?_) (fun q2 => ?_)
    · skip
      refine TL.not true false rfl rfl rfl rfl ?_
      refine TL.pickF (.bool false) rfl rfl rfl rfl ?_
      refine TL.done ?_
      refine TQ.then ?_
      refine TC.condF rfl ?_
      refine TC.skip ?_
      refine TQ.then ?_
      refine TC.seq ?_
      refine TC.region ?_
      refine TL.ldA 0 3 [_, _, _] rfl rfl rfl fc_a45_3 rfl rfl ?_
      refine TL.callD [] [] (base_ok hl) ⟨rfl, trivial⟩ trivial fc_c55 rfl rfl rfl rfl rfl trivial ?_
      refine TL.mv (.int _ _) rfl rfl rfl ?_
      refine TL.sub _ rfl rfl (rfl) rfl rfl ?_
      refine TL.mul _ rfl rfl (wr64 (by omega)) rfl rfl ?_
      refine TL.add _ rfl rfl (wr64 (by omega)) rfl rfl ?_
      refine TL.mv (.int _ _) rfl rfl rfl ?_
      refine TL.add _ rfl rfl (wr64 (by omega)) rfl rfl ?_
      refine TL.asg (.int _ _) rfl rfl rfl ?_
      refine TL.done ?_
      refine TQ.then ?_
      refine TC.ret ?_
      refine FQ.ret1 (v := (.int _ _)) (Bs := []) [] rfl rfl rfl trivial ?_
      first | exact ⟨iE (by unfold Lay.field; rw [if_pos (by omega)]), rfl⟩ | exact ⟨iE (by unfold Lay.field; rw [if_neg (by omega)]), rfl⟩
    · skip
      refine TL.not false true rfl rfl rfl rfl ?_
      refine TL.pickF (.bool true) rfl rfl rfl rfl ?_
      refine TL.done ?_
      refine TQ.then ?_
      refine TC.condT rfl ?_
      refine TC.seq ?_
      refine TC.region ?_
      refine TL.asg (.int _ _) rfl rfl rfl ?_
      refine TL.done ?_
      refine TQ.then ?_
      refine TC.ret ?_
      refine TQ.thenRet ?_
      refine FQ.ret1 (v := (.int _ _)) (Bs := []) [] rfl rfl rfl trivial ?_
      first | exact ⟨iE (by unfold Lay.field; rw [if_pos (by omega)]), rfl⟩ | exact ⟨iE (by unfold Lay.field; rw [if_neg (by omega)]), rfl⟩
  · skip
    refine TL.not false true rfl rfl rfl rfl ?_
    refine TL.mv (.bool true) rfl rfl rfl ?_
    refine TL.off rfl rfl ?_
    refine TL.off rfl rfl ?_
    refine TL.off rfl rfl ?_
    refine TL.pickT (.bool true) rfl rfl rfl rfl ?_
    refine TL.done ?_
    refine TQ.then ?_
    refine TC.condT rfl ?_
    refine TC.seq ?_
    refine TC.region ?_
    refine TL.asg (.int _ _) rfl rfl rfl ?_
    refine TL.done ?_
    refine TQ.then ?_
    refine TC.ret ?_
    refine TQ.thenRet ?_
    refine FQ.ret1 (v := (.int _ _)) (Bs := []) [] rfl rfl rfl trivial ?_
    first | exact ⟨iE (by unfold Lay.field; rw [if_pos (by omega)]), rfl⟩ | exact ⟨iE (by unfold Lay.field; rw [if_neg (by omega)]), rfl⟩

theorem cells_ok {l : Lay} (hl : l.Ok)  : FnD Tryz.prog 41 [layV l] [] (.int .i64 l.cells) [] := by
  have hb := lay_bds hl
  refine Fn.enter (Tryz.func41) rfl rfl (fun w0 R => ?_)
  refine TC.seq ?_
  refine TC.region ?_
  refine TL.boxA 0 rfl rfl rfl (fun _ => trivial) (fun bk0 => ?_)
  refine TL.asg (.int _ _) rfl rfl rfl ?_
  refine TL.done ?_
  refine TQ.then ?_
  refine TC.seq ?_
  refine TC.draw [(0, true), (2, true), (1, false), (3, false), (4, true), (5, true), (6, true)] [0] fc_m (by kernel_rfl) ?_
  refine TL.ldA 0 3 [_, _, _] rfl rfl rfl fc_a45_3 rfl rfl ?_
  refine TL.ldA 0 3 [_, _, _] rfl rfl rfl fc_a45_3 rfl rfl ?_
  refine TL.callD [] [] (base_ok hl) ⟨rfl, trivial⟩ trivial fc_c55 rfl rfl rfl rfl rfl (.cons rfl rfl trivial) ?_
  refine TL.callD [] [] (nodes_ok hl) ⟨rfl, trivial⟩ trivial fc_c43 rfl rfl rfl rfl rfl (.cons rfl rfl trivial) ?_
  refine TL.mul _ rfl rfl (wr64 (by omega)) rfl rfl ?_
  refine TL.add _ rfl rfl (wr64 (by omega)) rfl rfl ?_
  refine TL.asg (.int _ _) rfl rfl rfl ?_
  refine TL.done ?_
  refine TQ.then ?_
  refine TC.ret ?_
  refine FQ.ret1 (v := (.int _ _)) (Bs := []) [] rfl rfl rfl trivial ?_
  exact ⟨rfl, rfl⟩

theorem node_ok {l : Lay} (hl : l.Ok) {x : Int} : FnD Tryz.prog 79 [layV l, .int .i64 x] [] (.tuple #[thingV (l.node x).1, .bool (l.node x).2]) [] := by
  have hb := lay_bds hl
  refine Fn.enter (Tryz.func79) rfl rfl (fun w0 R => ?_)
  refine TC.seq ?_
  refine TC.region ?_
  refine TL.boxA 0 rfl rfl rfl (fun _ => trivial) (fun bk0 => ?_)
  refine TL.alloc 1 (cs := #[.bool false, .int .i64 0, .int .i64 0, .int .i64 0, .int .i64 0]) fc_z142 rfl rfl rfl (fun _ => trivial) (fun bk1 => ?_)
  refine TL.asg (.bool false) rfl rfl rfl ?_
  refine TL.done ?_
  refine TQ.then ?_
  refine TC.seq ?_
  refine TC.seq ?_
  refine TC.region ?_
  refine TL.mv (.int _ _) rfl rfl rfl ?_
  refine TL.sub _ rfl rfl (rfl) rfl rfl ?_
  refine TL.ldA 0 3 [_, _, _] rfl rfl rfl fc_a45_3 rfl rfl ?_
  refine TL.callD [] [] (nodes_ok hl) ⟨rfl, trivial⟩ trivial fc_c43 rfl rfl rfl rfl rfl trivial ?_
  refine TL.callD [] [] below_ok ⟨rfl, rfl, trivial⟩ trivial fc_c54 rfl rfl rfl rfl rfl trivial ?_
  refine TL.casesP rfl (fun q1 => ?_) (fun q1 => ?_)
  · skip
    refine TL.not true false rfl rfl rfl rfl ?_
    refine TL.done ?_
    refine TQ.then ?_
    refine TC.condF rfl ?_
    refine TC.skip ?_
    refine TQ.then ?_
    refine TC.seq ?_
    refine TC.region ?_
    refine TL.mv (.int _ _) rfl rfl rfl ?_
    refine TL.sub _ rfl rfl (rfl) rfl rfl ?_
    refine TL.asg (.int _ _) rfl rfl rfl ?_
    refine TL.done ?_
    refine TQ.then ?_
    refine TC.seq ?_
    refine TC.draw [(0, true), (2, true), (3, true), (1, false), (4, true), (5, true)] [0] fc_m (by kernel_rfl) ?_
    refine TL.ldA 0 3 [_, _, _] rfl rfl rfl fc_a45_3 rfl rfl ?_
    refine TL.fa 0 rfl fc_f45_0_0 rfl rfl ?_
    refine TL.ld 0 (.int _ _) rfl rfl rfl fc_s3 rfl rfl ?_
    refine TL.callD [] [] (levels_ok hl) ⟨rfl, trivial⟩ trivial fc_c75 rfl rfl rfl rfl rfl (.cons rfl rfl trivial) ?_
    refine TL.mul _ rfl rfl (wr64 (by omega)) rfl rfl ?_
    refine TL.asg (.int _ _) rfl rfl rfl ?_
    refine TL.done ?_
    refine TQ.then ?_
    refine TC.seq ?_
    refine TC.seq ?_
    refine TC.region ?_
    refine TL.mv (.int _ _) rfl rfl rfl ?_
    refine TL.mv (.int _ _) rfl rfl rfl ?_
    refine TL.lss rfl rfl rfl rfl (fun q2 => ?_) (fun q2 => ?_)
    · skip
      refine TL.done ?_
      refine TQ.then ?_
      refine TC.condT rfl ?_
      refine TC.seq ?_
      refine TC.draw [(0, true), (1, true), (2, true), (3, true), (4, true), (5, true), (6, true), (7, true), (8, true), (9, false), (10, true)] [0] fc_m (by kernel_rfl) ?_
      refine TL.mv (.int _ _) rfl rfl rfl ?_
      refine TL.fa 0 rfl fc_f45_0_0 rfl rfl ?_
      refine TL.ld 0 (.int _ _) rfl rfl rfl fc_s3 rfl rfl ?_
      refine TL.quo _ rfl rfl (by omega) (quo64 (by omega) (by omega) (by omega)) rfl rfl ?_
      refine TL.mv (.int _ _) rfl rfl rfl ?_
      refine TL.fa 0 rfl fc_f45_0_0 rfl rfl ?_
      refine TL.ld 0 (.int _ _) rfl rfl rfl fc_s3 rfl rfl ?_
      refine TL.rem _ rfl rfl (by omega) (rem64 (by omega)) rfl rfl ?_
      refine TL.bld [.bool false, .int .i64 0, .int .i64 0, .int .i64 0, .int .i64 0] [(.int _ _), (.int _ _)] [_, _, _, _, _] fc_z142 fc_q142 ⟨rfl, rfl, trivial⟩ ⟨rfl, rfl⟩ rfl rfl ?_
      refine TL.stW 1 5 [_, _, _, _, _] rfl rfl rfl rfl rfl rfl fc_a142_5 rfl rfl (.cons rfl rfl trivial) ?_
      refine TL.asg (.bool true) rfl rfl rfl ?_
      refine TL.done ?_
      refine TQ.then ?_
      refine TC.ret ?_
      refine TQ.thenRet ?_
      refine FQ.retG (rs := [.cell 4 142, .tmp 5]) [(.agg _), (.bool true)] (Bs := []) [] rfl ⟨⟨_, _, _, _, _, 1, rfl, rfl, .inr ⟨5, [_, _, _, _, _], fc_a142_5, rfl, rfl⟩⟩, rfl, trivial⟩ rfl rfl trivial ?_
      first | exact ⟨by unfold Lay.node; simp only []; rw [if_neg (by omega)]; rfl, rfl⟩ | exact ⟨by unfold Lay.node; simp only []; rw [if_pos (by omega), if_pos (by omega)]; rfl, rfl⟩ | exact ⟨by unfold Lay.node; simp only []; rw [if_pos (by omega), if_neg (by omega)]; rfl, rfl⟩
    · skip
      refine TL.done ?_
      refine TQ.then ?_
      refine TC.condF rfl ?_
      refine TC.skip ?_
      refine TQ.then ?_
      refine TC.seq ?_
      refine TC.region ?_
      refine TL.mv (.int _ _) rfl rfl rfl ?_
      refine TL.mv (.int _ _) rfl rfl rfl ?_
      refine TL.sub _ rfl rfl (wr64 (by omega)) rfl rfl ?_
      refine TL.asg (.int _ _) rfl rfl rfl ?_
      refine TL.done ?_
      refine TQ.then ?_
      refine TC.seq ?_
      refine TC.draw [(0, true), (1, true), (4, true), (5, true), (9, true), (10, true), (2, false), (3, true), (6, false), (7, true), (8, true), (11, true), (12, false), (13, true)] [0] fc_m (by kernel_rfl) ?_
      refine TL.mv (.int _ _) rfl rfl rfl ?_
      refine TL.ldA 0 3 [_, _, _] rfl rfl rfl fc_a45_3 rfl rfl ?_
      refine TL.mv (.int _ _) rfl rfl rfl ?_
      refine TL.ldA 0 3 [_, _, _] rfl rfl rfl fc_a45_3 rfl rfl ?_
      refine TL.mv (.int _ _) rfl rfl rfl ?_
      refine TL.rem _ rfl rfl (by omega) (rem64 (by omega)) rfl rfl ?_
      refine TL.callD [] [] (arcs_ok hl) ⟨rfl, trivial⟩ trivial fc_c76 rfl rfl rfl rfl rfl (.cons rfl rfl trivial) ?_
      refine TL.quo _ rfl rfl (by omega) (quo64 (by omega) (by omega) (by omega)) rfl rfl ?_
      refine TL.callD [] [] (arcs_ok hl) ⟨rfl, trivial⟩ trivial fc_c76 rfl rfl rfl rfl rfl (.cons rfl rfl trivial) ?_
      refine TL.rem _ rfl rfl (by omega) (rem64 (by omega)) rfl rfl ?_
      refine TL.quo _ rfl rfl (by omega) (quo64 (Int.emod_nonneg _ (by omega)) (by omega) (by have := Int.emod_lt_of_pos (IntKind.i64.wrap (x - 1) - l.lev * l.V) (b := l.arcs) (by omega); omega)) rfl rfl ?_
      refine TL.bld [.bool false, .int .i64 0, .int .i64 0, .int .i64 0, .int .i64 0] [(.bool true), (.int _ _), (.int _ _), (.int _ _)] [_, _, _, _, _] fc_z142 fc_q142 ⟨rfl, rfl, rfl, rfl, trivial⟩ ⟨rfl, rfl⟩ rfl rfl ?_
      refine TL.stW 1 5 [_, _, _, _, _] rfl rfl rfl rfl rfl rfl fc_a142_5 rfl rfl (.cons rfl rfl trivial) ?_
      refine TL.asg (.bool true) rfl rfl rfl ?_
      refine TL.done ?_
      refine TQ.then ?_
      refine TC.ret ?_
      refine FQ.retG (rs := [.cell 4 142, .tmp 5]) [(.agg _), (.bool true)] (Bs := []) [] rfl ⟨⟨_, _, _, _, _, 1, rfl, rfl, .inr ⟨5, [_, _, _, _, _], fc_a142_5, rfl, rfl⟩⟩, rfl, trivial⟩ rfl rfl trivial ?_
      first | exact ⟨by unfold Lay.node; simp only []; rw [if_neg (by omega)]; rfl, rfl⟩ | exact ⟨by unfold Lay.node; simp only []; rw [if_pos (by omega), if_pos (by omega)]; rfl, rfl⟩ | exact ⟨by unfold Lay.node; simp only []; rw [if_pos (by omega), if_neg (by omega)]; rfl, rfl⟩
  · skip
    refine TL.not false true rfl rfl rfl rfl ?_
    refine TL.done ?_
    refine TQ.then ?_
    refine TC.condT rfl ?_
    refine TC.seq ?_
    refine TC.region ?_
    refine TL.bld [.bool false, .int .i64 0, .int .i64 0, .int .i64 0, .int .i64 0] [] [_, _, _, _, _] fc_z142 fc_q142 trivial ⟨rfl, rfl⟩ rfl rfl ?_
    refine TL.stW 1 5 [_, _, _, _, _] rfl rfl rfl rfl rfl rfl fc_a142_5 rfl rfl trivial ?_
    refine TL.asg (.bool false) rfl rfl rfl ?_
    refine TL.done ?_
    refine TQ.then ?_
    refine TC.ret ?_
    refine TQ.thenRet ?_
    refine FQ.retG (rs := [.cell 4 142, .tmp 5]) [(.agg _), (.bool false)] (Bs := []) [] rfl ⟨⟨_, _, _, _, _, 1, rfl, rfl, .inr ⟨5, [_, _, _, _, _], fc_a142_5, rfl, rfl⟩⟩, rfl, trivial⟩ rfl rfl trivial ?_
    first | exact ⟨by unfold Lay.node; simp only []; rw [if_neg (by omega)]; rfl, rfl⟩ | exact ⟨by unfold Lay.node; simp only []; rw [if_pos (by omega), if_pos (by omega)]; rfl, rfl⟩ | exact ⟨by unfold Lay.node; simp only []; rw [if_pos (by omega), if_neg (by omega)]; rfl, rfl⟩

theorem within_ok {n m : Int} : FnD Tryz.prog 209 [.int .i64 n, .int .i64 m] [] (.bool (decide (0 ≤ n ∧ n ≤ m))) [] := by
  refine Fn.enter (Tryz.func209) rfl rfl (fun w0 R => ?_)
  refine TC.seq ?_
  refine TC.region ?_
  refine TL.asg (.bool false) rfl rfl rfl ?_
  refine TL.done ?_
  refine TQ.then ?_
  refine TC.seq ?_
  refine TC.region ?_
  refine TL.mv (.int _ _) rfl rfl rfl ?_
  refine TL.geq rfl rfl rfl rfl (fun q1 => ?_) (fun q1 => ?_)
  · skip
    refine TL.mv (.bool true) rfl rfl rfl ?_
    refine TL.mv (.int _ _) rfl rfl rfl ?_
    refine TL.mv (.int _ _) rfl rfl rfl ?_
    refine TL.leqV rfl rfl rfl rfl ?_
    refine TL.pickT (.bool _) rfl rfl rfl rfl ?_
    refine TL.asg (.bool _) rfl rfl rfl ?_
    refine TL.done ?_
    refine TQ.then ?_
    refine TC.ret ?_
    refine FQ.ret1 (v := (.bool _)) (Bs := []) [] rfl rfl rfl trivial ?_
    first | exact ⟨bT (by omega), rfl⟩ | exact ⟨bF (by omega), rfl⟩ | exact ⟨congrArg Value.bool (decide_eq_decide.2 (by omega)), rfl⟩
  · skip
    refine TL.mv (.bool false) rfl rfl rfl ?_
    refine TL.off rfl rfl ?_
    refine TL.off rfl rfl ?_
    refine TL.off rfl rfl ?_
    refine TL.pickF (.bool false) rfl rfl rfl rfl ?_
    refine TL.asg (.bool false) rfl rfl rfl ?_
    refine TL.done ?_
    refine TQ.then ?_
    refine TC.ret ?_
    refine FQ.ret1 (v := (.bool false)) (Bs := []) [] rfl rfl rfl trivial ?_
    first | exact ⟨bT (by omega), rfl⟩ | exact ⟨bF (by omega), rfl⟩ | exact ⟨congrArg Value.bool (decide_eq_decide.2 (by omega)), rfl⟩

theorem plainW_ok {o m t g : Int} : FnD Tryz.prog 131 [.agg #[.int .i64 o, .int .i64 m, .int .i64 t, .int .i64 g]] [] (.bool (decide (t = 0))) [] := by
  refine Fn.enter (Tryz.func131) rfl rfl (fun w0 R => ?_)
  refine TC.seq ?_
  refine TC.region ?_
  refine TL.boxA 0 rfl rfl rfl (fun _ => trivial) (fun bk0 => ?_)
  refine TL.asg (.bool false) rfl rfl rfl ?_
  refine TL.done ?_
  refine TQ.then ?_
  refine TC.seq ?_
  refine TC.region ?_
  refine TL.fa 2 rfl fc_f191_2_2 rfl rfl ?_
  refine TL.ld 0 (.int _ _) rfl rfl rfl fc_s3 rfl rfl ?_
  refine TL.eqlV rfl rfl rfl rfl ?_
  refine TL.asg (.bool _) rfl rfl rfl ?_
  refine TL.done ?_
  refine TQ.then ?_
  refine TC.ret ?_
  refine FQ.ret1 (v := (.bool _)) (Bs := []) [] rfl rfl rfl trivial ?_
  exact ⟨rfl, rfl⟩

theorem wright_ok {o m t g : Int} : FnD Tryz.prog 175 [.agg #[.int .i64 o, .int .i64 m, .int .i64 t, .int .i64 g]] [] (.bool (⟨o, m, t, g⟩ : Wd).right) [] := by
  refine Fn.enter (Tryz.func175) rfl rfl (fun w0 R => ?_)
  refine TC.seq ?_
  refine TC.region ?_
  refine TL.boxA 0 rfl rfl rfl (fun _ => trivial) (fun bk0 => ?_)
  refine TL.asg (.bool false) rfl rfl rfl ?_
  refine TL.done ?_
  refine TQ.then ?_
  refine TC.seq ?_
  refine TC.seq ?_
  refine TC.region ?_
  refine TL.fa 0 rfl fc_f191_0_0 rfl rfl ?_
  refine TL.ld 0 (.int _ _) rfl rfl rfl fc_s3 rfl rfl ?_
  refine TL.callD [] [] within_ok ⟨rfl, rfl, trivial⟩ trivial fc_c209 rfl rfl rfl rfl rfl trivial ?_
  refine TL.casesP rfl (fun q1 => ?_) (fun q1 => ?_)
  · skip
    refine TL.not true false rfl rfl rfl rfl ?_
    refine TL.mv (.bool false) rfl rfl rfl ?_
    refine TL.fa 1 rfl fc_f191_1_1 rfl rfl ?_
    refine TL.ld 0 (.int _ _) rfl rfl rfl fc_s3 rfl rfl ?_
    refine TL.callD [] [] within_ok ⟨rfl, rfl, trivial⟩ trivial fc_c209 rfl rfl rfl rfl rfl trivial ?_
    refine TL.casesP rfl (fun q2 => ?_) (fun q2 => ?_)
    · skip
      refine TL.not true false rfl rfl rfl rfl ?_
      refine TL.pickF (.bool false) rfl rfl rfl rfl ?_
      refine TL.mv (.bool false) rfl rfl rfl ?_
      refine TL.fa 2 rfl fc_f191_2_2 rfl rfl ?_
      refine TL.ld 0 (.int _ _) rfl rfl rfl fc_s3 rfl rfl ?_
      refine TL.callD [] [] within_ok ⟨rfl, rfl, trivial⟩ trivial fc_c209 rfl rfl rfl rfl rfl trivial ?_
      refine TL.casesP rfl (fun q3 => ?_) (fun q3 => ?_)
      · skip
        refine TL.not true false rfl rfl rfl rfl ?_
        refine TL.pickF (.bool false) rfl rfl rfl rfl ?_
        refine TL.mv (.bool false) rfl rfl rfl ?_
        refine TL.fa 3 rfl fc_f191_3_3 rfl rfl ?_
        refine TL.ld 0 (.int _ _) rfl rfl rfl fc_s3 rfl rfl ?_
        refine TL.callD [] [] within_ok ⟨rfl, rfl, trivial⟩ trivial fc_c209 rfl rfl rfl rfl rfl trivial ?_
        refine TL.casesP rfl (fun q4 => ?_) (fun q4 => ?_)
        · skip
          refine TL.not true false rfl rfl rfl rfl ?_
          refine TL.pickF (.bool false) rfl rfl rfl rfl ?_
          refine TL.done ?_
          refine TQ.then ?_
          refine TC.condF rfl ?_
          refine TC.skip ?_
          refine TQ.then ?_
          refine TC.seq ?_
          refine TC.region ?_
          refine TL.ldA 0 4 [_, _, _, _] rfl rfl rfl fc_a191_4 rfl rfl ?_
          refine TL.callD [] [] plainW_ok ⟨rfl, trivial⟩ trivial fc_c131 rfl rfl rfl rfl rfl trivial ?_
          refine TL.casesP rfl (fun q5 => ?_) (fun q5 => ?_)
          · skip
            refine TL.not true false rfl rfl rfl rfl ?_
            refine TL.mv (.bool false) rfl rfl rfl ?_
            refine TL.fa 0 rfl fc_f191_0_0 rfl rfl ?_
            refine TL.ld 0 (.int _ _) rfl rfl rfl fc_s3 rfl rfl ?_
            refine TL.fa 1 rfl fc_f191_1_1 rfl rfl ?_
            refine TL.ld 0 (.int _ _) rfl rfl rfl fc_s3 rfl rfl ?_
            refine TL.eql rfl rfl rfl rfl (fun q6 => ?_) (fun q6 => ?_)
            · skip
              refine TL.mv (.bool true) rfl rfl rfl ?_
              refine TL.fa 3 rfl fc_f191_3_3 rfl rfl ?_
              refine TL.ld 0 (.int _ _) rfl rfl rfl fc_s3 rfl rfl ?_
              refine TL.eqlV rfl rfl rfl rfl ?_
              refine TL.pickT (.bool _) rfl rfl rfl rfl ?_
              refine TL.pickF (.bool _) rfl rfl rfl rfl ?_
              refine TL.asg (.bool _) rfl rfl rfl ?_
              refine TL.done ?_
              refine TQ.then ?_
              refine TC.ret ?_
              refine FQ.ret1 (v := (.bool _)) (Bs := []) [] rfl rfl rfl trivial ?_
              exact ⟨congrArg Value.bool (by simp [Wd.right, *]), rfl⟩
            · skip
              refine TL.mv (.bool false) rfl rfl rfl ?_
              refine TL.off rfl rfl ?_
              refine TL.off rfl rfl ?_
              refine TL.off rfl rfl ?_
              refine TL.pickF (.bool false) rfl rfl rfl rfl ?_
              refine TL.pickF (.bool false) rfl rfl rfl rfl ?_
              refine TL.asg (.bool false) rfl rfl rfl ?_
              refine TL.done ?_
              refine TQ.then ?_
              refine TC.ret ?_
              refine FQ.ret1 (v := (.bool false)) (Bs := []) [] rfl rfl rfl trivial ?_
              exact ⟨congrArg Value.bool (by simp [Wd.right, *]), rfl⟩
          · skip
            refine TL.not false true rfl rfl rfl rfl ?_
            refine TL.mv (.bool true) rfl rfl rfl ?_
            refine TL.off rfl rfl ?_
            refine TL.off rfl rfl ?_
            refine TL.off rfl rfl ?_
            refine TL.off rfl rfl ?_
            refine TL.off rfl rfl ?_
            refine TL.off rfl rfl ?_
            refine TL.off rfl rfl ?_
            refine TL.off rfl rfl ?_
            refine TL.off rfl rfl ?_
            refine TL.off rfl rfl ?_
            refine TL.pickT (.bool true) rfl rfl rfl rfl ?_
            refine TL.asg (.bool true) rfl rfl rfl ?_
            refine TL.done ?_
            refine TQ.then ?_
            refine TC.ret ?_
            refine FQ.ret1 (v := (.bool true)) (Bs := []) [] rfl rfl rfl trivial ?_
            exact ⟨congrArg Value.bool (by simp [Wd.right, *]), rfl⟩
        · skip
          refine TL.not false true rfl rfl rfl rfl ?_
          refine TL.pickF (.bool true) rfl rfl rfl rfl ?_
          refine TL.done ?_
          refine TQ.then ?_
          refine TC.condT rfl ?_
          refine TC.seq ?_
          refine TC.region ?_
          refine TL.asg (.bool false) rfl rfl rfl ?_
          refine TL.done ?_
          refine TQ.then ?_
          refine TC.ret ?_
          refine TQ.thenRet ?_
          refine FQ.ret1 (v := (.bool false)) (Bs := []) [] rfl rfl rfl trivial ?_
          exact ⟨congrArg Value.bool (by simp [Wd.right, *]), rfl⟩
      · skip
        refine TL.not false true rfl rfl rfl rfl ?_
        refine TL.pickF (.bool true) rfl rfl rfl rfl ?_
        refine TL.mv (.bool true) rfl rfl rfl ?_
        refine TL.off rfl rfl ?_
        refine TL.off rfl rfl ?_
        refine TL.off rfl rfl ?_
        refine TL.off rfl rfl ?_
        refine TL.pickT (.bool true) rfl rfl rfl rfl ?_
        refine TL.done ?_
        refine TQ.then ?_
        refine TC.condT rfl ?_
        refine TC.seq ?_
        refine TC.region ?_
        refine TL.asg (.bool false) rfl rfl rfl ?_
        refine TL.done ?_
        refine TQ.then ?_
        refine TC.ret ?_
        refine TQ.thenRet ?_
        refine FQ.ret1 (v := (.bool false)) (Bs := []) [] rfl rfl rfl trivial ?_
        exact ⟨congrArg Value.bool (by simp [Wd.right, *]), rfl⟩
    · skip
      refine TL.not false true rfl rfl rfl rfl ?_
      refine TL.pickF (.bool true) rfl rfl rfl rfl ?_
      refine TL.mv (.bool true) rfl rfl rfl ?_
      refine TL.off rfl rfl ?_
      refine TL.off rfl rfl ?_
      refine TL.off rfl rfl ?_
      refine TL.off rfl rfl ?_
      refine TL.pickT (.bool true) rfl rfl rfl rfl ?_
      refine TL.mv (.bool true) rfl rfl rfl ?_
      refine TL.off rfl rfl ?_
      refine TL.off rfl rfl ?_
      refine TL.off rfl rfl ?_
      refine TL.off rfl rfl ?_
      refine TL.pickT (.bool true) rfl rfl rfl rfl ?_
      refine TL.done ?_
      refine TQ.then ?_
      refine TC.condT rfl ?_
      refine TC.seq ?_
      refine TC.region ?_
      refine TL.asg (.bool false) rfl rfl rfl ?_
      refine TL.done ?_
      refine TQ.then ?_
      refine TC.ret ?_
      refine TQ.thenRet ?_
      refine FQ.ret1 (v := (.bool false)) (Bs := []) [] rfl rfl rfl trivial ?_
      exact ⟨congrArg Value.bool (by simp [Wd.right, *]), rfl⟩
  · skip
    refine TL.not false true rfl rfl rfl rfl ?_
    refine TL.mv (.bool true) rfl rfl rfl ?_
    refine TL.off rfl rfl ?_
    refine TL.off rfl rfl ?_
    refine TL.off rfl rfl ?_
    refine TL.off rfl rfl ?_
    refine TL.pickT (.bool true) rfl rfl rfl rfl ?_
    refine TL.mv (.bool true) rfl rfl rfl ?_
    refine TL.off rfl rfl ?_
    refine TL.off rfl rfl ?_
    refine TL.off rfl rfl ?_
    refine TL.off rfl rfl ?_
    refine TL.pickT (.bool true) rfl rfl rfl rfl ?_
    refine TL.mv (.bool true) rfl rfl rfl ?_
    refine TL.off rfl rfl ?_
    refine TL.off rfl rfl ?_
    refine TL.off rfl rfl ?_
    refine TL.off rfl rfl ?_
    refine TL.pickT (.bool true) rfl rfl rfl rfl ?_
    refine TL.done ?_
    refine TQ.then ?_
    refine TC.condT rfl ?_
    refine TC.seq ?_
    refine TC.region ?_
    refine TL.asg (.bool false) rfl rfl rfl ?_
    refine TL.done ?_
    refine TQ.then ?_
    refine TC.ret ?_
    refine TQ.thenRet ?_
    refine FQ.ret1 (v := (.bool false)) (Bs := []) [] rfl rfl rfl trivial ?_
    exact ⟨congrArg Value.bool (by simp [Wd.right, *]), rfl⟩

theorem pack_ok {o m t g : Int} : FnD Tryz.prog 173 [.agg #[.int .i64 o, .int .i64 m, .int .i64 t, .int .i64 g]] [] (.tuple #[.int .u64 (if (⟨o, m, t, g⟩ : Wd).right then (⟨o, m, t, g⟩ : Wd).pack else 0), .int .i64 (if (⟨o, m, t, g⟩ : Wd).right then 0 else 11)]) [] := by
  refine Fn.enter (Tryz.func173) rfl rfl (fun w0 R => ?_)
  refine TC.seq ?_
  refine TC.region ?_
  refine TL.boxA 0 rfl rfl rfl (fun _ => trivial) (fun bk0 => ?_)
  refine TL.asg (.int _ _) rfl rfl rfl ?_
  refine TL.asg (.int _ _) rfl rfl rfl ?_
  refine TL.done ?_
  refine TQ.then ?_
  refine TC.seq ?_
  refine TC.seq ?_
  refine TC.region ?_
  refine TL.ldA 0 4 [_, _, _, _] rfl rfl rfl fc_a191_4 rfl rfl ?_
  refine TL.callD [] [] wright_ok ⟨rfl, trivial⟩ trivial fc_c175 rfl rfl rfl rfl rfl trivial ?_
  refine TL.cases rfl (fun q1 => ?_) (fun q1 => ?_)
  · skip
    refine TL.not true false rfl rfl rfl rfl ?_
    refine TL.done ?_
    refine TQ.then ?_
    refine TC.condF rfl ?_
    refine TC.skip ?_
    refine TQ.then ?_
    refine TC.seq ?_
    refine TC.region ?_
    refine TL.fa 1 rfl fc_f191_1_1 rfl rfl ?_
    refine TL.ld 0 (.int _ _) rfl rfl rfl fc_s3 rfl rfl ?_
    refine TL.conv _ rfl fc_u3 fc_i33_u64 (rfl) rfl rfl ?_
    refine TL.fa 0 rfl fc_f191_0_0 rfl rfl ?_
    refine TL.ld 0 (.int _ _) rfl rfl rfl fc_s3 rfl rfl ?_
    refine TL.conv _ rfl fc_u3 fc_i33_u64 (rfl) rfl rfl ?_
    refine TL.shl _ rfl rfl (by decide) rfl rfl rfl ?_
    refine TL.or _ rfl rfl rfl rfl rfl ?_
    refine TL.fa 2 rfl fc_f191_2_2 rfl rfl ?_
    refine TL.ld 0 (.int _ _) rfl rfl rfl fc_s3 rfl rfl ?_
    refine TL.conv _ rfl fc_u3 fc_i33_u64 (rfl) rfl rfl ?_
    refine TL.shl _ rfl rfl (by decide) rfl rfl rfl ?_
    refine TL.or _ rfl rfl rfl rfl rfl ?_
    refine TL.fa 3 rfl fc_f191_3_3 rfl rfl ?_
    refine TL.ld 0 (.int _ _) rfl rfl rfl fc_s3 rfl rfl ?_
    refine TL.conv _ rfl fc_u3 fc_i33_u64 (rfl) rfl rfl ?_
    refine TL.shl _ rfl rfl (by decide) rfl rfl rfl ?_
    refine TL.or _ rfl rfl rfl rfl rfl ?_
    refine TL.asg (.int _ _) rfl rfl rfl ?_
    refine TL.asg (.int _ _) rfl rfl rfl ?_
    refine TL.done ?_
    refine TQ.then ?_
    refine TC.ret ?_
    refine FQ.ret2 (v := (.int _ _)) (x := (.int _ _)) (Bs := []) [] rfl rfl rfl rfl trivial ?_
    exact ⟨by simp only [*, if_true, Bool.false_eq_true, if_false] <;> rfl, rfl⟩
  · skip
    refine TL.not false true rfl rfl rfl rfl ?_
    refine TL.done ?_
    refine TQ.then ?_
    refine TC.condT rfl ?_
    refine TC.seq ?_
    refine TC.region ?_
    refine TL.asg (.int _ _) rfl rfl rfl ?_
    refine TL.asg (.int _ _) rfl rfl rfl ?_
    refine TL.done ?_
    refine TQ.then ?_
    refine TC.ret ?_
    refine TQ.thenRet ?_
    refine FQ.ret2 (v := (.int _ _)) (x := (.int _ _)) (Bs := []) [] rfl rfl rfl rfl trivial ?_
    exact ⟨by simp only [*, if_true, Bool.false_eq_true, if_false] <;> rfl, rfl⟩

theorem bits_ok {v a n : Int} (ha : 0 ≤ a) (hn : 0 ≤ n) : FnD Tryz.prog 174 [.int .u64 v, .int .i64 a, .int .i64 n] [] (.int .i64 (bitsI v a n)) [] := by
  refine Fn.enter (Tryz.func174) rfl rfl (fun w0 R => ?_)
  refine TC.seq ?_
  refine TC.region ?_
  refine TL.asg (.int _ _) rfl rfl rfl ?_
  refine TL.done ?_
  refine TQ.then ?_
  refine TC.seq ?_
  refine TC.draw [(0, true), (1, true), (2, true), (3, true), (4, true), (5, true), (6, true), (7, true), (8, true)] [] fc_m (by kernel_rfl) ?_
  refine TL.mv (.int _ _) rfl rfl rfl ?_
  refine TL.mv (.int _ _) rfl rfl rfl ?_
  refine TL.shr _ rfl rfl (by omega) rfl rfl rfl ?_
  refine TL.mv (.int _ _) rfl rfl rfl ?_
  refine TL.shl _ rfl rfl (by omega) rfl rfl rfl ?_
  refine TL.sub _ rfl rfl (rfl) rfl rfl ?_
  refine TL.and _ rfl rfl rfl rfl rfl ?_
  refine TL.conv _ rfl fc_u33 fc_i3_i64 (rfl) rfl rfl ?_
  refine TL.asg (.int _ _) rfl rfl rfl ?_
  refine TL.done ?_
  refine TQ.then ?_
  refine TC.ret ?_
  refine FQ.ret1 (v := (.int _ _)) (Bs := []) [] rfl rfl rfl trivial ?_
  exact ⟨iE (by unfold bitsI andU shrU shlU; rw [Int.one_mul]), rfl⟩

theorem unpack_ok {v : Int} : FnD Tryz.prog 130 [.int .u64 v] [] (.tuple #[wdV (unpack v).1, .int .i64 (if (unpack v).2 then 0 else 21)]) [] := by
  refine Fn.enter (Tryz.func130) rfl rfl (fun w0 R => ?_)
  refine TC.seq ?_
  refine TC.region ?_
  refine TL.alloc 0 (cs := #[.int .i64 0, .int .i64 0, .int .i64 0, .int .i64 0]) fc_z191 rfl rfl rfl (fun _ => trivial) (fun bk0 => ?_)
  refine TL.asg (.int _ _) rfl rfl rfl ?_
  refine TL.done ?_
  refine TQ.then ?_
  refine TC.seq ?_
  refine TC.region ?_
  refine TL.mv (.int _ _) rfl rfl rfl ?_
  refine TL.callD [] [] (bits_ok (by decide) (by decide)) ⟨rfl, rfl, rfl, trivial⟩ trivial fc_c174 rfl rfl rfl rfl rfl trivial ?_
  refine TL.mv (.int _ _) rfl rfl rfl ?_
  refine TL.callD [] [] (bits_ok (by decide) (by decide)) ⟨rfl, rfl, rfl, trivial⟩ trivial fc_c174 rfl rfl rfl rfl rfl trivial ?_
  refine TL.mv (.int _ _) rfl rfl rfl ?_
  refine TL.callD [] [] (bits_ok (by decide) (by decide)) ⟨rfl, rfl, rfl, trivial⟩ trivial fc_c174 rfl rfl rfl rfl rfl trivial ?_
  refine TL.mv (.int _ _) rfl rfl rfl ?_
  refine TL.shr _ rfl rfl (by decide) rfl rfl rfl ?_
  refine TL.conv _ rfl fc_u33 fc_i3_i64 (rfl) rfl rfl ?_
  refine TL.bld [.int .i64 0, .int .i64 0, .int .i64 0, .int .i64 0] [(.int _ _), (.int _ _), (.int _ _), (.int _ _)] [_, _, _, _] fc_z191 fc_q191 ⟨rfl, rfl, rfl, rfl, trivial⟩ ⟨rfl, rfl⟩ rfl rfl ?_
  refine TL.alloc 1 (cs := #[.int .i64 0, .int .i64 0, .int .i64 0, .int .i64 0]) fc_z191 rfl rfl rfl (fun _ => trivial) (fun bk1 => ?_)
  refine TL.stW 1 4 [_, _, _, _] rfl rfl rfl rfl rfl rfl fc_a191_4 rfl rfl trivial ?_
  refine TL.done ?_
  refine TQ.then ?_
  refine TC.seq ?_
  refine TC.seq ?_
  refine TC.region ?_
  refine TL.ldA 1 4 [_, _, _, _] rfl rfl rfl fc_a191_4 rfl rfl ?_
  refine TL.callD [] [] wright_ok ⟨rfl, trivial⟩ trivial fc_c175 rfl rfl rfl rfl rfl trivial ?_
  refine TL.cases rfl (fun q1 => ?_) (fun q1 => ?_)
  · skip
    refine TL.not true false rfl rfl rfl rfl ?_
    refine TL.done ?_
    refine TQ.then ?_
    refine TC.condF rfl ?_
    refine TC.skip ?_
    refine TQ.then ?_
    refine TC.seq ?_
    refine TC.region ?_
    refine TL.ldA 1 4 [_, _, _, _] rfl rfl rfl fc_a191_4 rfl rfl ?_
    refine TL.stW 0 4 [_, _, _, _] rfl rfl rfl rfl rfl rfl fc_a191_4 rfl rfl trivial ?_
    refine TL.asg (.int _ _) rfl rfl rfl ?_
    refine TL.done ?_
    refine TQ.then ?_
    refine TC.ret ?_
    refine FQ.retG (rs := [.cell 2 191, .tmp 3]) [(.agg _), (.int _ _)] (Bs := []) [] rfl ⟨⟨_, _, _, _, _, 0, rfl, rfl, .inr ⟨4, [_, _, _, _], fc_a191_4, rfl, rfl⟩⟩, rfl, trivial⟩ rfl rfl trivial ?_
    first | exact ⟨(by have q : (unpackW v).right = true := ‹(unpackW v).right = true›; simp only [unpack, q, if_true]; rfl), rfl⟩ | exact ⟨(by have q : (unpackW v).right = false := ‹(unpackW v).right = false›; simp only [unpack, q, Bool.false_eq_true, if_false]; rfl), rfl⟩
  · skip
    refine TL.not false true rfl rfl rfl rfl ?_
    refine TL.done ?_
    refine TQ.then ?_
    refine TC.condT rfl ?_
    refine TC.seq ?_
    refine TC.region ?_
    refine TL.bld [.int .i64 0, .int .i64 0, .int .i64 0, .int .i64 0] [] [_, _, _, _] fc_z191 fc_q191 trivial ⟨rfl, rfl⟩ rfl rfl ?_
    refine TL.stW 0 4 [_, _, _, _] rfl rfl rfl rfl rfl rfl fc_a191_4 rfl rfl trivial ?_
    refine TL.asg (.int _ _) rfl rfl rfl ?_
    refine TL.done ?_
    refine TQ.then ?_
    refine TC.ret ?_
    refine TQ.thenRet ?_
    refine FQ.retG (rs := [.cell 2 191, .tmp 3]) [(.agg _), (.int _ _)] (Bs := []) [] rfl ⟨⟨_, _, _, _, _, 0, rfl, rfl, .inr ⟨4, [_, _, _, _], fc_a191_4, rfl, rfl⟩⟩, rfl, trivial⟩ rfl rfl trivial ?_
    first | exact ⟨(by have q : (unpackW v).right = true := ‹(unpackW v).right = true›; simp only [unpack, q, if_true]; rfl), rfl⟩ | exact ⟨(by have q : (unpackW v).right = false := ‹(unpackW v).right = false›; simp only [unpack, q, Bool.false_eq_true, if_false]; rfl), rfl⟩

theorem writeF_ok {p : Pen} {x o m t g : Int} {b1 b2 : Nat} : FnD Tryz.prog 191 [.agg #[.int .i64 o, .int .i64 m, .int .i64 t, .int .i64 g], .pointer (some ⟨b1, 0, none⟩), .pointer (some ⟨b2, 0, none⟩)] [pt b1 (.cells #[.int .i64 p.thread, .int .i64 p.tag] 70), pt b2 (.cells #[.int .i64 x] 3)] (wdV (p.to x (⟨o, m, t, g⟩ : Wd))) [pt b1 (.cells #[.int .i64 p.thread, .int .i64 p.tag] 70), pt b2 (.cells #[.int .i64 x] 3)] := by
  refine Fn.enter (Tryz.func191) rfl rfl (fun w0 R => ?_)
  refine TC.seq ?_
  refine TC.region ?_
  refine TL.boxA 2 rfl rfl rfl (fun _ => trivial) (fun bk2 => ?_)
  refine TL.alloc 3 (cs := #[.int .i64 0, .int .i64 0, .int .i64 0, .int .i64 0]) fc_z191 rfl rfl rfl (fun _ => trivial) (fun bk3 => ?_)
  refine TL.done ?_
  refine TQ.then ?_
  refine TC.seq ?_
  refine TC.seq ?_
  refine TC.region ?_
  refine TL.fa 2 rfl fc_f191_2_2 rfl rfl ?_
  refine TL.ld 2 (.int _ _) rfl rfl rfl fc_s3 rfl rfl ?_
  refine TL.fa 0 rfl fc_f70_0_0 rfl rfl ?_
  refine TL.ld 0 (.int _ _) rfl rfl rfl fc_s3 rfl rfl ?_
  refine TL.neq rfl rfl rfl rfl (fun q1 => ?_) (fun q1 => ?_)
  · skip
    refine TL.mv (.bool true) rfl rfl rfl ?_
    refine TL.off rfl rfl ?_
    refine TL.off rfl rfl ?_
    refine TL.off rfl rfl ?_
    refine TL.off rfl rfl ?_
    refine TL.off rfl rfl ?_
    refine TL.pickT (.bool true) rfl rfl rfl rfl ?_
    refine TL.done ?_
    refine TQ.then ?_
    refine TC.condT rfl ?_
    refine TC.region ?_
    refine TL.fa 1 rfl fc_f191_1_1 rfl rfl ?_
    refine TL.ld 2 (.int _ _) rfl rfl rfl fc_s3 rfl rfl ?_
    refine TL.fa 0 rfl fc_f191_0_0 rfl rfl ?_
    refine TL.st 2 #[_, _, _, _] (.int _ _) rfl rfl rfl rfl rfl rfl fc_s3 rfl rfl trivial ?_
    refine TL.done ?_
    refine TQ.then ?_
    refine TC.seq ?_
    refine TC.region ?_
    refine TL.fa 0 rfl fc_f191_0_0 rfl rfl ?_
    refine TL.ld 2 (.int _ _) rfl rfl rfl fc_s3 rfl rfl ?_
    refine TL.ld 1 (.int _ _) rfl rfl rfl fc_s3 rfl rfl ?_
    refine TL.fa 0 rfl fc_f70_0_0 rfl rfl ?_
    refine TL.ld 0 (.int _ _) rfl rfl rfl fc_s3 rfl rfl ?_
    refine TL.fa 1 rfl fc_f70_1_1 rfl rfl ?_
    refine TL.ld 0 (.int _ _) rfl rfl rfl fc_s3 rfl rfl ?_
    refine TL.bld [.int .i64 0, .int .i64 0, .int .i64 0, .int .i64 0] [(.int _ _), (.int _ _), (.int _ _), (.int _ _)] [_, _, _, _] fc_z191 fc_q191 ⟨rfl, rfl, rfl, rfl, trivial⟩ ⟨rfl, rfl⟩ rfl rfl ?_
    refine TL.stW 3 4 [_, _, _, _] rfl rfl rfl rfl rfl rfl fc_a191_4 rfl rfl trivial ?_
    refine TL.done ?_
    refine TQ.then ?_
    refine TC.ret ?_
    refine FQ.retG (rs := [.cell 4 191]) [(.agg _)] (Bs := [pt b1 (.cells #[.int .i64 p.thread, .int .i64 p.tag] 70), pt b2 (.cells #[.int .i64 x] 3)]) [0, 1] rfl ⟨⟨_, _, _, _, _, 3, rfl, rfl, .inr ⟨4, [_, _, _, _], fc_a191_4, rfl, rfl⟩⟩, trivial⟩ rfl rfl ⟨rfl, rfl, trivial⟩ ?_
    first | exact ⟨(by unfold Pen.to; dsimp only; rw [if_pos (by omega)]; rfl), rfl⟩ | exact ⟨(by unfold Pen.to; dsimp only; rw [if_neg (by omega)]; rfl), rfl⟩
  · skip
    refine TL.mv (.bool false) rfl rfl rfl ?_
    refine TL.fa 3 rfl fc_f191_3_3 rfl rfl ?_
    refine TL.ld 2 (.int _ _) rfl rfl rfl fc_s3 rfl rfl ?_
    refine TL.fa 1 rfl fc_f70_1_1 rfl rfl ?_
    refine TL.ld 0 (.int _ _) rfl rfl rfl fc_s3 rfl rfl ?_
    refine TL.neq rfl rfl rfl rfl (fun q2 => ?_) (fun q2 => ?_)
    · skip
      refine TL.pickF (.bool true) rfl rfl rfl rfl ?_
      refine TL.done ?_
      refine TQ.then ?_
      refine TC.condT rfl ?_
      refine TC.region ?_
      refine TL.fa 1 rfl fc_f191_1_1 rfl rfl ?_
      refine TL.ld 2 (.int _ _) rfl rfl rfl fc_s3 rfl rfl ?_
      refine TL.fa 0 rfl fc_f191_0_0 rfl rfl ?_
      refine TL.st 2 #[_, _, _, _] (.int _ _) rfl rfl rfl rfl rfl rfl fc_s3 rfl rfl trivial ?_
      refine TL.done ?_
      refine TQ.then ?_
      refine TC.seq ?_
      refine TC.region ?_
      refine TL.fa 0 rfl fc_f191_0_0 rfl rfl ?_
      refine TL.ld 2 (.int _ _) rfl rfl rfl fc_s3 rfl rfl ?_
      refine TL.ld 1 (.int _ _) rfl rfl rfl fc_s3 rfl rfl ?_
      refine TL.fa 0 rfl fc_f70_0_0 rfl rfl ?_
      refine TL.ld 0 (.int _ _) rfl rfl rfl fc_s3 rfl rfl ?_
      refine TL.fa 1 rfl fc_f70_1_1 rfl rfl ?_
      refine TL.ld 0 (.int _ _) rfl rfl rfl fc_s3 rfl rfl ?_
      refine TL.bld [.int .i64 0, .int .i64 0, .int .i64 0, .int .i64 0] [(.int _ _), (.int _ _), (.int _ _), (.int _ _)] [_, _, _, _] fc_z191 fc_q191 ⟨rfl, rfl, rfl, rfl, trivial⟩ ⟨rfl, rfl⟩ rfl rfl ?_
      refine TL.stW 3 4 [_, _, _, _] rfl rfl rfl rfl rfl rfl fc_a191_4 rfl rfl trivial ?_
      refine TL.done ?_
      refine TQ.then ?_
      refine TC.ret ?_
      refine FQ.retG (rs := [.cell 4 191]) [(.agg _)] (Bs := [pt b1 (.cells #[.int .i64 p.thread, .int .i64 p.tag] 70), pt b2 (.cells #[.int .i64 x] 3)]) [0, 1] rfl ⟨⟨_, _, _, _, _, 3, rfl, rfl, .inr ⟨4, [_, _, _, _], fc_a191_4, rfl, rfl⟩⟩, trivial⟩ rfl rfl ⟨rfl, rfl, trivial⟩ ?_
      first | exact ⟨(by unfold Pen.to; dsimp only; rw [if_pos (by omega)]; rfl), rfl⟩ | exact ⟨(by unfold Pen.to; dsimp only; rw [if_neg (by omega)]; rfl), rfl⟩
    · skip
      refine TL.pickF (.bool false) rfl rfl rfl rfl ?_
      refine TL.done ?_
      refine TQ.then ?_
      refine TC.condF rfl ?_
      refine TC.skip ?_
      refine TQ.then ?_
      refine TC.seq ?_
      refine TC.region ?_
      refine TL.fa 0 rfl fc_f191_0_0 rfl rfl ?_
      refine TL.ld 2 (.int _ _) rfl rfl rfl fc_s3 rfl rfl ?_
      refine TL.ld 1 (.int _ _) rfl rfl rfl fc_s3 rfl rfl ?_
      refine TL.fa 0 rfl fc_f70_0_0 rfl rfl ?_
      refine TL.ld 0 (.int _ _) rfl rfl rfl fc_s3 rfl rfl ?_
      refine TL.fa 1 rfl fc_f70_1_1 rfl rfl ?_
      refine TL.ld 0 (.int _ _) rfl rfl rfl fc_s3 rfl rfl ?_
      refine TL.bld [.int .i64 0, .int .i64 0, .int .i64 0, .int .i64 0] [(.int _ _), (.int _ _), (.int _ _), (.int _ _)] [_, _, _, _] fc_z191 fc_q191 ⟨rfl, rfl, rfl, rfl, trivial⟩ ⟨rfl, rfl⟩ rfl rfl ?_
      refine TL.stW 3 4 [_, _, _, _] rfl rfl rfl rfl rfl rfl fc_a191_4 rfl rfl trivial ?_
      refine TL.done ?_
      refine TQ.then ?_
      refine TC.ret ?_
      refine FQ.retG (rs := [.cell 4 191]) [(.agg _)] (Bs := [pt b1 (.cells #[.int .i64 p.thread, .int .i64 p.tag] 70), pt b2 (.cells #[.int .i64 x] 3)]) [0, 1] rfl ⟨⟨_, _, _, _, _, 3, rfl, rfl, .inr ⟨4, [_, _, _, _], fc_a191_4, rfl, rfl⟩⟩, trivial⟩ rfl rfl ⟨rfl, rfl, trivial⟩ ?_
      first | exact ⟨(by unfold Pen.to; dsimp only; rw [if_pos (by omega)]; rfl), rfl⟩ | exact ⟨(by unfold Pen.to; dsimp only; rw [if_neg (by omega)]; rfl), rfl⟩

theorem change_w0 {S : Type} [MemLike S] {mt : TypeId} {mv : Value} {A : S → Assn} (hM : MemI Tryz.prog mt mv A) {σ : S} {p : Pen} {c x : Int} {b1 b2 : Nat} (h : (unpack (MemLike.get σ c)).2 = false) : FnD Tryz.prog 124 [.iface mt mv, .int .i64 c, .func (.func 191) #[] #[.pointer (some ⟨b1, 0, none⟩), .pointer (some ⟨b2, 0, none⟩)]] [A σ, pt b1 (.cells #[.int .i64 p.thread, .int .i64 p.tag] 70), pt b2 (.cells #[.int .i64 x] 3)] (.tuple #[]) [A (MemLike.ld σ c), pt b1 (.cells #[.int .i64 p.thread, .int .i64 p.tag] 70), pt b2 (.cells #[.int .i64 x] 3)] := by
  refine Fn.enter (Tryz.func124) rfl rfl (fun w0 R => ?_)
  refine TC.seq ?_
  refine TC.region ?_
  refine TL.mv (.iface _ _) rfl rfl rfl ?_
  refine TL.mv (.int _ _) rfl rfl rfl ?_
  refine TL.mload 0 hM rfl rfl rfl rfl rfl trivial ?_
  refine TL.callD [] [] unpack_ok ⟨rfl, trivial⟩ trivial fc_c130 rfl rfl rfl rfl rfl trivial ?_
  refine TL.mv (.tuple _) rfl rfl rfl ?_
  refine TL.ext (.agg _) rfl rfl rfl rfl ?_
  refine TL.ext (.int _ _) rfl rfl rfl rfl ?_
  refine TL.alloc 3 (cs := #[.int .i64 0, .int .i64 0, .int .i64 0, .int .i64 0]) fc_z191 rfl rfl rfl (fun _ => trivial) (fun bk3 => ?_)
  refine TL.stW 3 4 [_, _, _, _] rfl rfl rfl rfl rfl rfl fc_a191_4 rfl rfl trivial ?_
  refine TL.asg (.int _ _) rfl rfl rfl ?_
  refine TL.done ?_
  refine TQ.then ?_
  refine TC.seq ?_
  refine TC.seq ?_
  refine TC.region ?_
  refine TL.mv (.int _ _) rfl rfl rfl ?_
  refine TL.neqT rfl rfl (by rw [h]; decide) rfl rfl ?_
  refine TL.done ?_
  refine TQ.then ?_
  refine TC.condT rfl ?_
  refine TC.ret ?_
  refine TQ.thenRet ?_
  refine FQ.ret0 (Bs := [A (MemLike.ld σ c), pt b1 (.cells #[.int .i64 p.thread, .int .i64 p.tag] 70), pt b2 (.cells #[.int .i64 x] 3)]) [0, 1, 2] rfl rfl ⟨rfl, rfl, rfl, trivial⟩ ?_
  exact ⟨rfl, rfl⟩

theorem change_w1 {S : Type} [MemLike S] {mt : TypeId} {mv : Value} {A : S → Assn} (hM : MemI Tryz.prog mt mv A) {σ : S} {p : Pen} {c x : Int} {b1 b2 : Nat} (h : (unpack (MemLike.get σ c)).2 = true) (h2 : (p.to x (unpack (MemLike.get σ c)).1).right = false) : FnD Tryz.prog 124 [.iface mt mv, .int .i64 c, .func (.func 191) #[] #[.pointer (some ⟨b1, 0, none⟩), .pointer (some ⟨b2, 0, none⟩)]] [A σ, pt b1 (.cells #[.int .i64 p.thread, .int .i64 p.tag] 70), pt b2 (.cells #[.int .i64 x] 3)] (.tuple #[]) [A (MemLike.ld σ c), pt b1 (.cells #[.int .i64 p.thread, .int .i64 p.tag] 70), pt b2 (.cells #[.int .i64 x] 3)] := by
  refine Fn.enter (Tryz.func124) rfl rfl (fun w0 R => ?_)
  refine TC.seq ?_
  refine TC.region ?_
  refine TL.mv (.iface _ _) rfl rfl rfl ?_
  refine TL.mv (.int _ _) rfl rfl rfl ?_
  refine TL.mload 0 hM rfl rfl rfl rfl rfl trivial ?_
  refine TL.callD [] [] unpack_ok ⟨rfl, trivial⟩ trivial fc_c130 rfl rfl rfl rfl rfl trivial ?_
  refine TL.mv (.tuple _) rfl rfl rfl ?_
  refine TL.ext (.agg _) rfl rfl rfl rfl ?_
  refine TL.ext (.int _ _) rfl rfl rfl rfl ?_
  refine TL.alloc 3 (cs := #[.int .i64 0, .int .i64 0, .int .i64 0, .int .i64 0]) fc_z191 rfl rfl rfl (fun _ => trivial) (fun bk3 => ?_)
  refine TL.stW 3 4 [_, _, _, _] rfl rfl rfl rfl rfl rfl fc_a191_4 rfl rfl trivial ?_
  refine TL.asg (.int _ _) rfl rfl rfl ?_
  refine TL.done ?_
  refine TQ.then ?_
  refine TC.seq ?_
  refine TC.seq ?_
  refine TC.region ?_
  refine TL.mv (.int _ _) rfl rfl rfl ?_
  refine TL.neqF rfl rfl (by rw [h]; decide) rfl rfl ?_
  refine TL.done ?_
  refine TQ.then ?_
  refine TC.condF rfl ?_
  refine TC.skip ?_
  refine TQ.then ?_
  refine TC.seq ?_
  refine TC.region ?_
  refine TL.mv (.func _ _ _) rfl rfl rfl ?_
  refine TL.ldA 3 4 [_, _, _, _] rfl rfl rfl fc_a191_4 rfl rfl ?_
  refine TL.callC (c1 := []) (c2 := [_, _]) (vs := [_]) [1, 2] [1, 2] rfl writeF_ok ⟨rfl, trivial⟩ ⟨rfl, rfl, trivial⟩ fc_c191 rfl rfl rfl rfl rfl trivial ?_
  refine TL.callD [] [] pack_ok ⟨rfl, trivial⟩ trivial fc_c173 rfl rfl rfl rfl rfl trivial ?_
  refine TL.mv (.tuple _) rfl rfl rfl ?_
  refine TL.ext (.int _ _) rfl rfl rfl rfl ?_
  refine TL.ext (.int _ _) rfl rfl rfl rfl ?_
  refine TL.asg (.int _ _) rfl rfl rfl ?_
  refine TL.asg (.int _ _) rfl rfl rfl ?_
  refine TL.done ?_
  refine TQ.then ?_
  refine TC.seq ?_
  refine TC.region ?_
  refine TL.mv (.int _ _) rfl rfl rfl ?_
  refine TL.eqlF rfl rfl (by rw [h2]; decide) rfl rfl ?_
  refine TL.done ?_
  refine TQ.then ?_
  refine TC.condF rfl ?_
  refine TC.skip ?_
  refine FQ.end0 (Bs := [A (MemLike.ld σ c), pt b1 (.cells #[.int .i64 p.thread, .int .i64 p.tag] 70), pt b2 (.cells #[.int .i64 x] 3)]) [0, 1, 2] rfl rfl ⟨rfl, rfl, rfl, trivial⟩ ?_
  exact ⟨rfl, rfl⟩

theorem change_w2 {S : Type} [MemLike S] {mt : TypeId} {mv : Value} {A : S → Assn} (hM : MemI Tryz.prog mt mv A) {σ : S} {p : Pen} {c x : Int} {b1 b2 : Nat} (h : (unpack (MemLike.get σ c)).2 = true) (h2 : (p.to x (unpack (MemLike.get σ c)).1).right = true) : FnD Tryz.prog 124 [.iface mt mv, .int .i64 c, .func (.func 191) #[] #[.pointer (some ⟨b1, 0, none⟩), .pointer (some ⟨b2, 0, none⟩)]] [A σ, pt b1 (.cells #[.int .i64 p.thread, .int .i64 p.tag] 70), pt b2 (.cells #[.int .i64 x] 3)] (.tuple #[]) [A (MemLike.st (MemLike.ld σ c) c (p.to x (unpack (MemLike.get σ c)).1).pack), pt b1 (.cells #[.int .i64 p.thread, .int .i64 p.tag] 70), pt b2 (.cells #[.int .i64 x] 3)] := by
  refine Fn.enter (Tryz.func124) rfl rfl (fun w0 R => ?_)
  refine TC.seq ?_
  refine TC.region ?_
  refine TL.mv (.iface _ _) rfl rfl rfl ?_
  refine TL.mv (.int _ _) rfl rfl rfl ?_
  refine TL.mload 0 hM rfl rfl rfl rfl rfl trivial ?_
  refine TL.callD [] [] unpack_ok ⟨rfl, trivial⟩ trivial fc_c130 rfl rfl rfl rfl rfl trivial ?_
  refine TL.mv (.tuple _) rfl rfl rfl ?_
  refine TL.ext (.agg _) rfl rfl rfl rfl ?_
  refine TL.ext (.int _ _) rfl rfl rfl rfl ?_
  refine TL.alloc 3 (cs := #[.int .i64 0, .int .i64 0, .int .i64 0, .int .i64 0]) fc_z191 rfl rfl rfl (fun _ => trivial) (fun bk3 => ?_)
  refine TL.stW 3 4 [_, _, _, _] rfl rfl rfl rfl rfl rfl fc_a191_4 rfl rfl trivial ?_
  refine TL.asg (.int _ _) rfl rfl rfl ?_
  refine TL.done ?_
  refine TQ.then ?_
  refine TC.seq ?_
  refine TC.seq ?_
  refine TC.region ?_
  refine TL.mv (.int _ _) rfl rfl rfl ?_
  refine TL.neqF rfl rfl (by rw [h]; decide) rfl rfl ?_
  refine TL.done ?_
  refine TQ.then ?_
  refine TC.condF rfl ?_
  refine TC.skip ?_
  refine TQ.then ?_
  refine TC.seq ?_
  refine TC.region ?_
  refine TL.mv (.func _ _ _) rfl rfl rfl ?_
  refine TL.ldA 3 4 [_, _, _, _] rfl rfl rfl fc_a191_4 rfl rfl ?_
  refine TL.callC (c1 := []) (c2 := [_, _]) (vs := [_]) [1, 2] [1, 2] rfl writeF_ok ⟨rfl, trivial⟩ ⟨rfl, rfl, trivial⟩ fc_c191 rfl rfl rfl rfl rfl trivial ?_
  refine TL.callD [] [] pack_ok ⟨rfl, trivial⟩ trivial fc_c173 rfl rfl rfl rfl rfl trivial ?_
  refine TL.mv (.tuple _) rfl rfl rfl ?_
  refine TL.ext (.int _ _) rfl rfl rfl rfl ?_
  refine TL.ext (.int _ _) rfl rfl rfl rfl ?_
  refine TL.asg (.int _ _) rfl rfl rfl ?_
  refine TL.asg (.int _ _) rfl rfl rfl ?_
  refine TL.done ?_
  refine TQ.then ?_
  refine TC.seq ?_
  refine TC.region ?_
  refine TL.mv (.int _ _) rfl rfl rfl ?_
  refine TL.eqlT rfl rfl (by rw [h2]; decide) rfl rfl ?_
  refine TL.done ?_
  refine TQ.then ?_
  refine TC.condT rfl ?_
  refine TC.region ?_
  refine TL.mv (.iface _ _) rfl rfl rfl ?_
  refine TL.mv (.int _ _) rfl rfl rfl ?_
  refine TL.mv (.int _ _) rfl rfl rfl ?_
  refine TL.mstore 0 hM rfl rfl rfl (by rw [h2]; exact orU_rng _ _) rfl rfl rfl trivial ?_
  refine TL.done ?_
  refine FQ.end0 (Bs := [A _, pt b1 (.cells #[.int .i64 p.thread, .int .i64 p.tag] 70), pt b2 (.cells #[.int .i64 x] 3)]) [0, 1, 2] rfl rfl ⟨rfl, rfl, rfl, trivial⟩ ?_
  exact ⟨rfl, by rw [h2]; rfl⟩

theorem change_ok {S : Type} [MemLike S] {mt : TypeId} {mv : Value} {A : S → Assn} (hM : MemI Tryz.prog mt mv A) {σ : S} {p : Pen} {c x : Int} {b1 b2 : Nat} : FnD Tryz.prog 124 [.iface mt mv, .int .i64 c, .func (.func 191) #[] #[.pointer (some ⟨b1, 0, none⟩), .pointer (some ⟨b2, 0, none⟩)]] [A σ, pt b1 (.cells #[.int .i64 p.thread, .int .i64 p.tag] 70), pt b2 (.cells #[.int .i64 x] 3)] (.tuple #[]) [A (p.write σ c x), pt b1 (.cells #[.int .i64 p.thread, .int .i64 p.tag] 70), pt b2 (.cells #[.int .i64 x] 3)] := by
  unfold Pen.write
  cases h : (unpack (MemLike.get σ c)).2
  · exact change_w0 hM h
  · rw [if_pos rfl]
    cases h2 : (p.to x (unpack (MemLike.get σ c)).1).right
    · exact change_w1 hM h h2
    · exact change_w2 hM h h2

theorem write_ok {S : Type} [MemLike S] {mt : TypeId} {mv : Value} {A : S → Assn} (hM : MemI Tryz.prog mt mv A) {σ : S} {p : Pen} {c x : Int} : FnD Tryz.prog 147 [.agg #[.int .i64 p.thread, .int .i64 p.tag], .iface mt mv, .int .i64 c, .int .i64 x] [A σ] (.tuple #[]) [A (p.write σ c x)] := by
  refine Fn.enter (Tryz.func147) rfl rfl (fun w0 R => ?_)
  refine TC.seq ?_
  refine TC.region ?_
  refine TL.boxA 1 rfl rfl rfl (fun _ => trivial) (fun bk1 => ?_)
  refine TL.box1 2 (.int _ _) rfl rfl rfl rfl (fun _ => trivial) (fun bk2 => ?_)
  refine TL.done ?_
  refine TQ.then ?_
  refine TC.region ?_
  refine TL.mv (.iface _ _) rfl rfl rfl ?_
  refine TL.mv (.int _ _) rfl rfl rfl ?_
  refine TL.mf (xs := []) (ys := [_, _]) [] [_, _] trivial ⟨rfl, rfl, trivial⟩ rfl rfl ?_
  refine TL.callD [0, 1, 2] [0, 1, 2] (change_ok hM) ⟨rfl, rfl, rfl, trivial⟩ ⟨rfl, rfl, rfl, trivial⟩ fc_c124 rfl rfl rfl rfl rfl trivial ?_
  refine TL.done ?_
  refine FQ.end0 (Bs := [A (p.write σ c x)]) [0] rfl rfl ⟨rfl, trivial⟩ ?_
  exact ⟨rfl, rfl⟩

theorem new_ok {S : Type} [MemLike S] {mt : TypeId} {mv : Value} {A : S → Assn} (hM : MemI Tryz.prog mt mv A) {σ : S} {c : Int} : FnD Tryz.prog 132 [.iface mt mv, .int .i64 c] [A σ] (.int .i64 (pnew σ c)) [A (MemLike.ld σ c)] := by
  refine Fn.enter (Tryz.func132) rfl rfl (fun w0 R => ?_)
  refine TC.seq ?_
  refine TC.region ?_
  refine TL.asg (.int _ _) rfl rfl rfl ?_
  refine TL.done ?_
  refine TQ.then ?_
  refine TC.seq ?_
  refine TC.region ?_
  refine TL.mv (.iface _ _) rfl rfl rfl ?_
  refine TL.mv (.int _ _) rfl rfl rfl ?_
  refine TL.mload 0 hM rfl rfl rfl rfl rfl trivial ?_
  refine TL.callD [] [] unpack_ok ⟨rfl, trivial⟩ trivial fc_c130 rfl rfl rfl rfl rfl trivial ?_
  refine TL.mv (.tuple _) rfl rfl rfl ?_
  refine TL.ext (.agg _) rfl rfl rfl rfl ?_
  refine TL.ext (.int _ _) rfl rfl rfl rfl ?_
  refine TL.alloc 1 (cs := #[.int .i64 0, .int .i64 0, .int .i64 0, .int .i64 0]) fc_z191 rfl rfl rfl (fun _ => trivial) (fun bk1 => ?_)
  refine TL.stW 1 4 [_, _, _, _] rfl rfl rfl rfl rfl rfl fc_a191_4 rfl rfl trivial ?_
  refine TL.asg (.int _ _) rfl rfl rfl ?_
  refine TL.done ?_
  refine TQ.then ?_
  refine TC.seq ?_
  refine TC.region ?_
  refine TL.fa 1 rfl fc_f191_1_1 rfl rfl ?_
  refine TL.ld 1 (.int _ _) rfl rfl rfl fc_s3 rfl rfl ?_
  refine TL.asg (.int _ _) rfl rfl rfl ?_
  refine TL.done ?_
  refine TQ.then ?_
  refine TC.ret ?_
  refine FQ.ret1 (v := (.int _ _)) (Bs := [A (MemLike.ld σ c)]) [0] rfl rfl rfl ⟨rfl, trivial⟩ ?_
  exact ⟨rfl, rfl⟩

theorem tget_ok {S : Type} [MemLike S] {mt : TypeId} {mv : Value} {A : S → Assn} (hM : MemI Tryz.prog mt mv A) {l : Lay} (hl : l.Ok) {p : Pen} {σ : S} {x f : Int} : FnD Tryz.prog 210 [treesV l mt mv p, .int .i64 x, .int .i64 f] [A σ] (.int .i64 (tget l σ x f)) [A (tgetS l σ x f)] := by
  refine Fn.enter (Tryz.func210) rfl rfl (fun w0 R => ?_)
  refine TC.seq ?_
  refine TC.region ?_
  refine TL.boxA 1 rfl rfl rfl (fun _ => trivial) (fun bk1 => ?_)
  refine TL.asg (.int _ _) rfl rfl rfl ?_
  refine TL.done ?_
  refine TQ.then ?_
  refine TC.seq ?_
  refine TC.draw [(0, true), (1, true), (2, true), (3, true), (4, true), (5, true), (7, true), (8, true), (6, false), (9, false), (10, true), (11, true)] [1] fc_m (by kernel_rfl) ?_
  refine TL.fa 3 rfl fc_f100_1_3 rfl rfl ?_
  refine TL.ld 1 (.iface _ _) rfl rfl rfl fc_s98 rfl rfl ?_
  refine TL.fa 0 rfl fc_f100_0_0 rfl rfl ?_
  refine TL.ldA 1 3 [_, _, _] rfl rfl rfl fc_a45_3 rfl rfl ?_
  refine TL.mv (.int _ _) rfl rfl rfl ?_
  refine TL.mv (.int _ _) rfl rfl rfl ?_
  refine TL.ncI rfl rfl rfl ?_
  refine TL.mv (.iface _ _) rfl rfl rfl ?_
  refine TL.callD [] [] (field_ok hl) ⟨rfl, rfl, rfl, trivial⟩ trivial fc_c23 rfl rfl rfl rfl rfl (.cons rfl rfl trivial) ?_
  refine TL.mload 0 hM rfl rfl rfl rfl rfl (.cons rfl rfl trivial) ?_
  refine TL.conv _ rfl fc_u33 fc_i3_i64 (rfl) rfl rfl ?_
  refine TL.asg (.int _ _) rfl rfl rfl ?_
  refine TL.done ?_
  refine TQ.then ?_
  refine TC.ret ?_
  refine FQ.ret1 (v := (.int _ _)) (Bs := [A _]) [0] rfl rfl rfl ⟨rfl, trivial⟩ ?_
  exact ⟨rfl, rfl⟩

theorem tput_ok {S : Type} [MemLike S] {mt : TypeId} {mv : Value} {A : S → Assn} (hM : MemI Tryz.prog mt mv A) {l : Lay} (hl : l.Ok) {p : Pen} {σ : S} {x f v : Int} : FnD Tryz.prog 121 [treesV l mt mv p, .int .i64 x, .int .i64 f, .int .i64 v] [A σ] (.tuple #[]) [A (tput l σ x f v)] := by
  refine Fn.enter (Tryz.func121) rfl rfl (fun w0 R => ?_)
  refine TC.seq ?_
  refine TC.region ?_
  refine TL.boxA 1 rfl rfl rfl (fun _ => trivial) (fun bk1 => ?_)
  refine TL.done ?_
  refine TQ.then ?_
  refine TC.draw [(0, true), (1, true), (2, true), (3, true), (4, true), (5, true), (7, true), (8, true), (9, true), (10, true), (6, false), (11, false)] [1] fc_m (by kernel_rfl) ?_
  refine TL.fa 3 rfl fc_f100_1_3 rfl rfl ?_
  refine TL.ld 1 (.iface _ _) rfl rfl rfl fc_s98 rfl rfl ?_
  refine TL.fa 0 rfl fc_f100_0_0 rfl rfl ?_
  refine TL.ldA 1 3 [_, _, _] rfl rfl rfl fc_a45_3 rfl rfl ?_
  refine TL.mv (.int _ _) rfl rfl rfl ?_
  refine TL.mv (.int _ _) rfl rfl rfl ?_
  refine TL.mv (.int _ _) rfl rfl rfl ?_
  refine TL.conv _ rfl fc_u3 fc_i33_u64 (rfl) rfl rfl ?_
  refine TL.ncI rfl rfl rfl ?_
  refine TL.mv (.iface _ _) rfl rfl rfl ?_
  refine TL.callD [] [] (field_ok hl) ⟨rfl, rfl, rfl, trivial⟩ trivial fc_c23 rfl rfl rfl rfl rfl (.cons rfl rfl trivial) ?_
  refine TL.mstore 0 hM rfl rfl rfl (by first | exact wu_rng _ | exact orU_rng _ _ | exact MemLike.rng _ _ | decide | assumption) rfl rfl rfl (.cons rfl rfl trivial) ?_
  refine TL.done ?_
  refine FQ.end0 (Bs := [A _]) [0] rfl rfl ⟨rfl, trivial⟩ ?_
  exact ⟨rfl, rfl⟩

theorem shown_ok {mt : TypeId} {mv : Value} {l : Lay} (hl : l.Ok) {p : Pen} {x : Int} : FnD Tryz.prog 172 [treesV l mt mv p, .int .i64 x] [] (.bool (shown l x)) [] := by
  refine Fn.enter (Tryz.func172) rfl rfl (fun w0 R => ?_)
  refine TC.seq ?_
  refine TC.region ?_
  refine TL.boxA 0 rfl rfl rfl (fun _ => trivial) (fun bk0 => ?_)
  refine TL.asg (.bool false) rfl rfl rfl ?_
  refine TL.done ?_
  refine TQ.then ?_
  refine TC.seq ?_
  refine TC.region ?_
  refine TL.fa 0 rfl fc_f100_0_0 rfl rfl ?_
  refine TL.ldA 0 3 [_, _, _] rfl rfl rfl fc_a45_3 rfl rfl ?_
  refine TL.mv (.int _ _) rfl rfl rfl ?_
  refine TL.callD [] [] (node_ok hl) ⟨rfl, rfl, trivial⟩ trivial fc_c79 rfl rfl rfl rfl rfl trivial ?_
  refine TL.mv (.tuple _) rfl rfl rfl ?_
  refine TL.ext (.agg _) rfl rfl rfl rfl ?_
  refine TL.ext (.bool _) rfl rfl rfl rfl ?_
  refine TL.alloc 1 (cs := #[.bool false, .int .i64 0, .int .i64 0, .int .i64 0, .int .i64 0]) fc_z142 rfl rfl rfl (fun _ => trivial) (fun bk1 => ?_)
  refine TL.stW 1 5 [_, _, _, _, _] rfl rfl rfl rfl rfl rfl fc_a142_5 rfl rfl trivial ?_
  refine TL.asg (.bool _) rfl rfl rfl ?_
  refine TL.done ?_
  refine TQ.then ?_
  refine TC.seq ?_
  refine TC.region ?_
  refine TL.fa 1 rfl fc_f142_1_1 rfl rfl ?_
  refine TL.ld 1 (.int _ _) rfl rfl rfl fc_s3 rfl rfl ?_
  refine TL.eqlV rfl rfl rfl rfl ?_
  refine TL.asg (.bool _) rfl rfl rfl ?_
  refine TL.done ?_
  refine TQ.then ?_
  refine TC.ret ?_
  refine FQ.ret1 (v := (.bool _)) (Bs := []) [] rfl rfl rfl trivial ?_
  exact ⟨rfl, rfl⟩

theorem parent_ok {S : Type} [MemLike S] {mt : TypeId} {mv : Value} {A : S → Assn} (hM : MemI Tryz.prog mt mv A) {l : Lay} (hl : l.Ok) {p : Pen} {σ : S} {x : Int} : FnD Tryz.prog 177 [treesV l mt mv p, .int .i64 x] [A σ] (.int .i64 (parent l σ x)) [A (parentS l σ x)] := by
  refine Fn.enter (Tryz.func177) rfl rfl (fun w0 R => ?_)
  refine TC.seq ?_
  refine TC.region ?_
  refine TL.boxA 1 rfl rfl rfl (fun _ => trivial) (fun bk1 => ?_)
  refine TL.asg (.int _ _) rfl rfl rfl ?_
  refine TL.done ?_
  refine TQ.then ?_
  refine TC.seq ?_
  refine TC.seq ?_
  refine TC.region ?_
  refine TL.ldA 1 6 [_, _, _, _, _, _] rfl rfl rfl fc_a100_6 rfl rfl ?_
  refine TL.mv (.int _ _) rfl rfl rfl ?_
  refine TL.callD [] [] (shown_ok hl) ⟨rfl, rfl, trivial⟩ trivial fc_c172 rfl rfl rfl rfl rfl trivial ?_
  refine TL.cases rfl (fun q1 => ?_) (fun q1 => ?_)
  · skip
    refine TL.done ?_
    refine TQ.then ?_
    refine TC.condT rfl ?_
    refine TC.seq ?_
    refine TC.draw [(0, true), (1, true), (2, true), (3, true), (4, true), (5, false), (6, false), (7, true)] [1] fc_m (by kernel_rfl) ?_
    refine TL.fa 3 rfl fc_f100_1_3 rfl rfl ?_
    refine TL.ld 1 (.iface _ _) rfl rfl rfl fc_s98 rfl rfl ?_
    refine TL.fa 0 rfl fc_f100_0_0 rfl rfl ?_
    refine TL.ldA 1 3 [_, _, _] rfl rfl rfl fc_a45_3 rfl rfl ?_
    refine TL.mv (.int _ _) rfl rfl rfl ?_
    refine TL.callD [] [] (field_ok hl) ⟨rfl, rfl, rfl, trivial⟩ trivial fc_c23 rfl rfl rfl rfl rfl (.cons rfl rfl trivial) ?_
    refine TL.callD [0] [0] (new_ok hM) ⟨rfl, rfl, trivial⟩ ⟨rfl, trivial⟩ fc_c132 rfl rfl rfl rfl rfl (.cons rfl rfl trivial) ?_
    refine TL.asg (.int _ _) rfl rfl rfl ?_
    refine TL.done ?_
    refine TQ.then ?_
    refine TC.ret ?_
    refine TQ.thenRet ?_
    refine FQ.ret1 (v := (.int _ _)) (Bs := [A _]) [0] rfl rfl rfl ⟨rfl, trivial⟩ ?_
    exact ⟨(by simp only [parent, *, if_true, Bool.false_eq_true, if_false]), rfl⟩
  · skip
    refine TL.done ?_
    refine TQ.then ?_
    refine TC.condF rfl ?_
    refine TC.skip ?_
    refine TQ.then ?_
    refine TC.seq ?_
    refine TC.region ?_
    refine TL.ldA 1 6 [_, _, _, _, _, _] rfl rfl rfl fc_a100_6 rfl rfl ?_
    refine TL.mv (.int _ _) rfl rfl rfl ?_
    refine TL.callD [0] [0] (tget_ok hM hl) ⟨rfl, rfl, rfl, trivial⟩ ⟨rfl, trivial⟩ fc_c210 rfl rfl rfl rfl rfl trivial ?_
    refine TL.asg (.int _ _) rfl rfl rfl ?_
    refine TL.done ?_
    refine TQ.then ?_
    refine TC.ret ?_
    refine FQ.ret1 (v := (.int _ _)) (Bs := [A _]) [0] rfl rfl rfl ⟨rfl, trivial⟩ ?_
    exact ⟨(by simp only [parent, *, if_true, Bool.false_eq_true, if_false]), rfl⟩

theorem hang_ok {S : Type} [MemLike S] {mt : TypeId} {mv : Value} {A : S → Assn} (hM : MemI Tryz.prog mt mv A) {l : Lay} (hl : l.Ok) {p : Pen} {σ : S} {x q : Int} : FnD Tryz.prog 122 [treesV l mt mv p, .int .i64 x, .int .i64 q] [A σ] (.tuple #[]) [A (hang l p σ x q)] := by
  refine Fn.enter (Tryz.func122) rfl rfl (fun w0 R => ?_)
  refine TC.seq ?_
  refine TC.region ?_
  refine TL.boxA 1 rfl rfl rfl (fun _ => trivial) (fun bk1 => ?_)
  refine TL.done ?_
  refine TQ.then ?_
  refine TC.block ?_
  refine TC.seq ?_
  refine TC.region ?_
  refine TL.mv (.int _ _) rfl rfl rfl ?_
  refine TL.eql rfl rfl rfl rfl (fun q1 => ?_) (fun q1 => ?_)
  · skip
    refine TL.asg (.bool true) rfl rfl rfl ?_
    refine TL.done ?_
    refine TQ.then ?_
    refine TC.condT rfl ?_
    refine TC.skip ?_
    refine TQ.inBlock ?_
    refine FQ.end0 (Bs := [A _]) [0] rfl rfl ⟨rfl, trivial⟩ ?_
    first | exact ⟨rfl, (by simp only [hang, *, if_true, Bool.false_eq_true, if_false])⟩ | exact ⟨rfl, (by simp only [hang]; rw [if_pos (by assumption)])⟩
  · skip
    refine TL.asg (.bool false) rfl rfl rfl ?_
    refine TL.done ?_
    refine TQ.then ?_
    refine TC.condF rfl ?_
    refine TC.seq ?_
    refine TC.region ?_
    refine TL.ldA 1 6 [_, _, _, _, _, _] rfl rfl rfl fc_a100_6 rfl rfl ?_
    refine TL.mv (.int _ _) rfl rfl rfl ?_
    refine TL.callD [] [] (shown_ok hl) ⟨rfl, rfl, trivial⟩ trivial fc_c172 rfl rfl rfl rfl rfl trivial ?_
    refine TL.cases rfl (fun q2 => ?_) (fun q2 => ?_)
    · skip
      refine TL.asg (.bool true) rfl rfl rfl ?_
      refine TL.done ?_
      refine TQ.then ?_
      refine TC.condT rfl ?_
      refine TC.draw [(0, true), (1, true), (2, true), (3, true), (4, true), (5, true), (6, true), (8, true), (7, false), (9, false)] [1] fc_m (by kernel_rfl) ?_
      refine TL.fa 4 rfl fc_f100_2_4 rfl rfl ?_
      refine TL.ldA 1 2 [_, _] rfl rfl rfl fc_a70_2 rfl rfl ?_
      refine TL.fa 3 rfl fc_f100_1_3 rfl rfl ?_
      refine TL.ld 1 (.iface _ _) rfl rfl rfl fc_s98 rfl rfl ?_
      refine TL.fa 0 rfl fc_f100_0_0 rfl rfl ?_
      refine TL.ldA 1 3 [_, _, _] rfl rfl rfl fc_a45_3 rfl rfl ?_
      refine TL.mv (.int _ _) rfl rfl rfl ?_
      refine TL.mv (.int _ _) rfl rfl rfl ?_
      refine TL.callD [] [] (field_ok hl) ⟨rfl, rfl, rfl, trivial⟩ trivial fc_c23 rfl rfl rfl rfl rfl (.cons rfl rfl trivial) ?_
      refine TL.callD [0] [0] (write_ok hM) ⟨rfl, rfl, rfl, rfl, trivial⟩ ⟨rfl, trivial⟩ fc_c147 rfl rfl rfl rfl rfl (.cons rfl rfl trivial) ?_
      refine TL.done ?_
      refine TQ.inBlock ?_
      refine FQ.end0 (Bs := [A _]) [0] rfl rfl ⟨rfl, trivial⟩ ?_
      first | exact ⟨rfl, (by simp only [hang, *, if_true, Bool.false_eq_true, if_false])⟩ | exact ⟨rfl, (by simp only [hang]; rw [if_pos (by assumption)])⟩
    · skip
      refine TL.asg (.bool false) rfl rfl rfl ?_
      refine TL.done ?_
      refine TQ.then ?_
      refine TC.condF rfl ?_
      refine TC.region ?_
      refine TL.ldA 1 6 [_, _, _, _, _, _] rfl rfl rfl fc_a100_6 rfl rfl ?_
      refine TL.mv (.int _ _) rfl rfl rfl ?_
      refine TL.mv (.int _ _) rfl rfl rfl ?_
      refine TL.callD [0] [0] (tput_ok hM hl) ⟨rfl, rfl, rfl, rfl, trivial⟩ ⟨rfl, trivial⟩ fc_c121 rfl rfl rfl rfl rfl trivial ?_
      refine TL.done ?_
      refine TQ.inBlock ?_
      refine FQ.end0 (Bs := [A _]) [0] rfl rfl ⟨rfl, trivial⟩ ?_
      first | exact ⟨rfl, (by simp only [hang, *, if_true, Bool.false_eq_true, if_false])⟩ | exact ⟨rfl, (by simp only [hang]; rw [if_pos (by assumption)])⟩

theorem tsum_ok {S : Type} [MemLike S] {mt : TypeId} {mv : Value} {A : S → Assn} (hM : MemI Tryz.prog mt mv A) {l : Lay} (hl : l.Ok) {p : Pen} {σ : S} {x : Int} : FnD Tryz.prog 188 [treesV l mt mv p, .int .i64 x] [A σ] (.int .u64 (tsum l σ x)) [A (tsumS l σ x)] := by
  refine Fn.enter (Tryz.func188) rfl rfl (fun w0 R => ?_)
  refine TC.seq ?_
  refine TC.region ?_
  refine TL.boxA 1 rfl rfl rfl (fun _ => trivial) (fun bk1 => ?_)
  refine TL.asg (.int _ _) rfl rfl rfl ?_
  refine TL.done ?_
  refine TQ.then ?_
  refine TC.seq ?_
  refine TC.seq ?_
  refine TC.region ?_
  refine TL.mv (.int _ _) rfl rfl rfl ?_
  refine TL.eql rfl rfl rfl rfl (fun q1 => ?_) (fun q1 => ?_)
  · skip
    refine TL.done ?_
    refine TQ.then ?_
    refine TC.condT rfl ?_
    refine TC.seq ?_
    refine TC.region ?_
    refine TL.asg (.int _ _) rfl rfl rfl ?_
    refine TL.done ?_
    refine TQ.then ?_
    refine TC.ret ?_
    refine TQ.thenRet ?_
    refine FQ.ret1 (v := (.int _ _)) (Bs := [A _]) [0] rfl rfl rfl ⟨rfl, trivial⟩ ?_
    first | exact ⟨(by simp only [tsum]; rw [if_pos (by assumption)]), (by simp only [tsumS]; rw [if_pos (by assumption)])⟩ | exact ⟨(by simp only [tsum]; rw [if_neg (by assumption)]), (by simp only [tsumS]; rw [if_neg (by assumption)])⟩
  · skip
    refine TL.done ?_
    refine TQ.then ?_
    refine TC.condF rfl ?_
    refine TC.skip ?_
    refine TQ.then ?_
    refine TC.seq ?_
    refine TC.draw [(0, true), (1, true), (2, true), (3, true), (4, true), (6, true), (7, true), (5, false), (8, false), (9, true)] [1] fc_m (by kernel_rfl) ?_
    refine TL.fa 3 rfl fc_f100_1_3 rfl rfl ?_
    refine TL.ld 1 (.iface _ _) rfl rfl rfl fc_s98 rfl rfl ?_
    refine TL.fa 0 rfl fc_f100_0_0 rfl rfl ?_
    refine TL.ldA 1 3 [_, _, _] rfl rfl rfl fc_a45_3 rfl rfl ?_
    refine TL.mv (.int _ _) rfl rfl rfl ?_
    refine TL.ncI rfl rfl rfl ?_
    refine TL.mv (.iface _ _) rfl rfl rfl ?_
    refine TL.callD [] [] (field_ok hl) ⟨rfl, rfl, rfl, trivial⟩ trivial fc_c23 rfl rfl rfl rfl rfl (.cons rfl rfl trivial) ?_
    refine TL.mload 0 hM rfl rfl rfl rfl rfl (.cons rfl rfl trivial) ?_
    refine TL.asg (.int _ _) rfl rfl rfl ?_
    refine TL.done ?_
    refine TQ.then ?_
    refine TC.ret ?_
    refine FQ.ret1 (v := (.int _ _)) (Bs := [A _]) [0] rfl rfl rfl ⟨rfl, trivial⟩ ?_
    first | exact ⟨(by simp only [tsum]; rw [if_pos (by assumption)]), (by simp only [tsumS]; rw [if_pos (by assumption)])⟩ | exact ⟨(by simp only [tsum]; rw [if_neg (by assumption)]), (by simp only [tsumS]; rw [if_neg (by assumption)])⟩

theorem counts_ok {v : Int} : FnD Tryz.prog 240 [.int .u64 v] [] (.int .u64 (counts v)) [] := by
  refine Fn.enter (Tryz.func240) rfl rfl (fun w0 R => ?_)
  refine TC.seq ?_
  refine TC.region ?_
  refine TL.asg (.int _ _) rfl rfl rfl ?_
  refine TL.done ?_
  refine TQ.then ?_
  refine TC.seq ?_
  refine TC.region ?_
  refine TL.mv (.int _ _) rfl rfl rfl ?_
  refine TL.and _ rfl rfl rfl rfl rfl ?_
  refine TL.asg (.int _ _) rfl rfl rfl ?_
  refine TL.done ?_
  refine TQ.then ?_
  refine TC.ret ?_
  refine FQ.ret1 (v := (.int _ _)) (Bs := []) [] rfl rfl rfl trivial ?_
  exact ⟨rfl, rfl⟩

theorem lone_ok {mt : TypeId} {mv : Value} {l : Lay} (hl : l.Ok) {p : Pen} {x m : Int} : FnD Tryz.prog 123 [treesV l mt mv p, .int .i64 x, .int .u64 m] [] (.int .u64 (loneV l x m)) [] := by
  refine Fn.enter (Tryz.func123) rfl rfl (fun w0 R => ?_)
  refine TC.seq ?_
  refine TC.region ?_
  refine TL.boxA 0 rfl rfl rfl (fun _ => trivial) (fun bk0 => ?_)
  refine TL.asg (.int _ _) rfl rfl rfl ?_
  refine TL.done ?_
  refine TQ.then ?_
  refine TC.seq ?_
  refine TC.region ?_
  refine TL.mv (.int _ _) rfl rfl rfl ?_
  refine TL.shl _ rfl rfl (by decide) rfl rfl rfl ?_
  refine TL.or _ rfl rfl rfl rfl rfl ?_
  refine TL.mv (.int _ _) rfl rfl rfl ?_
  refine TL.shl _ rfl rfl (by decide) rfl rfl rfl ?_
  refine TL.or _ rfl rfl rfl rfl rfl ?_
  refine TL.asg (.int _ _) rfl rfl rfl ?_
  refine TL.done ?_
  refine TQ.then ?_
  refine TC.seq ?_
  refine TC.seq ?_
  refine TC.region ?_
  refine TL.fa 0 rfl fc_f100_0_0 rfl rfl ?_
  refine TL.ldA 0 3 [_, _, _] rfl rfl rfl fc_a45_3 rfl rfl ?_
  refine TL.mv (.int _ _) rfl rfl rfl ?_
  refine TL.callD [] [] (node_ok hl) ⟨rfl, rfl, trivial⟩ trivial fc_c79 rfl rfl rfl rfl rfl trivial ?_
  refine TL.mv (.tuple _) rfl rfl rfl ?_
  refine TL.ext (.agg _) rfl rfl rfl rfl ?_
  refine TL.ext (.bool _) rfl rfl rfl rfl ?_
  refine TL.alloc 1 (cs := #[.bool false, .int .i64 0, .int .i64 0, .int .i64 0, .int .i64 0]) fc_z142 rfl rfl rfl (fun _ => trivial) (fun bk1 => ?_)
  refine TL.stW 1 5 [_, _, _, _, _] rfl rfl rfl rfl rfl rfl fc_a142_5 rfl rfl trivial ?_
  refine TL.asg (.bool _) rfl rfl rfl ?_
  refine TL.done ?_
  refine TQ.then ?_
  refine TC.seq ?_
  refine TC.region ?_
  refine TL.fa 0 rfl fc_f142_0_0 rfl rfl ?_
  refine TL.ld 1 (.bool _) rfl rfl rfl fc_s4 rfl rfl ?_
  refine TL.not _ _ rfl rfl rfl rfl ?_
  refine TL.done ?_
  refine TQ.then ?_
  refine TC.cond rfl (fun q1 => ?_) (fun q1 => ?_)
  · skip
    refine TC.region ?_
    refine TL.mv (.int _ _) rfl rfl rfl ?_
    refine TL.or _ rfl rfl rfl rfl rfl ?_
    refine TL.asg (.int _ _) rfl rfl rfl ?_
    refine TL.done ?_
    refine TQ.then ?_
    refine TC.seq ?_
    refine TC.region ?_
    refine TL.mv (.int _ _) rfl rfl rfl ?_
    refine TL.asg (.int _ _) rfl rfl rfl ?_
    refine TL.done ?_
    refine TQ.then ?_
    refine TC.ret ?_
    refine FQ.ret1 (v := (.int _ _)) (Bs := []) [] rfl rfl rfl trivial ?_
    first | exact ⟨(by have q : (l.node x).1.arc = false := (by simpa using ‹(!(l.node x).1.arc) = true›); simp only [loneV, q, Bool.false_eq_true, if_false]; rfl), rfl⟩ | exact ⟨(by have q : (l.node x).1.arc = true := (by simpa using ‹(!(l.node x).1.arc) = false›); simp only [loneV, q, if_true]; rfl), rfl⟩
  · skip
    refine TC.skip ?_
    refine TQ.then ?_
    refine TC.seq ?_
    refine TC.region ?_
    refine TL.mv (.int _ _) rfl rfl rfl ?_
    refine TL.asg (.int _ _) rfl rfl rfl ?_
    refine TL.done ?_
    refine TQ.then ?_
    refine TC.ret ?_
    refine FQ.ret1 (v := (.int _ _)) (Bs := []) [] rfl rfl rfl trivial ?_
    first | exact ⟨(by have q : (l.node x).1.arc = false := (by simpa using ‹(!(l.node x).1.arc) = true›); simp only [loneV, q, Bool.false_eq_true, if_false]; rfl), rfl⟩ | exact ⟨(by have q : (l.node x).1.arc = true := (by simpa using ‹(!(l.node x).1.arc) = false›); simp only [loneV, q, if_true]; rfl), rfl⟩

theorem renew_ok {S : Type} [MemLike S] {mt : TypeId} {mv : Value} {A : S → Assn} (hM : MemI Tryz.prog mt mv A) {l : Lay} (hl : l.Ok) {p : Pen} {σ : S} {x m : Int} : FnD Tryz.prog 223 [treesV l mt mv p, .int .i64 x, .int .u64 m] [A σ] (.tuple #[]) [A (renew l σ x m)] := by
  refine Fn.enter (Tryz.func223) rfl rfl (fun w0 R => ?_)
  refine TC.seq ?_
  refine TC.region ?_
  refine TL.boxA 1 rfl rfl rfl (fun _ => trivial) (fun bk1 => ?_)
  refine TL.done ?_
  refine TQ.then ?_
  refine TC.seq ?_
  refine TC.region ?_
  refine TL.ldA 1 6 [_, _, _, _, _, _] rfl rfl rfl fc_a100_6 rfl rfl ?_
  refine TL.mv (.int _ _) rfl rfl rfl ?_
  refine TL.mv (.int _ _) rfl rfl rfl ?_
  refine TL.callD [] [] (lone_ok hl) ⟨rfl, rfl, rfl, trivial⟩ trivial fc_c123 rfl rfl rfl rfl rfl trivial ?_
  refine TL.asg (.int _ _) rfl rfl rfl ?_
  refine TL.done ?_
  refine TQ.then ?_
  refine TC.seq ?_
  refine TC.seq ?_
  refine TC.region ?_
  refine TL.bldA [.int .i64 0, .int .i64 0] [(.int _ _), (.int _ _)] [_, _] fc_z152 fc_r152_2_3_1 ⟨rfl, rfl, trivial⟩ ⟨rfl, rfl⟩ rfl rfl ?_
  refine TL.mv (.int _ _) rfl rfl rfl ?_
  refine TL.done ?_
  refine TQ.then ?_
  refine TC.block ?_
  refine TC.loopK (X := Nat) [1, 3, 14] [1] (fun i => [(6, .int .u64 (renewV l σ x m i).1), (15, .int .i64 (i : Int))]) (fun i => [(0, A (renewV l σ x m i).2)]) (fun i => i ≤ 2) (fun i => 2 - i) (0) (by decide) ⟨rfl, rfl, trivial⟩ ⟨rfl, trivial⟩ (fun i hI => ?_)
  refine TC.sub (env' := [(6, _), (15, _), (1, _), (3, _), (14, _)]) (L' := [(0, _), (1, _)]) ⟨rfl, rfl, rfl, rfl, rfl, trivial⟩ ⟨rfl, rfl, trivial⟩ ?_
  refine TC.seq ?_
  refine TC.region ?_
  refine TL.lss rfl rfl rfl rfl (fun q1 => ?_) (fun q1 => ?_)
  · skip
    refine TL.done ?_
    refine TQ.then ?_
    refine TC.seq ?_
    refine TC.condT rfl ?_
    refine TC.skip ?_
    refine TQ.then ?_
    refine TC.seq ?_
    refine TC.block ?_
    refine TC.seq ?_
    refine TC.region ?_
    refine TL.ixA (.int .i64 (3 + (i : Int))) rfl rfl fc_r152_2_3_1 fc_s3 (by omega) (by omega) (by have : i = 0 ∨ i = 1 := (by omega); rcases this with rfl | rfl <;> rfl) rfl rfl ?_
    refine TL.asg (.int _ _) rfl rfl rfl ?_
    refine TL.done ?_
    refine TQ.then ?_
    refine TC.seq ?_
    refine TC.draw [(0, true), (1, true), (2, true), (3, true), (4, false), (5, false), (6, true)] [1] fc_m (by kernel_rfl) ?_
    refine TL.ldA 1 6 [_, _, _, _, _, _] rfl rfl rfl fc_a100_6 rfl rfl ?_
    refine TL.ldA 1 6 [_, _, _, _, _, _] rfl rfl rfl fc_a100_6 rfl rfl ?_
    refine TL.mv (.int _ _) rfl rfl rfl ?_
    refine TL.mv (.int _ _) rfl rfl rfl ?_
    refine TL.callD [0] [0] (tget_ok hM hl) ⟨rfl, rfl, rfl, trivial⟩ ⟨rfl, trivial⟩ fc_c210 rfl rfl rfl rfl rfl (.cons rfl rfl trivial) ?_
    refine TL.callD [0] [0] (tsum_ok hM hl) ⟨rfl, rfl, trivial⟩ ⟨rfl, trivial⟩ fc_c188 rfl rfl rfl rfl rfl (.cons rfl rfl trivial) ?_
    refine TL.asg (.int _ _) rfl rfl rfl ?_
    refine TL.done ?_
    refine TQ.then ?_
    refine TC.region ?_
    refine TL.mv (.int _ _) rfl rfl rfl ?_
    refine TL.mv (.int _ _) rfl rfl rfl ?_
    refine TL.callD [] [] counts_ok ⟨rfl, trivial⟩ trivial fc_c240 rfl rfl rfl rfl rfl trivial ?_
    refine TL.add _ rfl rfl (rfl) rfl rfl ?_
    refine TL.mv (.int _ _) rfl rfl rfl ?_
    refine TL.shr _ rfl rfl (by decide) rfl rfl rfl ?_
    refine TL.and _ rfl rfl rfl rfl rfl ?_
    refine TL.shl _ rfl rfl (by decide) rfl rfl rfl ?_
    refine TL.or _ rfl rfl rfl rfl rfl ?_
    refine TL.asg (.int _ _) rfl rfl rfl ?_
    refine TL.done ?_
    refine TQ.inBlock ?_
    refine TQ.then ?_
    refine TC.region ?_
    refine TL.add _ rfl rfl (wr64 (by omega)) rfl rfl ?_
    refine TL.mv (.int _ _) rfl rfl rfl ?_
    refine TL.done ?_
    refine TQ.roundK (i + 1) ⟨by omega, by omega⟩ ⟨rfl, rfl, trivial⟩ ⟨rfl, trivial⟩ (.cons rfl rfl (.cons rfl rfl (.cons rfl rfl trivial))) (.cons rfl rfl trivial)
  · skip
    refine TL.done ?_
    refine TQ.then ?_
    refine TC.seq ?_
    refine TC.condF rfl ?_
    refine TC.exit ?_
    refine TQ.thenExit ?_
    refine TQ.thenExit ?_
    refine TQ.blockHere ?_
    refine TQ.then ?_
    refine TC.draw [(0, true), (1, true), (2, true), (3, true), (4, true), (6, true), (7, true), (8, true), (5, false), (9, false)] [1] fc_m (by kernel_rfl) ?_
    refine TL.fa 3 rfl fc_f100_1_3 rfl rfl ?_
    refine TL.ld 1 (.iface _ _) rfl rfl rfl fc_s98 rfl rfl ?_
    refine TL.fa 0 rfl fc_f100_0_0 rfl rfl ?_
    refine TL.ldA 1 3 [_, _, _] rfl rfl rfl fc_a45_3 rfl rfl ?_
    refine TL.mv (.int _ _) rfl rfl rfl ?_
    refine TL.mv (.int _ _) rfl rfl rfl ?_
    refine TL.ncI rfl rfl rfl ?_
    refine TL.mv (.iface _ _) rfl rfl rfl ?_
    refine TL.callD [] [] (field_ok hl) ⟨rfl, rfl, rfl, trivial⟩ trivial fc_c23 rfl rfl rfl rfl rfl (.cons rfl rfl trivial) ?_
    refine TL.mstore 0 hM rfl rfl rfl (renewV_rng _ _ _ _ _) rfl rfl rfl (.cons rfl rfl trivial) ?_
    refine TL.done ?_
    refine FQ.end0 (Bs := [A _]) [0] rfl rfl ⟨rfl, trivial⟩ ?_
    obtain rfl : i = 2 := by omega
    refine ⟨rfl, ?_⟩
    unfold renew
    rfl

theorem marks_ok {S : Type} [MemLike S] {mt : TypeId} {mv : Value} {A : S → Assn} (hM : MemI Tryz.prog mt mv A) {l : Lay} (hl : l.Ok) {p : Pen} {σ : S} {x : Int} : FnD Tryz.prog 222 [treesV l mt mv p, .int .i64 x] [A σ] (.int .u64 (marks l σ x)) [A (marksS l σ x)] := by
  refine Fn.enter (Tryz.func222) rfl rfl (fun w0 R => ?_)
  refine TC.seq ?_
  refine TC.region ?_
  refine TL.boxA 1 rfl rfl rfl (fun _ => trivial) (fun bk1 => ?_)
  refine TL.asg (.int _ _) rfl rfl rfl ?_
  refine TL.done ?_
  refine TQ.then ?_
  refine TC.seq ?_
  refine TC.region ?_
  refine TL.ldA 1 6 [_, _, _, _, _, _] rfl rfl rfl fc_a100_6 rfl rfl ?_
  refine TL.mv (.int _ _) rfl rfl rfl ?_
  refine TL.callD [0] [0] (tsum_ok hM hl) ⟨rfl, rfl, trivial⟩ ⟨rfl, trivial⟩ fc_c188 rfl rfl rfl rfl rfl trivial ?_
  refine TL.shr _ rfl rfl (by decide) rfl rfl rfl ?_
  refine TL.and _ rfl rfl rfl rfl rfl ?_
  refine TL.asg (.int _ _) rfl rfl rfl ?_
  refine TL.done ?_
  refine TQ.then ?_
  refine TC.ret ?_
  refine FQ.ret1 (v := (.int _ _)) (Bs := [A _]) [0] rfl rfl rfl ⟨rfl, trivial⟩ ?_
  exact ⟨rfl, rfl⟩

theorem alone_ok {S : Type} [MemLike S] {mt : TypeId} {mv : Value} {A : S → Assn} (hM : MemI Tryz.prog mt mv A) {l : Lay} (hl : l.Ok) {p : Pen} {σ : S} {x : Int} : FnD Tryz.prog 77 [treesV l mt mv p, .int .i64 x] [A σ] (.tuple #[]) [A (alone l p σ x)] := by
  refine Fn.enter (Tryz.func77) rfl rfl (fun w0 R => ?_)
  refine TC.seq ?_
  refine TC.region ?_
  refine TL.boxA 1 rfl rfl rfl (fun _ => trivial) (fun bk1 => ?_)
  refine TL.done ?_
  refine TQ.then ?_
  refine TC.seq ?_
  refine TC.region ?_
  refine TL.ldA 1 6 [_, _, _, _, _, _] rfl rfl rfl fc_a100_6 rfl rfl ?_
  refine TL.mv (.int _ _) rfl rfl rfl ?_
  refine TL.callD [0] [0] (tput_ok hM hl) ⟨rfl, rfl, rfl, rfl, trivial⟩ ⟨rfl, trivial⟩ fc_c121 rfl rfl rfl rfl rfl trivial ?_
  refine TL.done ?_
  refine TQ.then ?_
  refine TC.seq ?_
  refine TC.region ?_
  refine TL.ldA 1 6 [_, _, _, _, _, _] rfl rfl rfl fc_a100_6 rfl rfl ?_
  refine TL.mv (.int _ _) rfl rfl rfl ?_
  refine TL.callD [0] [0] (tput_ok hM hl) ⟨rfl, rfl, rfl, rfl, trivial⟩ ⟨rfl, trivial⟩ fc_c121 rfl rfl rfl rfl rfl trivial ?_
  refine TL.done ?_
  refine TQ.then ?_
  refine TC.seq ?_
  refine TC.region ?_
  refine TL.ldA 1 6 [_, _, _, _, _, _] rfl rfl rfl fc_a100_6 rfl rfl ?_
  refine TL.mv (.int _ _) rfl rfl rfl ?_
  refine TL.callD [0] [0] (hang_ok hM hl) ⟨rfl, rfl, rfl, trivial⟩ ⟨rfl, trivial⟩ fc_c122 rfl rfl rfl rfl rfl trivial ?_
  refine TL.done ?_
  refine TQ.then ?_
  refine TC.draw [(0, true), (1, true), (2, true), (3, true), (4, true), (6, true), (7, true), (9, true), (10, true), (5, false), (8, false), (11, false)] [1] fc_m (by kernel_rfl) ?_
  refine TL.fa 3 rfl fc_f100_1_3 rfl rfl ?_
  refine TL.ld 1 (.iface _ _) rfl rfl rfl fc_s98 rfl rfl ?_
  refine TL.fa 0 rfl fc_f100_0_0 rfl rfl ?_
  refine TL.ldA 1 3 [_, _, _] rfl rfl rfl fc_a45_3 rfl rfl ?_
  refine TL.mv (.int _ _) rfl rfl rfl ?_
  refine TL.ldA 1 6 [_, _, _, _, _, _] rfl rfl rfl fc_a100_6 rfl rfl ?_
  refine TL.mv (.int _ _) rfl rfl rfl ?_
  refine TL.ncI rfl rfl rfl ?_
  refine TL.mv (.iface _ _) rfl rfl rfl ?_
  refine TL.callD [] [] (field_ok hl) ⟨rfl, rfl, rfl, trivial⟩ trivial fc_c23 rfl rfl rfl rfl rfl (.cons rfl rfl trivial) ?_
  refine TL.callD [] [] (lone_ok hl) ⟨rfl, rfl, rfl, trivial⟩ trivial fc_c123 rfl rfl rfl rfl rfl (.cons rfl rfl trivial) ?_
  refine TL.mstore 0 hM rfl rfl rfl (by first | exact lone_rng _ _ _) rfl rfl rfl (.cons rfl rfl trivial) ?_
  refine TL.done ?_
  refine FQ.end0 (Bs := [A _]) [0] rfl rfl ⟨rfl, trivial⟩ ?_
  exact ⟨rfl, rfl⟩

theorem size_ok {S : Type} [MemLike S] {mt : TypeId} {mv : Value} {A : S → Assn} (hM : MemI Tryz.prog mt mv A) {l : Lay} (hl : l.Ok) {p : Pen} {σ : S} {x : Int} : FnD Tryz.prog 239 [treesV l mt mv p, .int .i64 x] [A σ] (.int .i64 (size l σ x)) [A (tsumS l σ x)] := by
  refine Fn.enter (Tryz.func239) rfl rfl (fun w0 R => ?_)
  refine TC.seq ?_
  refine TC.region ?_
  refine TL.boxA 1 rfl rfl rfl (fun _ => trivial) (fun bk1 => ?_)
  refine TL.asg (.int _ _) rfl rfl rfl ?_
  refine TL.done ?_
  refine TQ.then ?_
  refine TC.seq ?_
  refine TC.region ?_
  refine TL.ldA 1 6 [_, _, _, _, _, _] rfl rfl rfl fc_a100_6 rfl rfl ?_
  refine TL.mv (.int _ _) rfl rfl rfl ?_
  refine TL.callD [0] [0] (tsum_ok hM hl) ⟨rfl, rfl, trivial⟩ ⟨rfl, trivial⟩ fc_c188 rfl rfl rfl rfl rfl trivial ?_
  refine TL.and _ rfl rfl rfl rfl rfl ?_
  refine TL.conv _ rfl fc_u33 fc_i3_i64 (rfl) rfl rfl ?_
  refine TL.asg (.int _ _) rfl rfl rfl ?_
  refine TL.done ?_
  refine TQ.then ?_
  refine TC.ret ?_
  refine FQ.ret1 (v := (.int _ _)) (Bs := [A _]) [0] rfl rfl rfl ⟨rfl, trivial⟩ ?_
  exact ⟨rfl, rfl⟩

theorem verts_ok {S : Type} [MemLike S] {mt : TypeId} {mv : Value} {A : S → Assn} (hM : MemI Tryz.prog mt mv A) {l : Lay} (hl : l.Ok) {p : Pen} {σ : S} {x : Int} : FnD Tryz.prog 139 [treesV l mt mv p, .int .i64 x] [A σ] (.int .i64 (verts l σ x)) [A (tsumS l σ x)] := by
  refine Fn.enter (Tryz.func139) rfl rfl (fun w0 R => ?_)
  refine TC.seq ?_
  refine TC.region ?_
  refine TL.boxA 1 rfl rfl rfl (fun _ => trivial) (fun bk1 => ?_)
  refine TL.asg (.int _ _) rfl rfl rfl ?_
  refine TL.done ?_
  refine TQ.then ?_
  refine TC.seq ?_
  refine TC.region ?_
  refine TL.ldA 1 6 [_, _, _, _, _, _] rfl rfl rfl fc_a100_6 rfl rfl ?_
  refine TL.mv (.int _ _) rfl rfl rfl ?_
  refine TL.callD [0] [0] (tsum_ok hM hl) ⟨rfl, rfl, trivial⟩ ⟨rfl, trivial⟩ fc_c188 rfl rfl rfl rfl rfl trivial ?_
  refine TL.shr _ rfl rfl (by decide) rfl rfl rfl ?_
  refine TL.and _ rfl rfl rfl rfl rfl ?_
  refine TL.conv _ rfl fc_u33 fc_i3_i64 (rfl) rfl rfl ?_
  refine TL.asg (.int _ _) rfl rfl rfl ?_
  refine TL.done ?_
  refine TQ.then ?_
  refine TC.ret ?_
  refine FQ.ret1 (v := (.int _ _)) (Bs := [A _]) [0] rfl rfl rfl ⟨rfl, trivial⟩ ?_
  exact ⟨rfl, rfl⟩

theorem root_ok {S : Type} [MemLike S] {mt : TypeId} {mv : Value} {A : S → Assn} (hM : MemI Tryz.prog mt mv A) {l : Lay} (hl : l.Ok) {p : Pen} {σ : S} {x r : Int} {k : Nat} {σ2 : S} (h : root l k σ x = some (r, σ2)) : FnD Tryz.prog 134 [treesV l mt mv p, .int .i64 x] [A σ] (.int .i64 r) [A σ2] := by
  refine Fn.enter (Tryz.func134) rfl rfl (fun w0 R => ?_)
  refine TC.seq ?_
  refine TC.region ?_
  refine TL.boxA 1 rfl rfl rfl (fun _ => trivial) (fun bk1 => ?_)
  refine TL.asg (.int _ _) rfl rfl rfl ?_
  refine TL.done ?_
  refine TQ.then ?_
  refine TC.seq ?_
  refine TC.block ?_
  refine TC.loopK (X := Nat × S × Int) [2, 4] [1] (fun y => [(1, .int .i64 y.2.2)]) (fun y => [(0, A y.2.1)]) (fun y => root l y.1 y.2.1 y.2.2 = some (r, σ2)) (fun y => y.1) ((k, σ, x)) h ⟨rfl, trivial⟩ ⟨rfl, trivial⟩ (fun y hI => ?_)
  obtain ⟨k, σ1, z⟩ := y
  rcases k with _ | k
  · simp [root] at hI
  dsimp only at hI
  refine TC.sub (env' := [(1, _), (2, _), (4, _)]) (L' := [(0, _), (1, _)]) ⟨rfl, rfl, rfl, trivial⟩ ⟨rfl, rfl, trivial⟩ ?_
  refine TC.seq ?_
  refine TC.seq ?_
  refine TC.region ?_
  refine TL.mv (.int _ _) rfl rfl rfl ?_
  refine TL.neq rfl rfl rfl rfl (fun q1 => ?_) (fun q1 => ?_)
  · skip
    refine TL.done ?_
    refine TQ.then ?_
    refine TC.condT rfl ?_
    refine TC.skip ?_
    refine TQ.then ?_
    refine TC.block ?_
    refine TC.seq ?_
    refine TC.region ?_
    refine TL.ldA 1 6 [_, _, _, _, _, _] rfl rfl rfl fc_a100_6 rfl rfl ?_
    refine TL.mv (.int _ _) rfl rfl rfl ?_
    refine TL.callD [0] [0] (parent_ok hM hl) ⟨rfl, rfl, trivial⟩ ⟨rfl, trivial⟩ fc_c177 rfl rfl rfl rfl rfl trivial ?_
    refine TL.asg (.int _ _) rfl rfl rfl ?_
    refine TL.done ?_
    refine TQ.then ?_
    refine TC.seq ?_
    refine TC.seq ?_
    refine TC.region ?_
    refine TL.mv (.int _ _) rfl rfl rfl ?_
    refine TL.eql rfl rfl rfl rfl (fun q2 => ?_) (fun q2 => ?_)
    · skip
      refine TL.done ?_
      refine TQ.then ?_
      refine TC.condT rfl ?_
      refine TC.exit ?_
      refine TQ.thenExit ?_
      refine TQ.blockOut rfl ?_
      refine TQ.thenExit ?_
      refine TQ.blockHere ?_
      refine TQ.then ?_
      refine TC.seq ?_
      refine TC.region ?_
      refine TL.mv (.int _ _) rfl rfl rfl ?_
      refine TL.asg (.int _ _) rfl rfl rfl ?_
      refine TL.done ?_
      refine TQ.then ?_
      refine TC.ret ?_
      refine FQ.ret1 (v := (.int _ _)) (Bs := [A _]) [0] rfl rfl rfl ⟨rfl, trivial⟩ ?_
      rw [root, if_pos q1, if_pos q2] at hI; cases hI; exact ⟨rfl, rfl⟩
    · skip
      refine TL.done ?_
      refine TQ.then ?_
      refine TC.condF rfl ?_
      refine TC.skip ?_
      refine TQ.then ?_
      refine TC.region ?_
      refine TL.mv (.int _ _) rfl rfl rfl ?_
      refine TL.asg (.int _ _) rfl rfl rfl ?_
      refine TL.done ?_
      refine TQ.inBlock ?_
      refine TQ.roundK ((k, parentS l σ1 z, parent l σ1 z)) ⟨(by rw [root, if_pos q1, if_neg q2] at hI; exact hI), Nat.lt_succ_self _⟩ ⟨rfl, trivial⟩ ⟨rfl, trivial⟩ (.cons rfl rfl (.cons rfl rfl trivial)) (.cons rfl rfl trivial)
  · skip
    refine TL.done ?_
    refine TQ.then ?_
    refine TC.condF rfl ?_
    refine TC.exit ?_
    refine TQ.thenExit ?_
    refine TQ.thenExit ?_
    refine TQ.blockHere ?_
    refine TQ.then ?_
    refine TC.seq ?_
    refine TC.region ?_
    refine TL.mv (.int _ _) rfl rfl rfl ?_
    refine TL.asg (.int _ _) rfl rfl rfl ?_
    refine TL.done ?_
    refine TQ.then ?_
    refine TC.ret ?_
    refine FQ.ret1 (v := (.int _ _)) (Bs := [A _]) [0] rfl rfl rfl ⟨rfl, trivial⟩ ?_
    rw [root, if_neg q1] at hI; cases hI; exact ⟨rfl, rfl⟩

theorem index_ok {S : Type} [MemLike S] {mt : TypeId} {mv : Value} {A : S → Assn} (hM : MemI Tryz.prog mt mv A) {l : Lay} (hl : l.Ok) {p : Pen} {σ : S} {x r : Int} {k : Nat} {σ2 : S} (h : index l k σ x = some (r, σ2)) : FnD Tryz.prog 221 [treesV l mt mv p, .int .i64 x] [A σ] (.int .i64 r) [A σ2] := by
  unfold index at h
  dsimp only at h
  refine Fn.enter (Tryz.func221) rfl rfl (fun w0 R => ?_)
  refine TC.seq ?_
  refine TC.region ?_
  refine TL.boxA 1 rfl rfl rfl (fun _ => trivial) (fun bk1 => ?_)
  refine TL.asg (.int _ _) rfl rfl rfl ?_
  refine TL.done ?_
  refine TQ.then ?_
  refine TC.seq ?_
  refine TC.draw [(0, true), (1, true), (2, true), (3, false), (4, false), (5, true)] [1] fc_m (by kernel_rfl) ?_
  refine TL.ldA 1 6 [_, _, _, _, _, _] rfl rfl rfl fc_a100_6 rfl rfl ?_
  refine TL.ldA 1 6 [_, _, _, _, _, _] rfl rfl rfl fc_a100_6 rfl rfl ?_
  refine TL.mv (.int _ _) rfl rfl rfl ?_
  refine TL.callD [0] [0] (tget_ok hM hl) ⟨rfl, rfl, rfl, trivial⟩ ⟨rfl, trivial⟩ fc_c210 rfl rfl rfl rfl rfl (.cons rfl rfl trivial) ?_
  refine TL.callD [0] [0] (size_ok hM hl) ⟨rfl, rfl, trivial⟩ ⟨rfl, trivial⟩ fc_c239 rfl rfl rfl rfl rfl (.cons rfl rfl trivial) ?_
  refine TL.asg (.int _ _) rfl rfl rfl ?_
  refine TL.done ?_
  refine TQ.then ?_
  refine TC.block ?_
  refine TC.loopK (X := Nat × S × Int × Int) [2] [1] (fun y => [(1, .int .i64 y.2.2.1), (5, .int .i64 y.2.2.2)]) (fun y => [(0, A y.2.1)]) (fun y => indexL l y.1 y.2.1 y.2.2.1 y.2.2.2 = some (r, σ2)) (fun y => y.1) ((k, _, _, _)) h ⟨rfl, rfl, trivial⟩ ⟨rfl, trivial⟩ (fun y hI => ?_)
  obtain ⟨k, σ1, z, n⟩ := y
  rcases k with _ | k
  · simp [indexL] at hI
  dsimp only at hI
  refine TC.sub (env' := [(1, _), (5, _), (2, _)]) (L' := [(0, _), (1, _)]) ⟨rfl, rfl, rfl, trivial⟩ ⟨rfl, rfl, trivial⟩ ?_
  refine TC.block ?_
  refine TC.seq ?_
  refine TC.region ?_
  refine TL.ldA 1 6 [_, _, _, _, _, _] rfl rfl rfl fc_a100_6 rfl rfl ?_
  refine TL.mv (.int _ _) rfl rfl rfl ?_
  refine TL.callD [0] [0] (parent_ok hM hl) ⟨rfl, rfl, trivial⟩ ⟨rfl, trivial⟩ fc_c177 rfl rfl rfl rfl rfl trivial ?_
  refine TL.asg (.int _ _) rfl rfl rfl ?_
  refine TL.done ?_
  refine TQ.then ?_
  refine TC.seq ?_
  refine TC.seq ?_
  refine TC.region ?_
  refine TL.mv (.int _ _) rfl rfl rfl ?_
  refine TL.eql rfl rfl rfl rfl (fun q1 => ?_) (fun q1 => ?_)
  · skip
    refine TL.done ?_
    refine TQ.then ?_
    refine TC.condT rfl ?_
    refine TC.seq ?_
    refine TC.region ?_
    refine TL.mv (.int _ _) rfl rfl rfl ?_
    refine TL.asg (.int _ _) rfl rfl rfl ?_
    refine TL.done ?_
    refine TQ.then ?_
    refine TC.ret ?_
    refine TQ.thenRet ?_
    refine TQ.blockRet ?_
    refine TQ.thenRet ?_
    refine TQ.blockRet ?_
    refine FQ.ret1 (v := (.int _ _)) (Bs := [A _]) [0] rfl rfl rfl ⟨rfl, trivial⟩ ?_
    rw [indexL, if_pos q1] at hI; cases hI; exact ⟨rfl, rfl⟩
  · skip
    refine TL.done ?_
    refine TQ.then ?_
    refine TC.condF rfl ?_
    refine TC.skip ?_
    refine TQ.then ?_
    refine TC.seq ?_
    refine TC.seq ?_
    refine TC.region ?_
    refine TL.ldA 1 6 [_, _, _, _, _, _] rfl rfl rfl fc_a100_6 rfl rfl ?_
    refine TL.mv (.int _ _) rfl rfl rfl ?_
    refine TL.callD [0] [0] (tget_ok hM hl) ⟨rfl, rfl, rfl, trivial⟩ ⟨rfl, trivial⟩ fc_c210 rfl rfl rfl rfl rfl trivial ?_
    refine TL.mv (.int _ _) rfl rfl rfl ?_
    refine TL.eql rfl rfl rfl rfl (fun q2 => ?_) (fun q2 => ?_)
    · skip
      refine TL.done ?_
      refine TQ.then ?_
      refine TC.condT rfl ?_
      refine TC.draw [(0, true), (1, true), (2, true), (3, true), (4, false), (5, false), (6, true), (7, true), (8, true)] [1] fc_m (by kernel_rfl) ?_
      refine TL.mv (.int _ _) rfl rfl rfl ?_
      refine TL.ldA 1 6 [_, _, _, _, _, _] rfl rfl rfl fc_a100_6 rfl rfl ?_
      refine TL.ldA 1 6 [_, _, _, _, _, _] rfl rfl rfl fc_a100_6 rfl rfl ?_
      refine TL.mv (.int _ _) rfl rfl rfl ?_
      refine TL.callD [0] [0] (tget_ok hM hl) ⟨rfl, rfl, rfl, trivial⟩ ⟨rfl, trivial⟩ fc_c210 rfl rfl rfl rfl rfl (.cons rfl rfl trivial) ?_
      refine TL.callD [0] [0] (size_ok hM hl) ⟨rfl, rfl, trivial⟩ ⟨rfl, trivial⟩ fc_c239 rfl rfl rfl rfl rfl (.cons rfl rfl trivial) ?_
      refine TL.add _ rfl rfl (rfl) rfl rfl ?_
      refine TL.add _ rfl rfl (rfl) rfl rfl ?_
      refine TL.asg (.int _ _) rfl rfl rfl ?_
      refine TL.done ?_
      refine TQ.then ?_
      refine TC.region ?_
      refine TL.mv (.int _ _) rfl rfl rfl ?_
      refine TL.asg (.int _ _) rfl rfl rfl ?_
      refine TL.done ?_
      refine TQ.inBlock ?_
      refine TQ.roundK ((k, _, _, _)) ⟨(by rw [indexL, if_neg q1] at hI; dsimp only at hI; rw [if_pos q2] at hI; exact hI), Nat.lt_succ_self _⟩ ⟨rfl, rfl, trivial⟩ ⟨rfl, trivial⟩ (.cons rfl rfl trivial) (.cons rfl rfl trivial)
    · skip
      refine TL.done ?_
      refine TQ.then ?_
      refine TC.condF rfl ?_
      refine TC.skip ?_
      refine TQ.then ?_
      refine TC.region ?_
      refine TL.mv (.int _ _) rfl rfl rfl ?_
      refine TL.asg (.int _ _) rfl rfl rfl ?_
      refine TL.done ?_
      refine TQ.inBlock ?_
      refine TQ.roundK ((k, _, _, _)) ⟨(by rw [indexL, if_neg q1] at hI; dsimp only at hI; rw [if_neg q2] at hI; exact hI), Nat.lt_succ_self _⟩ ⟨rfl, rfl, trivial⟩ ⟨rfl, trivial⟩ (.cons rfl rfl trivial) (.cons rfl rfl trivial)

theorem set_ok {S : Type} [MemLike S] {mt : TypeId} {mv : Value} {A : S → Assn} (hM : MemI Tryz.prog mt mv A) {l : Lay} (hl : l.Ok) {p : Pen} {σ : S} {x f c : Int} : FnD Tryz.prog 237 [treesV l mt mv p, .int .i64 x, .int .i64 f, .int .i64 c] [A σ] (.tuple #[]) [A (setC l p σ x f c)] := by
  refine Fn.enter (Tryz.func237) rfl rfl (fun w0 R => ?_)
  refine TC.seq ?_
  refine TC.region ?_
  refine TL.boxA 1 rfl rfl rfl (fun _ => trivial) (fun bk1 => ?_)
  refine TL.done ?_
  refine TQ.then ?_
  refine TC.seq ?_
  refine TC.region ?_
  refine TL.ldA 1 6 [_, _, _, _, _, _] rfl rfl rfl fc_a100_6 rfl rfl ?_
  refine TL.mv (.int _ _) rfl rfl rfl ?_
  refine TL.mv (.int _ _) rfl rfl rfl ?_
  refine TL.mv (.int _ _) rfl rfl rfl ?_
  refine TL.callD [0] [0] (tput_ok hM hl) ⟨rfl, rfl, rfl, rfl, trivial⟩ ⟨rfl, trivial⟩ fc_c121 rfl rfl rfl rfl rfl trivial ?_
  refine TL.done ?_
  refine TQ.then ?_
  refine TC.seq ?_
  refine TC.region ?_
  refine TL.ldA 1 6 [_, _, _, _, _, _] rfl rfl rfl fc_a100_6 rfl rfl ?_
  refine TL.mv (.int _ _) rfl rfl rfl ?_
  refine TL.mv (.int _ _) rfl rfl rfl ?_
  refine TL.callD [0] [0] (hang_ok hM hl) ⟨rfl, rfl, rfl, trivial⟩ ⟨rfl, trivial⟩ fc_c122 rfl rfl rfl rfl rfl trivial ?_
  refine TL.done ?_
  refine TQ.then ?_
  refine TC.draw [(0, true), (1, true), (2, true), (3, true), (4, false), (5, false)] [1] fc_m (by kernel_rfl) ?_
  refine TL.ldA 1 6 [_, _, _, _, _, _] rfl rfl rfl fc_a100_6 rfl rfl ?_
  refine TL.mv (.int _ _) rfl rfl rfl ?_
  refine TL.ldA 1 6 [_, _, _, _, _, _] rfl rfl rfl fc_a100_6 rfl rfl ?_
  refine TL.mv (.int _ _) rfl rfl rfl ?_
  refine TL.callD [0] [0] (marks_ok hM hl) ⟨rfl, rfl, trivial⟩ ⟨rfl, trivial⟩ fc_c222 rfl rfl rfl rfl rfl (.cons rfl rfl trivial) ?_
  refine TL.callD [0] [0] (renew_ok hM hl) ⟨rfl, rfl, rfl, trivial⟩ ⟨rfl, trivial⟩ fc_c223 rfl rfl rfl rfl rfl (.cons rfl rfl trivial) ?_
  refine TL.done ?_
  refine FQ.end0 (Bs := [A _]) [0] rfl rfl ⟨rfl, trivial⟩ ?_
  exact ⟨rfl, (by unfold setC marksS; rfl)⟩

theorem split_ok {S : Type} [MemLike S] {mt : TypeId} {mv : Value} {A : S → Assn} (hM : MemI Tryz.prog mt mv A) {l : Lay} (hl : l.Ok) {p : Pen} {σ : S} {x n : Int} {r : Int × Int} {k : Nat} {σ2 : S} (h : split l p k σ x n = some (r, σ2)) : FnD Tryz.prog 238 [treesV l mt mv p, .int .i64 x, .int .i64 n] [A σ] (.tuple #[.int .i64 r.1, .int .i64 r.2]) [A σ2] := by
  induction k generalizing σ x n r σ2
  case zero => simp [split] at h
  case succ k ih =>
    refine Fn.enter (Tryz.func238) rfl rfl (fun w0 R => ?_)
    refine TC.seq ?_
    refine TC.region ?_
    refine TL.boxA 1 rfl rfl rfl (fun _ => trivial) (fun bk1 => ?_)
    refine TL.asg (.int _ _) rfl rfl rfl ?_
    refine TL.asg (.int _ _) rfl rfl rfl ?_
    refine TL.done ?_
    refine TQ.then ?_
    refine TC.seq ?_
    refine TC.seq ?_
    refine TC.region ?_
    refine TL.mv (.int _ _) rfl rfl rfl ?_
    refine TL.eql rfl rfl rfl rfl (fun q1 => ?_) (fun q1 => ?_)
    · skip
      refine TL.done ?_
      refine TQ.then ?_
      refine TC.condT rfl ?_
      refine TC.seq ?_
      refine TC.region ?_
      refine TL.asg (.int _ _) rfl rfl rfl ?_
      refine TL.asg (.int _ _) rfl rfl rfl ?_
      refine TL.done ?_
      refine TQ.then ?_
      refine TC.ret ?_
      refine TQ.thenRet ?_
      refine FQ.ret2 (v := (.int _ _)) (x := (.int _ _)) (Bs := [A _]) [0] rfl rfl rfl rfl ⟨rfl, trivial⟩ ?_
      rw [split, if_pos q1] at h; cases h; exact ⟨rfl, rfl⟩
    · skip
      refine TL.done ?_
      refine TQ.then ?_
      refine TC.condF rfl ?_
      refine TC.skip ?_
      refine TQ.then ?_
      refine TC.seq ?_
      refine TC.region ?_
      refine TL.ldA 1 6 [_, _, _, _, _, _] rfl rfl rfl fc_a100_6 rfl rfl ?_
      refine TL.mv (.int _ _) rfl rfl rfl ?_
      refine TL.callD [0] [0] (tget_ok hM hl) ⟨rfl, rfl, rfl, trivial⟩ ⟨rfl, trivial⟩ fc_c210 rfl rfl rfl rfl rfl trivial ?_
      refine TL.asg (.int _ _) rfl rfl rfl ?_
      refine TL.done ?_
      refine TQ.then ?_
      refine TC.seq ?_
      refine TC.region ?_
      refine TL.ldA 1 6 [_, _, _, _, _, _] rfl rfl rfl fc_a100_6 rfl rfl ?_
      refine TL.mv (.int _ _) rfl rfl rfl ?_
      refine TL.callD [0] [0] (size_ok hM hl) ⟨rfl, rfl, trivial⟩ ⟨rfl, trivial⟩ fc_c239 rfl rfl rfl rfl rfl trivial ?_
      refine TL.asg (.int _ _) rfl rfl rfl ?_
      refine TL.done ?_
      refine TQ.then ?_
      refine TC.seq ?_
      refine TC.seq ?_
      refine TC.region ?_
      refine TL.mv (.int _ _) rfl rfl rfl ?_
      refine TL.mv (.int _ _) rfl rfl rfl ?_
      refine TL.leq rfl rfl rfl rfl (fun q2 => ?_) (fun q2 => ?_)
      · skip
        refine TL.done ?_
        refine TQ.then ?_
        refine TC.condT rfl ?_
        refine TC.seq ?_
        refine TC.region ?_
        refine TL.ldA 1 6 [_, _, _, _, _, _] rfl rfl rfl fc_a100_6 rfl rfl ?_
        refine TL.mv (.int _ _) rfl rfl rfl ?_
        refine TL.mv (.int _ _) rfl rfl rfl ?_
        rw [split, if_neg q1] at h
        dsimp only at h
        rw [if_pos q2] at h
        obtain ⟨⟨ab, σ3⟩, h1, h9⟩ := Option.bind_eq_some_iff.1 h
        refine TL.callD [0] [0] (ih h1) ⟨rfl, rfl, rfl, trivial⟩ ⟨rfl, trivial⟩ fc_c238 rfl rfl rfl rfl rfl trivial ?_
        refine TL.mv (.tuple _) rfl rfl rfl ?_
        refine TL.ext (.int _ _) rfl rfl rfl rfl ?_
        refine TL.ext (.int _ _) rfl rfl rfl rfl ?_
        refine TL.asg (.int _ _) rfl rfl rfl ?_
        refine TL.asg (.int _ _) rfl rfl rfl ?_
        refine TL.done ?_
        refine TQ.then ?_
        refine TC.seq ?_
        refine TC.region ?_
        refine TL.ldA 1 6 [_, _, _, _, _, _] rfl rfl rfl fc_a100_6 rfl rfl ?_
        refine TL.mv (.int _ _) rfl rfl rfl ?_
        refine TL.mv (.int _ _) rfl rfl rfl ?_
        refine TL.callD [0] [0] (set_ok hM hl) ⟨rfl, rfl, rfl, rfl, trivial⟩ ⟨rfl, trivial⟩ fc_c237 rfl rfl rfl rfl rfl trivial ?_
        refine TL.done ?_
        refine TQ.then ?_
        refine TC.seq ?_
        refine TC.region ?_
        refine TL.mv (.int _ _) rfl rfl rfl ?_
        refine TL.mv (.int _ _) rfl rfl rfl ?_
        refine TL.asg (.int _ _) rfl rfl rfl ?_
        refine TL.asg (.int _ _) rfl rfl rfl ?_
        refine TL.done ?_
        refine TQ.then ?_
        refine TC.ret ?_
        refine TQ.thenRet ?_
        refine FQ.ret2 (v := (.int _ _)) (x := (.int _ _)) (Bs := [A _]) [0] rfl rfl rfl rfl ⟨rfl, trivial⟩ ?_
        cases h9; exact ⟨rfl, rfl⟩
      · skip
        refine TL.done ?_
        refine TQ.then ?_
        refine TC.condF rfl ?_
        refine TC.skip ?_
        refine TQ.then ?_
        refine TC.seq ?_
        refine TC.draw [(0, true), (1, true), (2, true), (4, true), (5, true), (6, true), (7, true), (3, false), (8, false), (9, true), (10, true), (11, true), (12, true), (13, true)] [1] fc_m (by kernel_rfl) ?_
        refine TL.ldA 1 6 [_, _, _, _, _, _] rfl rfl rfl fc_a100_6 rfl rfl ?_
        refine TL.ldA 1 6 [_, _, _, _, _, _] rfl rfl rfl fc_a100_6 rfl rfl ?_
        refine TL.mv (.int _ _) rfl rfl rfl ?_
        refine TL.mv (.int _ _) rfl rfl rfl ?_
        refine TL.mv (.int _ _) rfl rfl rfl ?_
        refine TL.sub _ rfl rfl (rfl) rfl rfl ?_
        refine TL.sub _ rfl rfl (rfl) rfl rfl ?_
        refine TL.callD [0] [0] (tget_ok hM hl) ⟨rfl, rfl, rfl, trivial⟩ ⟨rfl, trivial⟩ fc_c210 rfl rfl rfl rfl rfl (.cons rfl rfl trivial) ?_
        rw [split, if_neg q1] at h
        dsimp only at h
        rw [if_neg q2] at h
        obtain ⟨⟨ab, σ3⟩, h1, h9⟩ := Option.bind_eq_some_iff.1 h
        refine TL.callD [0] [0] (ih h1) ⟨rfl, rfl, rfl, trivial⟩ ⟨rfl, trivial⟩ fc_c238 rfl rfl rfl rfl rfl (.cons rfl rfl trivial) ?_
        refine TL.mv (.tuple _) rfl rfl rfl ?_
        refine TL.ext (.int _ _) rfl rfl rfl rfl ?_
        refine TL.ext (.int _ _) rfl rfl rfl rfl ?_
        refine TL.asg (.int _ _) rfl rfl rfl ?_
        refine TL.asg (.int _ _) rfl rfl rfl ?_
        refine TL.done ?_
        refine TQ.then ?_
        refine TC.seq ?_
        refine TC.region ?_
        refine TL.ldA 1 6 [_, _, _, _, _, _] rfl rfl rfl fc_a100_6 rfl rfl ?_
        refine TL.mv (.int _ _) rfl rfl rfl ?_
        refine TL.mv (.int _ _) rfl rfl rfl ?_
        refine TL.callD [0] [0] (set_ok hM hl) ⟨rfl, rfl, rfl, rfl, trivial⟩ ⟨rfl, trivial⟩ fc_c237 rfl rfl rfl rfl rfl trivial ?_
        refine TL.done ?_
        refine TQ.then ?_
        refine TC.seq ?_
        refine TC.region ?_
        refine TL.mv (.int _ _) rfl rfl rfl ?_
        refine TL.mv (.int _ _) rfl rfl rfl ?_
        refine TL.asg (.int _ _) rfl rfl rfl ?_
        refine TL.asg (.int _ _) rfl rfl rfl ?_
        refine TL.done ?_
        refine TQ.then ?_
        refine TC.ret ?_
        refine FQ.ret2 (v := (.int _ _)) (x := (.int _ _)) (Bs := [A _]) [0] rfl rfl rfl rfl ⟨rfl, trivial⟩ ?_
        cases h9; exact ⟨rfl, rfl⟩

theorem splitT_ok {S : Type} [MemLike S] {mt : TypeId} {mv : Value} {A : S → Assn} (hM : MemI Tryz.prog mt mv A) {l : Lay} (hl : l.Ok) {p : Pen} {σ : S} {x n : Int} {r : Int × Int} {k : Nat} {σ2 : S} (h : splitT l p k σ x n = some (r, σ2)) : FnD Tryz.prog 220 [treesV l mt mv p, .int .i64 x, .int .i64 n] [A σ] (.tuple #[.int .i64 r.1, .int .i64 r.2]) [A σ2] := by
  obtain ⟨⟨ab, σ3⟩, h1, h9⟩ := Option.bind_eq_some_iff.1 h
  cases h9
  refine Fn.enter (Tryz.func220) rfl rfl (fun w0 R => ?_)
  refine TC.seq ?_
  refine TC.region ?_
  refine TL.boxA 1 rfl rfl rfl (fun _ => trivial) (fun bk1 => ?_)
  refine TL.asg (.int _ _) rfl rfl rfl ?_
  refine TL.asg (.int _ _) rfl rfl rfl ?_
  refine TL.done ?_
  refine TQ.then ?_
  refine TC.seq ?_
  refine TC.draw [(0, true), (1, true), (2, true), (3, true), (4, true), (5, true), (6, false), (7, true), (8, false), (9, true), (10, true), (11, true), (12, true), (13, true)] [1] fc_m (by kernel_rfl) ?_
  refine TL.ldA 1 6 [_, _, _, _, _, _] rfl rfl rfl fc_a100_6 rfl rfl ?_
  refine TL.mv (.int _ _) rfl rfl rfl ?_
  refine TL.mv (.int _ _) rfl rfl rfl ?_
  refine TL.max2 rfl rfl rfl rfl ?_
  refine TL.ldA 1 6 [_, _, _, _, _, _] rfl rfl rfl fc_a100_6 rfl rfl ?_
  refine TL.mv (.int _ _) rfl rfl rfl ?_
  refine TL.callD [0] [0] (size_ok hM hl) ⟨rfl, rfl, trivial⟩ ⟨rfl, trivial⟩ fc_c239 rfl rfl rfl rfl rfl (.cons rfl rfl trivial) ?_
  refine TL.min2 rfl rfl rfl rfl ?_
  refine TL.callD [0] [0] (split_ok hM hl h1) ⟨rfl, rfl, rfl, trivial⟩ ⟨rfl, trivial⟩ fc_c238 rfl rfl rfl rfl rfl (.cons rfl rfl trivial) ?_
  refine TL.mv (.tuple _) rfl rfl rfl ?_
  refine TL.ext (.int _ _) rfl rfl rfl rfl ?_
  refine TL.ext (.int _ _) rfl rfl rfl rfl ?_
  refine TL.asg (.int _ _) rfl rfl rfl ?_
  refine TL.asg (.int _ _) rfl rfl rfl ?_
  refine TL.done ?_
  refine TQ.then ?_
  refine TC.seq ?_
  refine TC.region ?_
  refine TL.ldA 1 6 [_, _, _, _, _, _] rfl rfl rfl fc_a100_6 rfl rfl ?_
  refine TL.mv (.int _ _) rfl rfl rfl ?_
  refine TL.callD [0] [0] (hang_ok hM hl) ⟨rfl, rfl, rfl, trivial⟩ ⟨rfl, trivial⟩ fc_c122 rfl rfl rfl rfl rfl trivial ?_
  refine TL.done ?_
  refine TQ.then ?_
  refine TC.seq ?_
  refine TC.region ?_
  refine TL.ldA 1 6 [_, _, _, _, _, _] rfl rfl rfl fc_a100_6 rfl rfl ?_
  refine TL.mv (.int _ _) rfl rfl rfl ?_
  refine TL.callD [0] [0] (hang_ok hM hl) ⟨rfl, rfl, rfl, trivial⟩ ⟨rfl, trivial⟩ fc_c122 rfl rfl rfl rfl rfl trivial ?_
  refine TL.done ?_
  refine TQ.then ?_
  refine TC.seq ?_
  refine TC.region ?_
  refine TL.mv (.int _ _) rfl rfl rfl ?_
  refine TL.mv (.int _ _) rfl rfl rfl ?_
  refine TL.asg (.int _ _) rfl rfl rfl ?_
  refine TL.asg (.int _ _) rfl rfl rfl ?_
  refine TL.done ?_
  refine TQ.then ?_
  refine TC.ret ?_
  refine FQ.ret2 (v := (.int _ _)) (x := (.int _ _)) (Bs := [A _]) [0] rfl rfl rfl rfl ⟨rfl, trivial⟩ ?_
  exact ⟨rfl, rfl⟩

theorem above_ok {S : Type} [MemLike S] {mt : TypeId} {mv : Value} {A : S → Assn} (hM : MemI Tryz.prog mt mv A) {l : Lay} (hl : l.Ok) {p : Pen} {σ : S} {x y : Int} : FnD Tryz.prog 236 [treesV l mt mv p, .int .i64 x, .int .i64 y] [A σ] (.bool (above l σ x y)) [A (aboveS l σ x y)] := by
  refine Fn.enter (Tryz.func236) rfl rfl (fun w0 R => ?_)
  refine TC.seq ?_
  refine TC.region ?_
  refine TL.boxA 1 rfl rfl rfl (fun _ => trivial) (fun bk1 => ?_)
  refine TL.asg (.bool false) rfl rfl rfl ?_
  refine TL.done ?_
  refine TQ.then ?_
  refine TC.seq ?_
  refine TC.draw [(0, true), (1, true), (2, true), (3, true), (4, true), (6, true), (7, true), (9, true), (10, true), (11, true), (12, true), (13, true), (15, true), (16, true), (5, false), (8, false), (14, false), (17, false), (18, true), (19, true)] [1] fc_m (by kernel_rfl) ?_
  refine TL.fa 3 rfl fc_f100_1_3 rfl rfl ?_
  refine TL.ld 1 (.iface _ _) rfl rfl rfl fc_s98 rfl rfl ?_
  refine TL.fa 0 rfl fc_f100_0_0 rfl rfl ?_
  refine TL.ldA 1 3 [_, _, _] rfl rfl rfl fc_a45_3 rfl rfl ?_
  refine TL.mv (.int _ _) rfl rfl rfl ?_
  refine TL.ncI rfl rfl rfl ?_
  refine TL.mv (.iface _ _) rfl rfl rfl ?_
  refine TL.fa 3 rfl fc_f100_1_3 rfl rfl ?_
  refine TL.ld 1 (.iface _ _) rfl rfl rfl fc_s98 rfl rfl ?_
  refine TL.fa 0 rfl fc_f100_0_0 rfl rfl ?_
  refine TL.ldA 1 3 [_, _, _] rfl rfl rfl fc_a45_3 rfl rfl ?_
  refine TL.mv (.int _ _) rfl rfl rfl ?_
  refine TL.ncI rfl rfl rfl ?_
  refine TL.mv (.iface _ _) rfl rfl rfl ?_
  refine TL.callD [] [] (field_ok hl) ⟨rfl, rfl, rfl, trivial⟩ trivial fc_c23 rfl rfl rfl rfl rfl (.cons rfl rfl trivial) ?_
  refine TL.mload 0 hM rfl rfl rfl rfl rfl (.cons rfl rfl trivial) ?_
  refine TL.callD [] [] (field_ok hl) ⟨rfl, rfl, rfl, trivial⟩ trivial fc_c23 rfl rfl rfl rfl rfl (.cons rfl rfl trivial) ?_
  refine TL.mload 0 hM rfl rfl rfl rfl rfl (.cons rfl rfl trivial) ?_
  refine TL.asg (.int _ _) rfl rfl rfl ?_
  refine TL.asg (.int _ _) rfl rfl rfl ?_
  refine TL.done ?_
  refine TQ.then ?_
  refine TC.seq ?_
  refine TC.region ?_
  refine TL.mv (.int _ _) rfl rfl rfl ?_
  refine TL.mv (.int _ _) rfl rfl rfl ?_
  refine TL.gtr rfl rfl rfl rfl (fun q1 => ?_) (fun q1 => ?_)
  · skip
    refine TL.mv (.bool true) rfl rfl rfl ?_
    refine TL.off rfl rfl ?_
    refine TL.off rfl rfl ?_
    refine TL.off rfl rfl ?_
    refine TL.off rfl rfl ?_
    refine TL.off rfl rfl ?_
    refine TL.off rfl rfl ?_
    refine TL.off rfl rfl ?_
    refine TL.off rfl rfl ?_
    refine TL.pickT (.bool true) rfl rfl rfl rfl ?_
    refine TL.asg (.bool true) rfl rfl rfl ?_
    refine TL.done ?_
    refine TQ.then ?_
    refine TC.ret ?_
    refine FQ.ret1 (v := (.bool true)) (Bs := [A _]) [0] rfl rfl rfl ⟨rfl, trivial⟩ ?_
    first | exact ⟨(by unfold above; dsimp only; rw [if_pos q1]), rfl⟩ | exact ⟨(by unfold above; dsimp only; rw [if_neg q1, if_pos q2]), rfl⟩ | exact ⟨(by unfold above; dsimp only; rw [if_neg q1, if_neg q2]), rfl⟩
  · skip
    refine TL.mv (.bool false) rfl rfl rfl ?_
    refine TL.mv (.int _ _) rfl rfl rfl ?_
    refine TL.mv (.int _ _) rfl rfl rfl ?_
    refine TL.eql rfl rfl rfl rfl (fun q2 => ?_) (fun q2 => ?_)
    · skip
      refine TL.mv (.bool true) rfl rfl rfl ?_
      refine TL.mv (.int _ _) rfl rfl rfl ?_
      refine TL.mv (.int _ _) rfl rfl rfl ?_
      refine TL.lssV rfl rfl rfl rfl ?_
      refine TL.pickT (.bool _) rfl rfl rfl rfl ?_
      refine TL.pickF (.bool _) rfl rfl rfl rfl ?_
      refine TL.asg (.bool _) rfl rfl rfl ?_
      refine TL.done ?_
      refine TQ.then ?_
      refine TC.ret ?_
      refine FQ.ret1 (v := (.bool _)) (Bs := [A _]) [0] rfl rfl rfl ⟨rfl, trivial⟩ ?_
      first | exact ⟨(by unfold above; dsimp only; rw [if_pos q1]), rfl⟩ | exact ⟨(by unfold above; dsimp only; rw [if_neg q1, if_pos q2]), rfl⟩ | exact ⟨(by unfold above; dsimp only; rw [if_neg q1, if_neg q2]), rfl⟩
    · skip
      refine TL.mv (.bool false) rfl rfl rfl ?_
      refine TL.off rfl rfl ?_
      refine TL.off rfl rfl ?_
      refine TL.off rfl rfl ?_
      refine TL.pickF (.bool false) rfl rfl rfl rfl ?_
      refine TL.pickF (.bool false) rfl rfl rfl rfl ?_
      refine TL.asg (.bool false) rfl rfl rfl ?_
      refine TL.done ?_
      refine TQ.then ?_
      refine TC.ret ?_
      refine FQ.ret1 (v := (.bool false)) (Bs := [A _]) [0] rfl rfl rfl ⟨rfl, trivial⟩ ?_
      first | exact ⟨(by unfold above; dsimp only; rw [if_pos q1]), rfl⟩ | exact ⟨(by unfold above; dsimp only; rw [if_neg q1, if_pos q2]), rfl⟩ | exact ⟨(by unfold above; dsimp only; rw [if_neg q1, if_neg q2]), rfl⟩

theorem merge_ok {S : Type} [MemLike S] {mt : TypeId} {mv : Value} {A : S → Assn} (hM : MemI Tryz.prog mt mv A) {l : Lay} (hl : l.Ok) {p : Pen} {σ : S} {a b r : Int} {k : Nat} {σ2 : S} (h : merge l p k σ a b = some (r, σ2)) : FnD Tryz.prog 219 [treesV l mt mv p, .int .i64 a, .int .i64 b] [A σ] (.int .i64 r) [A σ2] := by
  induction k generalizing σ a b r σ2
  case zero => simp [merge] at h
  case succ k ih =>
    refine Fn.enter (Tryz.func219) rfl rfl (fun w0 R => ?_)
    refine TC.seq ?_
    refine TC.region ?_
    refine TL.boxA 1 rfl rfl rfl (fun _ => trivial) (fun bk1 => ?_)
    refine TL.asg (.int _ _) rfl rfl rfl ?_
    refine TL.done ?_
    refine TQ.then ?_
    refine TC.seq ?_
    refine TC.block ?_
    refine TC.seq ?_
    refine TC.region ?_
    refine TL.mv (.int _ _) rfl rfl rfl ?_
    refine TL.eql rfl rfl rfl rfl (fun q1 => ?_) (fun q1 => ?_)
    · skip
      refine TL.asg (.bool true) rfl rfl rfl ?_
      refine TL.done ?_
      refine TQ.then ?_
      refine TC.condT rfl ?_
      refine TC.seq ?_
      refine TC.region ?_
      refine TL.mv (.int _ _) rfl rfl rfl ?_
      refine TL.asg (.int _ _) rfl rfl rfl ?_
      refine TL.done ?_
      refine TQ.then ?_
      refine TC.ret ?_
      refine TQ.blockRet ?_
      refine TQ.thenRet ?_
      refine FQ.ret1 (v := (.int _ _)) (Bs := [A _]) [0] rfl rfl rfl ⟨rfl, trivial⟩ ?_
      rw [merge, if_pos q1] at h; cases h; exact ⟨rfl, rfl⟩
    · skip
      refine TL.asg (.bool false) rfl rfl rfl ?_
      refine TL.done ?_
      refine TQ.then ?_
      refine TC.condF rfl ?_
      refine TC.seq ?_
      refine TC.region ?_
      refine TL.mv (.int _ _) rfl rfl rfl ?_
      refine TL.eql rfl rfl rfl rfl (fun q2 => ?_) (fun q2 => ?_)
      · skip
        refine TL.asg (.bool true) rfl rfl rfl ?_
        refine TL.done ?_
        refine TQ.then ?_
        refine TC.condT rfl ?_
        refine TC.seq ?_
        refine TC.region ?_
        refine TL.mv (.int _ _) rfl rfl rfl ?_
        refine TL.asg (.int _ _) rfl rfl rfl ?_
        refine TL.done ?_
        refine TQ.then ?_
        refine TC.ret ?_
        refine TQ.blockRet ?_
        refine TQ.thenRet ?_
        refine FQ.ret1 (v := (.int _ _)) (Bs := [A _]) [0] rfl rfl rfl ⟨rfl, trivial⟩ ?_
        rw [merge, if_neg q1, if_pos q2] at h; cases h; exact ⟨rfl, rfl⟩
      · skip
        refine TL.asg (.bool false) rfl rfl rfl ?_
        refine TL.done ?_
        refine TQ.then ?_
        refine TC.condF rfl ?_
        refine TC.seq ?_
        refine TC.region ?_
        refine TL.ldA 1 6 [_, _, _, _, _, _] rfl rfl rfl fc_a100_6 rfl rfl ?_
        refine TL.mv (.int _ _) rfl rfl rfl ?_
        refine TL.mv (.int _ _) rfl rfl rfl ?_
        refine TL.callD [0] [0] (above_ok hM hl) ⟨rfl, rfl, rfl, trivial⟩ ⟨rfl, trivial⟩ fc_c236 rfl rfl rfl rfl rfl trivial ?_
        refine TL.cases rfl (fun q3 => ?_) (fun q3 => ?_)
        · skip
          refine TL.asg (.bool true) rfl rfl rfl ?_
          refine TL.done ?_
          refine TQ.then ?_
          refine TC.condT rfl ?_
          refine TC.seq ?_
          refine TC.draw [(0, true), (1, true), (2, true), (3, true), (4, true), (6, true), (5, false), (7, false), (8, false)] [1] fc_m (by kernel_rfl) ?_
          refine TL.ldA 1 6 [_, _, _, _, _, _] rfl rfl rfl fc_a100_6 rfl rfl ?_
          refine TL.mv (.int _ _) rfl rfl rfl ?_
          refine TL.ldA 1 6 [_, _, _, _, _, _] rfl rfl rfl fc_a100_6 rfl rfl ?_
          refine TL.ldA 1 6 [_, _, _, _, _, _] rfl rfl rfl fc_a100_6 rfl rfl ?_
          refine TL.mv (.int _ _) rfl rfl rfl ?_
          refine TL.mv (.int _ _) rfl rfl rfl ?_
          refine TL.callD [0] [0] (tget_ok hM hl) ⟨rfl, rfl, rfl, trivial⟩ ⟨rfl, trivial⟩ fc_c210 rfl rfl rfl rfl rfl (.cons rfl rfl trivial) ?_
          rw [merge, if_neg q1, if_neg q2] at h
          dsimp only at h
          rw [if_pos q3] at h
          obtain ⟨⟨c, σ3⟩, h1, h9⟩ := Option.bind_eq_some_iff.1 h
          refine TL.callD [0] [0] (ih h1) ⟨rfl, rfl, rfl, trivial⟩ ⟨rfl, trivial⟩ fc_c219 rfl rfl rfl rfl rfl (.cons rfl rfl trivial) ?_
          refine TL.callD [0] [0] (set_ok hM hl) ⟨rfl, rfl, rfl, rfl, trivial⟩ ⟨rfl, trivial⟩ fc_c237 rfl rfl rfl rfl rfl (.cons rfl rfl trivial) ?_
          refine TL.done ?_
          refine TQ.then ?_
          refine TC.seq ?_
          refine TC.region ?_
          refine TL.mv (.int _ _) rfl rfl rfl ?_
          refine TL.asg (.int _ _) rfl rfl rfl ?_
          refine TL.done ?_
          refine TQ.then ?_
          refine TC.ret ?_
          refine TQ.blockRet ?_
          refine TQ.thenRet ?_
          refine FQ.ret1 (v := (.int _ _)) (Bs := [A _]) [0] rfl rfl rfl ⟨rfl, trivial⟩ ?_
          cases h9; exact ⟨rfl, rfl⟩
        · skip
          refine TL.asg (.bool false) rfl rfl rfl ?_
          refine TL.done ?_
          refine TQ.then ?_
          refine TC.condF rfl ?_
          refine TC.skip ?_
          refine TQ.inBlock ?_
          refine TQ.then ?_
          refine TC.seq ?_
          refine TC.draw [(0, true), (1, true), (2, true), (3, true), (4, true), (5, true), (6, false), (7, false), (8, false)] [1] fc_m (by kernel_rfl) ?_
          refine TL.ldA 1 6 [_, _, _, _, _, _] rfl rfl rfl fc_a100_6 rfl rfl ?_
          refine TL.mv (.int _ _) rfl rfl rfl ?_
          refine TL.ldA 1 6 [_, _, _, _, _, _] rfl rfl rfl fc_a100_6 rfl rfl ?_
          refine TL.mv (.int _ _) rfl rfl rfl ?_
          refine TL.ldA 1 6 [_, _, _, _, _, _] rfl rfl rfl fc_a100_6 rfl rfl ?_
          refine TL.mv (.int _ _) rfl rfl rfl ?_
          refine TL.callD [0] [0] (tget_ok hM hl) ⟨rfl, rfl, rfl, trivial⟩ ⟨rfl, trivial⟩ fc_c210 rfl rfl rfl rfl rfl (.cons rfl rfl trivial) ?_
          rw [merge, if_neg q1, if_neg q2] at h
          dsimp only at h
          rw [if_neg (by rw [q3]; decide)] at h
          obtain ⟨⟨c, σ3⟩, h1, h9⟩ := Option.bind_eq_some_iff.1 h
          refine TL.callD [0] [0] (ih h1) ⟨rfl, rfl, rfl, trivial⟩ ⟨rfl, trivial⟩ fc_c219 rfl rfl rfl rfl rfl (.cons rfl rfl trivial) ?_
          refine TL.callD [0] [0] (set_ok hM hl) ⟨rfl, rfl, rfl, rfl, trivial⟩ ⟨rfl, trivial⟩ fc_c237 rfl rfl rfl rfl rfl (.cons rfl rfl trivial) ?_
          refine TL.done ?_
          refine TQ.then ?_
          refine TC.seq ?_
          refine TC.region ?_
          refine TL.mv (.int _ _) rfl rfl rfl ?_
          refine TL.asg (.int _ _) rfl rfl rfl ?_
          refine TL.done ?_
          refine TQ.then ?_
          refine TC.ret ?_
          refine FQ.ret1 (v := (.int _ _)) (Bs := [A _]) [0] rfl rfl rfl ⟨rfl, trivial⟩ ?_
          cases h9; exact ⟨rfl, rfl⟩

theorem mergeT_ok {S : Type} [MemLike S] {mt : TypeId} {mv : Value} {A : S → Assn} (hM : MemI Tryz.prog mt mv A) {l : Lay} (hl : l.Ok) {p : Pen} {σ : S} {a b r : Int} {k : Nat} {σ2 : S} (h : mergeT l p k σ a b = some (r, σ2)) : FnD Tryz.prog 197 [treesV l mt mv p, .int .i64 a, .int .i64 b] [A σ] (.int .i64 r) [A σ2] := by
  obtain ⟨⟨c, σ3⟩, h1, h9⟩ := Option.bind_eq_some_iff.1 h
  cases h9
  refine Fn.enter (Tryz.func197) rfl rfl (fun w0 R => ?_)
  refine TC.seq ?_
  refine TC.region ?_
  refine TL.boxA 1 rfl rfl rfl (fun _ => trivial) (fun bk1 => ?_)
  refine TL.asg (.int _ _) rfl rfl rfl ?_
  refine TL.done ?_
  refine TQ.then ?_
  refine TC.seq ?_
  refine TC.region ?_
  refine TL.ldA 1 6 [_, _, _, _, _, _] rfl rfl rfl fc_a100_6 rfl rfl ?_
  refine TL.mv (.int _ _) rfl rfl rfl ?_
  refine TL.mv (.int _ _) rfl rfl rfl ?_
  refine TL.callD [0] [0] (merge_ok hM hl h1) ⟨rfl, rfl, rfl, trivial⟩ ⟨rfl, trivial⟩ fc_c219 rfl rfl rfl rfl rfl trivial ?_
  refine TL.asg (.int _ _) rfl rfl rfl ?_
  refine TL.done ?_
  refine TQ.then ?_
  refine TC.seq ?_
  refine TC.region ?_
  refine TL.ldA 1 6 [_, _, _, _, _, _] rfl rfl rfl fc_a100_6 rfl rfl ?_
  refine TL.mv (.int _ _) rfl rfl rfl ?_
  refine TL.callD [0] [0] (hang_ok hM hl) ⟨rfl, rfl, rfl, trivial⟩ ⟨rfl, trivial⟩ fc_c122 rfl rfl rfl rfl rfl trivial ?_
  refine TL.done ?_
  refine TQ.then ?_
  refine TC.seq ?_
  refine TC.region ?_
  refine TL.mv (.int _ _) rfl rfl rfl ?_
  refine TL.asg (.int _ _) rfl rfl rfl ?_
  refine TL.done ?_
  refine TQ.then ?_
  refine TC.ret ?_
  refine FQ.ret1 (v := (.int _ _)) (Bs := [A _]) [0] rfl rfl rfl ⟨rfl, trivial⟩ ?_
  exact ⟨rfl, rfl⟩

theorem mark_true {S : Type} [MemLike S] {mt : TypeId} {mv : Value} {A : S → Assn} (hM : MemI Tryz.prog mt mv A) {l : Lay} (hl : l.Ok) {p : Pen} {σ : S} {x m : Int} {k : Nat} {σ2 : S} (h0 : 0 ≤ m) (h : markT l k σ x m true = some σ2) : FnD Tryz.prog 199 [treesV l mt mv p, .int .i64 x, .int .i64 m, .bool true] [A σ] (.tuple #[]) [A σ2] := by
  unfold markT at h
  dsimp only [markM] at h
  simp only [if_true, Bool.false_eq_true, if_false] at h
  refine Fn.enter (Tryz.func199) rfl rfl (fun w0 R => ?_)
  refine TC.seq ?_
  refine TC.region ?_
  refine TL.boxA 1 rfl rfl rfl (fun _ => trivial) (fun bk1 => ?_)
  refine TL.done ?_
  refine TQ.then ?_
  refine TC.seq ?_
  refine TC.draw [(0, true), (1, true), (3, true), (4, true), (2, false), (5, true), (6, true)] [1] fc_m (by kernel_rfl) ?_
  refine TL.ldA 1 6 [_, _, _, _, _, _] rfl rfl rfl fc_a100_6 rfl rfl ?_
  refine TL.mv (.int _ _) rfl rfl rfl ?_
  refine TL.mv (.int _ _) rfl rfl rfl ?_
  refine TL.shl _ rfl rfl (by omega) rfl rfl rfl ?_
  refine TL.callD [0] [0] (marks_ok hM hl) ⟨rfl, rfl, trivial⟩ ⟨rfl, trivial⟩ fc_c222 rfl rfl rfl rfl rfl (.cons rfl rfl trivial) ?_
  refine TL.andNot _ rfl rfl rfl rfl rfl ?_
  refine TL.asg (.int _ _) rfl rfl rfl ?_
  refine TL.done ?_
  refine TQ.then ?_
  refine TC.seq ?_
  refine TC.seq ?_
  refine TC.region ?_
  refine TL.mv (.bool true) rfl rfl rfl ?_
  refine TL.done ?_
  refine TQ.then ?_
  refine TC.condT rfl ?_
  refine TC.region ?_
  refine TL.mv (.int _ _) rfl rfl rfl ?_
  refine TL.mv (.int _ _) rfl rfl rfl ?_
  refine TL.shl _ rfl rfl (by omega) rfl rfl rfl ?_
  refine TL.or _ rfl rfl rfl rfl rfl ?_
  refine TL.asg (.int _ _) rfl rfl rfl ?_
  refine TL.done ?_
  refine TQ.then ?_
  refine TC.seq ?_
  refine TC.region ?_
  refine TL.ldA 1 6 [_, _, _, _, _, _] rfl rfl rfl fc_a100_6 rfl rfl ?_
  refine TL.mv (.int _ _) rfl rfl rfl ?_
  refine TL.mv (.int _ _) rfl rfl rfl ?_
  refine TL.callD [0] [0] (renew_ok hM hl) ⟨rfl, rfl, rfl, trivial⟩ ⟨rfl, trivial⟩ fc_c223 rfl rfl rfl rfl rfl trivial ?_
  refine TL.done ?_
  refine TQ.then ?_
  refine TC.seq ?_
  refine TC.region ?_
  refine TL.ldA 1 6 [_, _, _, _, _, _] rfl rfl rfl fc_a100_6 rfl rfl ?_
  refine TL.mv (.int _ _) rfl rfl rfl ?_
  refine TL.callD [0] [0] (parent_ok hM hl) ⟨rfl, rfl, trivial⟩ ⟨rfl, trivial⟩ fc_c177 rfl rfl rfl rfl rfl trivial ?_
  refine TL.asg (.int _ _) rfl rfl rfl ?_
  refine TL.done ?_
  refine TQ.then ?_
  refine TC.block ?_
  refine TC.loopK (X := Nat × S × Int) [4] [1] (fun y => [(9, .int .i64 y.2.2)]) (fun y => [(0, A y.2.1)]) (fun y => markUp l y.1 y.2.1 y.2.2 = some σ2) (fun y => y.1) ((k, _, _)) h ⟨rfl, trivial⟩ ⟨rfl, trivial⟩ (fun y hI => ?_)
  obtain ⟨k, σ1, z⟩ := y
  rcases k with _ | k
  · simp [markUp] at hI
  dsimp only at hI
  refine TC.sub (env' := [(9, _), (4, _)]) (L' := [(0, _), (1, _)]) ⟨rfl, rfl, trivial⟩ ⟨rfl, rfl, trivial⟩ ?_
  refine TC.seq ?_
  refine TC.seq ?_
  refine TC.region ?_
  refine TL.mv (.int _ _) rfl rfl rfl ?_
  refine TL.neq rfl rfl rfl rfl (fun q1 => ?_) (fun q1 => ?_)
  · skip
    refine TL.done ?_
    refine TQ.then ?_
    refine TC.condT rfl ?_
    refine TC.skip ?_
    refine TQ.then ?_
    refine TC.seq ?_
    refine TC.block ?_
    refine TC.draw [(0, true), (1, true), (2, true), (3, true), (4, false), (5, false)] [1] fc_m (by kernel_rfl) ?_
    refine TL.ldA 1 6 [_, _, _, _, _, _] rfl rfl rfl fc_a100_6 rfl rfl ?_
    refine TL.mv (.int _ _) rfl rfl rfl ?_
    refine TL.ldA 1 6 [_, _, _, _, _, _] rfl rfl rfl fc_a100_6 rfl rfl ?_
    refine TL.mv (.int _ _) rfl rfl rfl ?_
    refine TL.callD [0] [0] (marks_ok hM hl) ⟨rfl, rfl, trivial⟩ ⟨rfl, trivial⟩ fc_c222 rfl rfl rfl rfl rfl (.cons rfl rfl trivial) ?_
    refine TL.callD [0] [0] (renew_ok hM hl) ⟨rfl, rfl, rfl, trivial⟩ ⟨rfl, trivial⟩ fc_c223 rfl rfl rfl rfl rfl (.cons rfl rfl trivial) ?_
    refine TL.done ?_
    refine TQ.inBlock ?_
    refine TQ.then ?_
    refine TC.region ?_
    refine TL.ldA 1 6 [_, _, _, _, _, _] rfl rfl rfl fc_a100_6 rfl rfl ?_
    refine TL.mv (.int _ _) rfl rfl rfl ?_
    refine TL.callD [0] [0] (parent_ok hM hl) ⟨rfl, rfl, trivial⟩ ⟨rfl, trivial⟩ fc_c177 rfl rfl rfl rfl rfl trivial ?_
    refine TL.asg (.int _ _) rfl rfl rfl ?_
    refine TL.done ?_
    refine TQ.roundK ((k, _, _)) ⟨(by rw [markUp, if_pos q1] at hI; exact hI), Nat.lt_succ_self _⟩ ⟨rfl, trivial⟩ ⟨rfl, trivial⟩ (.cons rfl rfl trivial) (.cons rfl rfl trivial)
  · skip
    refine TL.done ?_
    refine TQ.then ?_
    refine TC.condF rfl ?_
    refine TC.exit ?_
    refine TQ.thenExit ?_
    refine TQ.thenExit ?_
    refine TQ.blockHere ?_
    refine FQ.end0 (Bs := [A _]) [0] rfl rfl ⟨rfl, trivial⟩ ?_
    rw [markUp, if_neg q1] at hI; cases hI; exact ⟨rfl, rfl⟩

theorem mark_false {S : Type} [MemLike S] {mt : TypeId} {mv : Value} {A : S → Assn} (hM : MemI Tryz.prog mt mv A) {l : Lay} (hl : l.Ok) {p : Pen} {σ : S} {x m : Int} {k : Nat} {σ2 : S} (h0 : 0 ≤ m) (h : markT l k σ x m false = some σ2) : FnD Tryz.prog 199 [treesV l mt mv p, .int .i64 x, .int .i64 m, .bool false] [A σ] (.tuple #[]) [A σ2] := by
  unfold markT at h
  dsimp only [markM] at h
  simp only [if_true, Bool.false_eq_true, if_false] at h
  refine Fn.enter (Tryz.func199) rfl rfl (fun w0 R => ?_)
  refine TC.seq ?_
  refine TC.region ?_
  refine TL.boxA 1 rfl rfl rfl (fun _ => trivial) (fun bk1 => ?_)
  refine TL.done ?_
  refine TQ.then ?_
  refine TC.seq ?_
  refine TC.draw [(0, true), (1, true), (3, true), (4, true), (2, false), (5, true), (6, true)] [1] fc_m (by kernel_rfl) ?_
  refine TL.ldA 1 6 [_, _, _, _, _, _] rfl rfl rfl fc_a100_6 rfl rfl ?_
  refine TL.mv (.int _ _) rfl rfl rfl ?_
  refine TL.mv (.int _ _) rfl rfl rfl ?_
  refine TL.shl _ rfl rfl (by omega) rfl rfl rfl ?_
  refine TL.callD [0] [0] (marks_ok hM hl) ⟨rfl, rfl, trivial⟩ ⟨rfl, trivial⟩ fc_c222 rfl rfl rfl rfl rfl (.cons rfl rfl trivial) ?_
  refine TL.andNot _ rfl rfl rfl rfl rfl ?_
  refine TL.asg (.int _ _) rfl rfl rfl ?_
  refine TL.done ?_
  refine TQ.then ?_
  refine TC.seq ?_
  refine TC.seq ?_
  refine TC.region ?_
  refine TL.mv (.bool false) rfl rfl rfl ?_
  refine TL.done ?_
  refine TQ.then ?_
  refine TC.condF rfl ?_
  refine TC.skip ?_
  refine TQ.then ?_
  refine TC.seq ?_
  refine TC.region ?_
  refine TL.ldA 1 6 [_, _, _, _, _, _] rfl rfl rfl fc_a100_6 rfl rfl ?_
  refine TL.mv (.int _ _) rfl rfl rfl ?_
  refine TL.mv (.int _ _) rfl rfl rfl ?_
  refine TL.callD [0] [0] (renew_ok hM hl) ⟨rfl, rfl, rfl, trivial⟩ ⟨rfl, trivial⟩ fc_c223 rfl rfl rfl rfl rfl trivial ?_
  refine TL.done ?_
  refine TQ.then ?_
  refine TC.seq ?_
  refine TC.region ?_
  refine TL.ldA 1 6 [_, _, _, _, _, _] rfl rfl rfl fc_a100_6 rfl rfl ?_
  refine TL.mv (.int _ _) rfl rfl rfl ?_
  refine TL.callD [0] [0] (parent_ok hM hl) ⟨rfl, rfl, trivial⟩ ⟨rfl, trivial⟩ fc_c177 rfl rfl rfl rfl rfl trivial ?_
  refine TL.asg (.int _ _) rfl rfl rfl ?_
  refine TL.done ?_
  refine TQ.then ?_
  refine TC.block ?_
  refine TC.loopK (X := Nat × S × Int) [4] [1] (fun y => [(9, .int .i64 y.2.2)]) (fun y => [(0, A y.2.1)]) (fun y => markUp l y.1 y.2.1 y.2.2 = some σ2) (fun y => y.1) ((k, _, _)) h ⟨rfl, trivial⟩ ⟨rfl, trivial⟩ (fun y hI => ?_)
  obtain ⟨k, σ1, z⟩ := y
  rcases k with _ | k
  · simp [markUp] at hI
  dsimp only at hI
  refine TC.sub (env' := [(9, _), (4, _)]) (L' := [(0, _), (1, _)]) ⟨rfl, rfl, trivial⟩ ⟨rfl, rfl, trivial⟩ ?_
  refine TC.seq ?_
  refine TC.seq ?_
  refine TC.region ?_
  refine TL.mv (.int _ _) rfl rfl rfl ?_
  refine TL.neq rfl rfl rfl rfl (fun q1 => ?_) (fun q1 => ?_)
  · skip
    refine TL.done ?_
    refine TQ.then ?_
    refine TC.condT rfl ?_
    refine TC.skip ?_
    refine TQ.then ?_
    refine TC.seq ?_
    refine TC.block ?_
    refine TC.draw [(0, true), (1, true), (2, true), (3, true), (4, false), (5, false)] [1] fc_m (by kernel_rfl) ?_
    refine TL.ldA 1 6 [_, _, _, _, _, _] rfl rfl rfl fc_a100_6 rfl rfl ?_
    refine TL.mv (.int _ _) rfl rfl rfl ?_
    refine TL.ldA 1 6 [_, _, _, _, _, _] rfl rfl rfl fc_a100_6 rfl rfl ?_
    refine TL.mv (.int _ _) rfl rfl rfl ?_
    refine TL.callD [0] [0] (marks_ok hM hl) ⟨rfl, rfl, trivial⟩ ⟨rfl, trivial⟩ fc_c222 rfl rfl rfl rfl rfl (.cons rfl rfl trivial) ?_
    refine TL.callD [0] [0] (renew_ok hM hl) ⟨rfl, rfl, rfl, trivial⟩ ⟨rfl, trivial⟩ fc_c223 rfl rfl rfl rfl rfl (.cons rfl rfl trivial) ?_
    refine TL.done ?_
    refine TQ.inBlock ?_
    refine TQ.then ?_
    refine TC.region ?_
    refine TL.ldA 1 6 [_, _, _, _, _, _] rfl rfl rfl fc_a100_6 rfl rfl ?_
    refine TL.mv (.int _ _) rfl rfl rfl ?_
    refine TL.callD [0] [0] (parent_ok hM hl) ⟨rfl, rfl, trivial⟩ ⟨rfl, trivial⟩ fc_c177 rfl rfl rfl rfl rfl trivial ?_
    refine TL.asg (.int _ _) rfl rfl rfl ?_
    refine TL.done ?_
    refine TQ.roundK ((k, _, _)) ⟨(by rw [markUp, if_pos q1] at hI; exact hI), Nat.lt_succ_self _⟩ ⟨rfl, trivial⟩ ⟨rfl, trivial⟩ (.cons rfl rfl trivial) (.cons rfl rfl trivial)
  · skip
    refine TL.done ?_
    refine TQ.then ?_
    refine TC.condF rfl ?_
    refine TC.exit ?_
    refine TQ.thenExit ?_
    refine TQ.thenExit ?_
    refine TQ.blockHere ?_
    refine FQ.end0 (Bs := [A _]) [0] rfl rfl ⟨rfl, trivial⟩ ?_
    rw [markUp, if_neg q1] at hI; cases hI; exact ⟨rfl, rfl⟩

theorem mark_ok {S : Type} [MemLike S] {mt : TypeId} {mv : Value} {A : S → Assn} (hM : MemI Tryz.prog mt mv A) {l : Lay} (hl : l.Ok) {p : Pen} {σ : S} {x m : Int} {on : Bool} {k : Nat} {σ2 : S} (h0 : 0 ≤ m) (h : markT l k σ x m on = some σ2) : FnD Tryz.prog 199 [treesV l mt mv p, .int .i64 x, .int .i64 m, .bool on] [A σ] (.tuple #[]) [A σ2] := by
  cases on
  · exact mark_false hM hl h0 h
  · exact mark_true hM hl h0 h

theorem marked_ok {S : Type} [MemLike S] {mt : TypeId} {mv : Value} {A : S → Assn} (hM : MemI Tryz.prog mt mv A) {l : Lay} (hl : l.Ok) {p : Pen} {σ : S} {x m : Int} (h0 : 0 ≤ m) : FnD Tryz.prog 218 [treesV l mt mv p, .int .i64 x, .int .i64 m] [A σ] (.bool (marked l σ x m)) [A (marksS l σ x)] := by
  refine Fn.enter (Tryz.func218) rfl rfl (fun w0 R => ?_)
  refine TC.seq ?_
  refine TC.region ?_
  refine TL.boxA 1 rfl rfl rfl (fun _ => trivial) (fun bk1 => ?_)
  refine TL.asg (.bool false) rfl rfl rfl ?_
  refine TL.done ?_
  refine TQ.then ?_
  refine TC.seq ?_
  refine TC.region ?_
  refine TL.ldA 1 6 [_, _, _, _, _, _] rfl rfl rfl fc_a100_6 rfl rfl ?_
  refine TL.mv (.int _ _) rfl rfl rfl ?_
  refine TL.callD [0] [0] (marks_ok hM hl) ⟨rfl, rfl, trivial⟩ ⟨rfl, trivial⟩ fc_c222 rfl rfl rfl rfl rfl trivial ?_
  refine TL.mv (.int _ _) rfl rfl rfl ?_
  refine TL.shr _ rfl rfl (by omega) rfl rfl rfl ?_
  refine TL.and _ rfl rfl rfl rfl rfl ?_
  refine TL.eqlV rfl rfl rfl rfl ?_
  refine TL.asg (.bool _) rfl rfl rfl ?_
  refine TL.done ?_
  refine TQ.then ?_
  refine TC.ret ?_
  refine FQ.ret1 (v := (.bool _)) (Bs := [A _]) [0] rfl rfl rfl ⟨rfl, trivial⟩ ?_
  exact ⟨rfl, rfl⟩

theorem has_ok {S : Type} [MemLike S] {mt : TypeId} {mv : Value} {A : S → Assn} (hM : MemI Tryz.prog mt mv A) {l : Lay} (hl : l.Ok) {p : Pen} {σ : S} {x m : Int} (h0 : 0 ≤ m) : FnD Tryz.prog 252 [treesV l mt mv p, .int .i64 x, .int .i64 m] [A σ] (.bool (has l σ x m)) [A (tsumS l σ x)] := by
  refine Fn.enter (Tryz.func252) rfl rfl (fun w0 R => ?_)
  refine TC.seq ?_
  refine TC.region ?_
  refine TL.boxA 1 rfl rfl rfl (fun _ => trivial) (fun bk1 => ?_)
  refine TL.asg (.bool false) rfl rfl rfl ?_
  refine TL.done ?_
  refine TQ.then ?_
  refine TC.seq ?_
  refine TC.region ?_
  refine TL.ldA 1 6 [_, _, _, _, _, _] rfl rfl rfl fc_a100_6 rfl rfl ?_
  refine TL.mv (.int _ _) rfl rfl rfl ?_
  refine TL.callD [0] [0] (tsum_ok hM hl) ⟨rfl, rfl, trivial⟩ ⟨rfl, trivial⟩ fc_c188 rfl rfl rfl rfl rfl trivial ?_
  refine TL.shr _ rfl rfl (by decide) rfl rfl rfl ?_
  refine TL.mv (.int _ _) rfl rfl rfl ?_
  refine TL.shr _ rfl rfl (by omega) rfl rfl rfl ?_
  refine TL.and _ rfl rfl rfl rfl rfl ?_
  refine TL.eqlV rfl rfl rfl rfl ?_
  refine TL.asg (.bool _) rfl rfl rfl ?_
  refine TL.done ?_
  refine TQ.then ?_
  refine TC.ret ?_
  refine FQ.ret1 (v := (.bool _)) (Bs := [A _]) [0] rfl rfl rfl ⟨rfl, trivial⟩ ?_
  exact ⟨rfl, rfl⟩

theorem first_ok {S : Type} [MemLike S] {mt : TypeId} {mv : Value} {A : S → Assn} (hM : MemI Tryz.prog mt mv A) {l : Lay} (hl : l.Ok) {p : Pen} {σ : S} {x m r : Int} {k : Nat} {σ2 : S} (h0 : 0 ≤ m) (h : first l k σ x m = some (r, σ2)) : FnD Tryz.prog 250 [treesV l mt mv p, .int .i64 x, .int .i64 m] [A σ] (.int .i64 r) [A σ2] := by
  unfold first at h
  refine Fn.enter (Tryz.func250) rfl rfl (fun w0 R => ?_)
  refine TC.seq ?_
  refine TC.region ?_
  refine TL.boxA 1 rfl rfl rfl (fun _ => trivial) (fun bk1 => ?_)
  refine TL.asg (.int _ _) rfl rfl rfl ?_
  refine TL.done ?_
  refine TQ.then ?_
  refine TC.seq ?_
  refine TC.region ?_
  refine TL.mv (.int _ _) rfl rfl rfl ?_
  refine TL.asg (.int _ _) rfl rfl rfl ?_
  refine TL.done ?_
  refine TQ.then ?_
  refine TC.seq ?_
  refine TC.seq ?_
  refine TC.region ?_
  refine TL.ldA 1 6 [_, _, _, _, _, _] rfl rfl rfl fc_a100_6 rfl rfl ?_
  refine TL.mv (.int _ _) rfl rfl rfl ?_
  refine TL.mv (.int _ _) rfl rfl rfl ?_
  refine TL.callD [0] [0] (has_ok hM hl h0) ⟨rfl, rfl, rfl, trivial⟩ ⟨rfl, trivial⟩ fc_c252 rfl rfl rfl rfl rfl trivial ?_
  refine TL.cases rfl (fun q1 => ?_) (fun q1 => ?_)
  · skip
    refine TL.not true false rfl rfl rfl rfl ?_
    refine TL.done ?_
    refine TQ.then ?_
    refine TC.condF rfl ?_
    refine TC.skip ?_
    refine TQ.then ?_
    refine TC.block ?_
    refine TC.loopK (X := Nat × S × Int) [2, 3] [1] (fun y => [(7, .int .i64 y.2.2)]) (fun y => [(0, A y.2.1)]) (fun y => firstL l m y.1 y.2.1 y.2.2 = some (r, σ2)) (fun y => y.1) ((k, _, x)) (by rw [if_pos q1] at h; exact h) ⟨rfl, trivial⟩ ⟨rfl, trivial⟩ (fun y hI => ?_)
    obtain ⟨k, σ1, z⟩ := y
    rcases k with _ | k
    · simp [firstL] at hI
    dsimp only at hI
    refine TC.sub (env' := [(7, _), (2, _), (3, _)]) (L' := [(0, _), (1, _)]) ⟨rfl, rfl, rfl, trivial⟩ ⟨rfl, rfl, trivial⟩ ?_
    refine TC.block ?_
    refine TC.seq ?_
    refine TC.region ?_
    refine TL.ldA 1 6 [_, _, _, _, _, _] rfl rfl rfl fc_a100_6 rfl rfl ?_
    refine TL.mv (.int _ _) rfl rfl rfl ?_
    refine TL.callD [0] [0] (tget_ok hM hl) ⟨rfl, rfl, rfl, trivial⟩ ⟨rfl, trivial⟩ fc_c210 rfl rfl rfl rfl rfl trivial ?_
    refine TL.asg (.int _ _) rfl rfl rfl ?_
    refine TL.done ?_
    refine TQ.then ?_
    refine TC.block ?_
    refine TC.seq ?_
    refine TC.region ?_
    refine TL.ldA 1 6 [_, _, _, _, _, _] rfl rfl rfl fc_a100_6 rfl rfl ?_
    refine TL.mv (.int _ _) rfl rfl rfl ?_
    refine TL.mv (.int _ _) rfl rfl rfl ?_
    refine TL.callD [0] [0] (has_ok hM hl h0) ⟨rfl, rfl, rfl, trivial⟩ ⟨rfl, trivial⟩ fc_c252 rfl rfl rfl rfl rfl trivial ?_
    refine TL.cases rfl (fun q2 => ?_) (fun q2 => ?_)
    · skip
      refine TL.asg (.bool true) rfl rfl rfl ?_
      refine TL.done ?_
      refine TQ.then ?_
      refine TC.condT rfl ?_
      refine TC.region ?_
      refine TL.mv (.int _ _) rfl rfl rfl ?_
      refine TL.asg (.int _ _) rfl rfl rfl ?_
      refine TL.done ?_
      refine TQ.inBlock ?_
      refine TQ.inBlock ?_
      refine TQ.roundK ((k, _, _)) ⟨(by rw [firstL] at hI; dsimp only at hI; rw [if_pos q2] at hI; exact hI), Nat.lt_succ_self _⟩ ⟨rfl, trivial⟩ ⟨rfl, trivial⟩ (.cons rfl rfl (.cons rfl rfl trivial)) (.cons rfl rfl trivial)
    · skip
      refine TL.asg (.bool false) rfl rfl rfl ?_
      refine TL.done ?_
      refine TQ.then ?_
      refine TC.condF rfl ?_
      refine TC.seq ?_
      refine TC.region ?_
      refine TL.ldA 1 6 [_, _, _, _, _, _] rfl rfl rfl fc_a100_6 rfl rfl ?_
      refine TL.mv (.int _ _) rfl rfl rfl ?_
      refine TL.mv (.int _ _) rfl rfl rfl ?_
      refine TL.callD [0] [0] (marked_ok hM hl h0) ⟨rfl, rfl, rfl, trivial⟩ ⟨rfl, trivial⟩ fc_c218 rfl rfl rfl rfl rfl trivial ?_
      refine TL.cases rfl (fun q3 => ?_) (fun q3 => ?_)
      · skip
        refine TL.asg (.bool true) rfl rfl rfl ?_
        refine TL.done ?_
        refine TQ.then ?_
        refine TC.condT rfl ?_
        refine TC.seq ?_
        refine TC.region ?_
        refine TL.mv (.int _ _) rfl rfl rfl ?_
        refine TL.asg (.int _ _) rfl rfl rfl ?_
        refine TL.done ?_
        refine TQ.then ?_
        refine TC.ret ?_
        refine TQ.blockRet ?_
        refine TQ.blockRet ?_
        refine TQ.thenRet ?_
        refine TQ.blockRet ?_
        refine FQ.ret1 (v := (.int _ _)) (Bs := [A _]) [0] rfl rfl rfl ⟨rfl, trivial⟩ ?_
        rw [firstL] at hI; dsimp only at hI; rw [if_neg (by rw [q2]; decide), if_pos q3] at hI; cases hI; exact ⟨rfl, rfl⟩
      · skip
        refine TL.asg (.bool false) rfl rfl rfl ?_
        refine TL.done ?_
        refine TQ.then ?_
        refine TC.condF rfl ?_
        refine TC.region ?_
        refine TL.ldA 1 6 [_, _, _, _, _, _] rfl rfl rfl fc_a100_6 rfl rfl ?_
        refine TL.mv (.int _ _) rfl rfl rfl ?_
        refine TL.callD [0] [0] (tget_ok hM hl) ⟨rfl, rfl, rfl, trivial⟩ ⟨rfl, trivial⟩ fc_c210 rfl rfl rfl rfl rfl trivial ?_
        refine TL.asg (.int _ _) rfl rfl rfl ?_
        refine TL.done ?_
        refine TQ.inBlock ?_
        refine TQ.inBlock ?_
        refine TQ.roundK ((k, _, _)) ⟨(by rw [firstL] at hI; dsimp only at hI; rw [if_neg (by rw [q2]; decide), if_neg (by rw [q3]; decide)] at hI; exact hI), Nat.lt_succ_self _⟩ ⟨rfl, trivial⟩ ⟨rfl, trivial⟩ (.cons rfl rfl (.cons rfl rfl trivial)) (.cons rfl rfl trivial)
  · skip
    refine TL.not false true rfl rfl rfl rfl ?_
    refine TL.done ?_
    refine TQ.then ?_
    refine TC.condT rfl ?_
    refine TC.seq ?_
    refine TC.region ?_
    refine TL.asg (.int _ _) rfl rfl rfl ?_
    refine TL.done ?_
    refine TQ.then ?_
    refine TC.ret ?_
    refine TQ.thenRet ?_
    refine FQ.ret1 (v := (.int _ _)) (Bs := [A _]) [0] rfl rfl rfl ⟨rfl, trivial⟩ ?_
    rw [if_neg (by rw [q1]; decide)] at h; cases h; exact ⟨rfl, rfl⟩

theorem begin_ok {S : Type} [MemLike S] {mt : TypeId} {mv : Value} {A : S → Assn} (hM : MemI Tryz.prog mt mv A) {l : Lay} (hl : l.Ok) {p : Pen} {σ : S} {i u r : Int} {k : Nat} {σ2 : S} (h : begin_ l p k σ i u = some (r, σ2)) : FnD Tryz.prog 198 [treesV l mt mv p, .int .i64 i, .int .i64 u] [A σ] (.int .i64 r) [A σ2] := by
  unfold begin_ at h
  dsimp only at h
  obtain ⟨⟨a, σa⟩, h1, h⟩ := Option.bind_eq_some_iff.1 h
  obtain ⟨⟨j, σb⟩, h2, h⟩ := Option.bind_eq_some_iff.1 h
  obtain ⟨⟨s, σc⟩, h3, h4⟩ := Option.bind_eq_some_iff.1 h
  dsimp only at h1 h2 h3 h4
  refine Fn.enter (Tryz.func198) rfl rfl (fun w0 R => ?_)
  refine TC.seq ?_
  refine TC.region ?_
  refine TL.boxA 1 rfl rfl rfl (fun _ => trivial) (fun bk1 => ?_)
  refine TL.asg (.int _ _) rfl rfl rfl ?_
  refine TL.done ?_
  refine TQ.then ?_
  refine TC.seq ?_
  refine TC.region ?_
  refine TL.fa 0 rfl fc_f104_0_0 rfl rfl ?_
  refine TL.fa 0 rfl fc_f100_0_0 rfl rfl ?_
  refine TL.ldA 1 3 [_, _, _] rfl rfl rfl fc_a45_3 rfl rfl ?_
  refine TL.mv (.int _ _) rfl rfl rfl ?_
  refine TL.mv (.int _ _) rfl rfl rfl ?_
  refine TL.callD [] [] (vertex_ok hl) ⟨rfl, rfl, rfl, trivial⟩ trivial fc_c59 rfl rfl rfl rfl rfl trivial ?_
  refine TL.asg (.int _ _) rfl rfl rfl ?_
  refine TL.done ?_
  refine TQ.then ?_
  refine TC.seq ?_
  refine TC.draw [(0, true), (1, true), (2, true), (3, true), (4, true), (6, true), (7, true), (8, true), (5, false), (9, false), (10, false), (11, true), (12, true), (13, true), (14, true), (15, true)] [1] fc_m (by kernel_rfl) ?_
  refine TL.fa 0 rfl fc_f104_0_0 rfl rfl ?_
  refine TL.ldA 1 6 [_, _, _, _, _, _] rfl rfl rfl fc_a100_6 rfl rfl ?_
  refine TL.fa 0 rfl fc_f104_0_0 rfl rfl ?_
  refine TL.ldA 1 6 [_, _, _, _, _, _] rfl rfl rfl fc_a100_6 rfl rfl ?_
  refine TL.mv (.int _ _) rfl rfl rfl ?_
  refine TL.fa 0 rfl fc_f104_0_0 rfl rfl ?_
  refine TL.ldA 1 6 [_, _, _, _, _, _] rfl rfl rfl fc_a100_6 rfl rfl ?_
  refine TL.mv (.int _ _) rfl rfl rfl ?_
  refine TL.callD [0] [0] (root_ok hM hl h1) ⟨rfl, rfl, trivial⟩ ⟨rfl, trivial⟩ fc_c134 rfl rfl rfl rfl rfl (.cons rfl rfl trivial) ?_
  refine TL.callD [0] [0] (index_ok hM hl h2) ⟨rfl, rfl, trivial⟩ ⟨rfl, trivial⟩ fc_c221 rfl rfl rfl rfl rfl (.cons rfl rfl trivial) ?_
  refine TL.callD [0] [0] (splitT_ok hM hl h3) ⟨rfl, rfl, rfl, trivial⟩ ⟨rfl, trivial⟩ fc_c220 rfl rfl rfl rfl rfl (.cons rfl rfl trivial) ?_
  refine TL.mv (.tuple _) rfl rfl rfl ?_
  refine TL.ext (.int _ _) rfl rfl rfl rfl ?_
  refine TL.ext (.int _ _) rfl rfl rfl rfl ?_
  refine TL.asg (.int _ _) rfl rfl rfl ?_
  refine TL.asg (.int _ _) rfl rfl rfl ?_
  refine TL.done ?_
  refine TQ.then ?_
  refine TC.seq ?_
  refine TC.region ?_
  refine TL.fa 0 rfl fc_f104_0_0 rfl rfl ?_
  refine TL.ldA 1 6 [_, _, _, _, _, _] rfl rfl rfl fc_a100_6 rfl rfl ?_
  refine TL.mv (.int _ _) rfl rfl rfl ?_
  refine TL.mv (.int _ _) rfl rfl rfl ?_
  refine TL.callD [0] [0] (mergeT_ok hM hl h4) ⟨rfl, rfl, rfl, trivial⟩ ⟨rfl, trivial⟩ fc_c197 rfl rfl rfl rfl rfl trivial ?_
  refine TL.asg (.int _ _) rfl rfl rfl ?_
  refine TL.done ?_
  refine TQ.then ?_
  refine TC.ret ?_
  refine FQ.ret1 (v := (.int _ _)) (Bs := [A _]) [0] rfl rfl rfl ⟨rfl, trivial⟩ ?_
  exact ⟨rfl, rfl⟩

theorem same_ok {S : Type} [MemLike S] {mt : TypeId} {mv : Value} {A : S → Assn} (hM : MemI Tryz.prog mt mv A) {l : Lay} (hl : l.Ok) {p : Pen} {σ : S} {i u v : Int} {b : Bool} {k : Nat} {σ2 : S} (h : same l k σ i u v = some (b, σ2)) : FnD Tryz.prog 90 [treesV l mt mv p, .int .i64 i, .int .i64 u, .int .i64 v] [A σ] (.bool b) [A σ2] := by
  unfold same at h
  obtain ⟨⟨a, σa⟩, h1, h⟩ := Option.bind_eq_some_iff.1 h
  obtain ⟨⟨c, σb⟩, h2, h⟩ := Option.bind_eq_some_iff.1 h
  dsimp only at h1 h2 h
  cases h
  refine Fn.enter (Tryz.func90) rfl rfl (fun w0 R => ?_)
  refine TC.seq ?_
  refine TC.region ?_
  refine TL.boxA 1 rfl rfl rfl (fun _ => trivial) (fun bk1 => ?_)
  refine TL.asg (.bool false) rfl rfl rfl ?_
  refine TL.done ?_
  refine TQ.then ?_
  refine TC.seq ?_
  refine TC.draw [(0, true), (1, true), (2, true), (3, true), (4, true), (5, true), (6, true), (9, true), (10, true), (11, true), (12, true), (13, true), (14, true), (15, true), (7, false), (8, false), (16, false), (17, false), (18, true), (19, true)] [1] fc_m (by kernel_rfl) ?_
  refine TL.fa 0 rfl fc_f104_0_0 rfl rfl ?_
  refine TL.ldA 1 6 [_, _, _, _, _, _] rfl rfl rfl fc_a100_6 rfl rfl ?_
  refine TL.fa 0 rfl fc_f104_0_0 rfl rfl ?_
  refine TL.fa 0 rfl fc_f100_0_0 rfl rfl ?_
  refine TL.ldA 1 3 [_, _, _] rfl rfl rfl fc_a45_3 rfl rfl ?_
  refine TL.mv (.int _ _) rfl rfl rfl ?_
  refine TL.mv (.int _ _) rfl rfl rfl ?_
  refine TL.fa 0 rfl fc_f104_0_0 rfl rfl ?_
  refine TL.ldA 1 6 [_, _, _, _, _, _] rfl rfl rfl fc_a100_6 rfl rfl ?_
  refine TL.fa 0 rfl fc_f104_0_0 rfl rfl ?_
  refine TL.fa 0 rfl fc_f100_0_0 rfl rfl ?_
  refine TL.ldA 1 3 [_, _, _] rfl rfl rfl fc_a45_3 rfl rfl ?_
  refine TL.mv (.int _ _) rfl rfl rfl ?_
  refine TL.mv (.int _ _) rfl rfl rfl ?_
  refine TL.callD [] [] (vertex_ok hl) ⟨rfl, rfl, rfl, trivial⟩ trivial fc_c59 rfl rfl rfl rfl rfl (.cons rfl rfl trivial) ?_
  refine TL.callD [0] [0] (root_ok hM hl h1) ⟨rfl, rfl, trivial⟩ ⟨rfl, trivial⟩ fc_c134 rfl rfl rfl rfl rfl (.cons rfl rfl trivial) ?_
  refine TL.callD [] [] (vertex_ok hl) ⟨rfl, rfl, rfl, trivial⟩ trivial fc_c59 rfl rfl rfl rfl rfl (.cons rfl rfl trivial) ?_
  refine TL.callD [0] [0] (root_ok hM hl h2) ⟨rfl, rfl, trivial⟩ ⟨rfl, trivial⟩ fc_c134 rfl rfl rfl rfl rfl (.cons rfl rfl trivial) ?_
  refine TL.eqlV rfl rfl rfl rfl ?_
  refine TL.asg (.bool _) rfl rfl rfl ?_
  refine TL.done ?_
  refine TQ.then ?_
  refine TC.ret ?_
  refine FQ.ret1 (v := (.bool _)) (Bs := [A _]) [0] rfl rfl rfl ⟨rfl, trivial⟩ ?_
  exact ⟨rfl, rfl⟩

theorem count_ok {S : Type} [MemLike S] {mt : TypeId} {mv : Value} {A : S → Assn} (hM : MemI Tryz.prog mt mv A) {l : Lay} (hl : l.Ok) {p : Pen} {σ : S} {i u r : Int} {k : Nat} {σ2 : S} (h : count l k σ i u = some (r, σ2)) : FnD Tryz.prog 89 [treesV l mt mv p, .int .i64 i, .int .i64 u] [A σ] (.int .i64 r) [A σ2] := by
  unfold count at h
  obtain ⟨⟨a, σa⟩, h1, h⟩ := Option.bind_eq_some_iff.1 h
  dsimp only at h1 h
  cases h
  refine Fn.enter (Tryz.func89) rfl rfl (fun w0 R => ?_)
  refine TC.seq ?_
  refine TC.region ?_
  refine TL.boxA 1 rfl rfl rfl (fun _ => trivial) (fun bk1 => ?_)
  refine TL.asg (.int _ _) rfl rfl rfl ?_
  refine TL.done ?_
  refine TQ.then ?_
  refine TC.seq ?_
  refine TC.draw [(0, true), (1, true), (2, true), (3, true), (4, true), (5, true), (6, true), (7, true), (8, true), (9, false), (10, false), (11, false), (12, true)] [1] fc_m (by kernel_rfl) ?_
  refine TL.fa 0 rfl fc_f104_0_0 rfl rfl ?_
  refine TL.ldA 1 6 [_, _, _, _, _, _] rfl rfl rfl fc_a100_6 rfl rfl ?_
  refine TL.fa 0 rfl fc_f104_0_0 rfl rfl ?_
  refine TL.ldA 1 6 [_, _, _, _, _, _] rfl rfl rfl fc_a100_6 rfl rfl ?_
  refine TL.fa 0 rfl fc_f104_0_0 rfl rfl ?_
  refine TL.fa 0 rfl fc_f100_0_0 rfl rfl ?_
  refine TL.ldA 1 3 [_, _, _] rfl rfl rfl fc_a45_3 rfl rfl ?_
  refine TL.mv (.int _ _) rfl rfl rfl ?_
  refine TL.mv (.int _ _) rfl rfl rfl ?_
  refine TL.callD [] [] (vertex_ok hl) ⟨rfl, rfl, rfl, trivial⟩ trivial fc_c59 rfl rfl rfl rfl rfl (.cons rfl rfl trivial) ?_
  refine TL.callD [0] [0] (root_ok hM hl h1) ⟨rfl, rfl, trivial⟩ ⟨rfl, trivial⟩ fc_c134 rfl rfl rfl rfl rfl (.cons rfl rfl trivial) ?_
  refine TL.callD [0] [0] (verts_ok hM hl) ⟨rfl, rfl, trivial⟩ ⟨rfl, trivial⟩ fc_c139 rfl rfl rfl rfl rfl (.cons rfl rfl trivial) ?_
  refine TL.asg (.int _ _) rfl rfl rfl ?_
  refine TL.done ?_
  refine TQ.then ?_
  refine TC.ret ?_
  refine FQ.ret1 (v := (.int _ _)) (Bs := [A _]) [0] rfl rfl rfl ⟨rfl, trivial⟩ ?_
  exact ⟨rfl, rfl⟩

theorem arcs2_ok {mt : TypeId} {mv : Value} {l : Lay} (hl : l.Ok) {p : Pen} {i s : Int} : FnD Tryz.prog 133 [treesV l mt mv p, .int .i64 i, .int .i64 s] [] (.tuple #[.int .i64 (l.arc s i 0), .int .i64 (l.arc s i 1)]) [] := by
  refine Fn.enter (Tryz.func133) rfl rfl (fun w0 R => ?_)
  refine TC.seq ?_
  refine TC.region ?_
  refine TL.boxA 0 rfl rfl rfl (fun _ => trivial) (fun bk0 => ?_)
  refine TL.asg (.int _ _) rfl rfl rfl ?_
  refine TL.asg (.int _ _) rfl rfl rfl ?_
  refine TL.done ?_
  refine TQ.then ?_
  refine TC.seq ?_
  refine TC.draw [(0, true), (1, true), (2, true), (3, true), (4, true), (6, true), (7, true), (8, true), (9, true), (10, true), (5, false), (11, false), (12, true), (13, true)] [0] fc_m (by kernel_rfl) ?_
  refine TL.fa 0 rfl fc_f104_0_0 rfl rfl ?_
  refine TL.fa 0 rfl fc_f100_0_0 rfl rfl ?_
  refine TL.ldA 0 3 [_, _, _] rfl rfl rfl fc_a45_3 rfl rfl ?_
  refine TL.mv (.int _ _) rfl rfl rfl ?_
  refine TL.mv (.int _ _) rfl rfl rfl ?_
  refine TL.fa 0 rfl fc_f104_0_0 rfl rfl ?_
  refine TL.fa 0 rfl fc_f100_0_0 rfl rfl ?_
  refine TL.ldA 0 3 [_, _, _] rfl rfl rfl fc_a45_3 rfl rfl ?_
  refine TL.mv (.int _ _) rfl rfl rfl ?_
  refine TL.mv (.int _ _) rfl rfl rfl ?_
  refine TL.callD [] [] (arc_ok hl) ⟨rfl, rfl, rfl, rfl, trivial⟩ trivial fc_c176 rfl rfl rfl rfl rfl (.cons rfl rfl trivial) ?_
  refine TL.callD [] [] (arc_ok hl) ⟨rfl, rfl, rfl, rfl, trivial⟩ trivial fc_c176 rfl rfl rfl rfl rfl (.cons rfl rfl trivial) ?_
  refine TL.asg (.int _ _) rfl rfl rfl ?_
  refine TL.asg (.int _ _) rfl rfl rfl ?_
  refine TL.done ?_
  refine TQ.then ?_
  refine TC.ret ?_
  refine FQ.ret2 (v := (.int _ _)) (x := (.int _ _)) (Bs := []) [] rfl rfl rfl rfl trivial ?_
  exact ⟨rfl, rfl⟩

theorem link_ok {S : Type} [MemLike S] {mt : TypeId} {mv : Value} {A : S → Assn} (hM : MemI Tryz.prog mt mv A) {l : Lay} (hl : l.Ok) {p : Pen} {σ : S} {i s u v r : Int} {k : Nat} {σ2 : S} (h : link l p k σ i s u v = some (r, σ2)) : FnD Tryz.prog 156 [treesV l mt mv p, .int .i64 i, .int .i64 s, .int .i64 u, .int .i64 v] [A σ] (.int .i64 r) [A σ2] := by
  unfold link at h
  obtain ⟨⟨a, σa⟩, h1, h⟩ := Option.bind_eq_some_iff.1 h
  obtain ⟨⟨x, σb⟩, h2, h⟩ := Option.bind_eq_some_iff.1 h
  obtain ⟨⟨b, σc⟩, h3, h⟩ := Option.bind_eq_some_iff.1 h
  obtain ⟨⟨y, σd⟩, h4, h5⟩ := Option.bind_eq_some_iff.1 h
  dsimp only at h1 h2 h3 h4 h5
  refine Fn.enter (Tryz.func156) rfl rfl (fun w0 R => ?_)
  refine TC.seq ?_
  refine TC.region ?_
  refine TL.boxA 1 rfl rfl rfl (fun _ => trivial) (fun bk1 => ?_)
  refine TL.asg (.int _ _) rfl rfl rfl ?_
  refine TL.done ?_
  refine TQ.then ?_
  refine TC.seq ?_
  refine TC.region ?_
  refine TL.ldA 1 6 [_, _, _, _, _, _] rfl rfl rfl fc_a104_6 rfl rfl ?_
  refine TL.mv (.int _ _) rfl rfl rfl ?_
  refine TL.mv (.int _ _) rfl rfl rfl ?_
  refine TL.callD [] [] (arcs2_ok hl) ⟨rfl, rfl, rfl, trivial⟩ trivial fc_c133 rfl rfl rfl rfl rfl trivial ?_
  refine TL.mv (.tuple _) rfl rfl rfl ?_
  refine TL.ext (.int _ _) rfl rfl rfl rfl ?_
  refine TL.ext (.int _ _) rfl rfl rfl rfl ?_
  refine TL.asg (.int _ _) rfl rfl rfl ?_
  refine TL.asg (.int _ _) rfl rfl rfl ?_
  refine TL.done ?_
  refine TQ.then ?_
  refine TC.seq ?_
  refine TC.draw [(0, true), (1, true), (2, true), (3, true), (4, true), (6, true), (5, false), (7, false), (8, true)] [1] fc_m (by kernel_rfl) ?_
  refine TL.fa 0 rfl fc_f104_0_0 rfl rfl ?_
  refine TL.ldA 1 6 [_, _, _, _, _, _] rfl rfl rfl fc_a100_6 rfl rfl ?_
  refine TL.ldA 1 6 [_, _, _, _, _, _] rfl rfl rfl fc_a104_6 rfl rfl ?_
  refine TL.mv (.int _ _) rfl rfl rfl ?_
  refine TL.mv (.int _ _) rfl rfl rfl ?_
  refine TL.mv (.int _ _) rfl rfl rfl ?_
  refine TL.callD [0] [0] (begin_ok hM hl h1) ⟨rfl, rfl, rfl, trivial⟩ ⟨rfl, trivial⟩ fc_c198 rfl rfl rfl rfl rfl (.cons rfl rfl trivial) ?_
  refine TL.callD [0] [0] (mergeT_ok hM hl h2) ⟨rfl, rfl, rfl, trivial⟩ ⟨rfl, trivial⟩ fc_c197 rfl rfl rfl rfl rfl (.cons rfl rfl trivial) ?_
  refine TL.asg (.int _ _) rfl rfl rfl ?_
  refine TL.done ?_
  refine TQ.then ?_
  refine TC.seq ?_
  refine TC.draw [(0, true), (1, true), (2, true), (3, true), (4, true), (5, true), (6, false), (7, false), (8, true)] [1] fc_m (by kernel_rfl) ?_
  refine TL.fa 0 rfl fc_f104_0_0 rfl rfl ?_
  refine TL.ldA 1 6 [_, _, _, _, _, _] rfl rfl rfl fc_a100_6 rfl rfl ?_
  refine TL.mv (.int _ _) rfl rfl rfl ?_
  refine TL.ldA 1 6 [_, _, _, _, _, _] rfl rfl rfl fc_a104_6 rfl rfl ?_
  refine TL.mv (.int _ _) rfl rfl rfl ?_
  refine TL.mv (.int _ _) rfl rfl rfl ?_
  refine TL.callD [0] [0] (begin_ok hM hl h3) ⟨rfl, rfl, rfl, trivial⟩ ⟨rfl, trivial⟩ fc_c198 rfl rfl rfl rfl rfl (.cons rfl rfl trivial) ?_
  refine TL.callD [0] [0] (mergeT_ok hM hl h4) ⟨rfl, rfl, rfl, trivial⟩ ⟨rfl, trivial⟩ fc_c197 rfl rfl rfl rfl rfl (.cons rfl rfl trivial) ?_
  refine TL.asg (.int _ _) rfl rfl rfl ?_
  refine TL.done ?_
  refine TQ.then ?_
  refine TC.seq ?_
  refine TC.region ?_
  refine TL.fa 0 rfl fc_f104_0_0 rfl rfl ?_
  refine TL.ldA 1 6 [_, _, _, _, _, _] rfl rfl rfl fc_a100_6 rfl rfl ?_
  refine TL.mv (.int _ _) rfl rfl rfl ?_
  refine TL.mv (.int _ _) rfl rfl rfl ?_
  refine TL.callD [0] [0] (mergeT_ok hM hl h5) ⟨rfl, rfl, rfl, trivial⟩ ⟨rfl, trivial⟩ fc_c197 rfl rfl rfl rfl rfl trivial ?_
  refine TL.asg (.int _ _) rfl rfl rfl ?_
  refine TL.done ?_
  refine TQ.then ?_
  refine TC.ret ?_
  refine FQ.ret1 (v := (.int _ _)) (Bs := [A _]) [0] rfl rfl rfl ⟨rfl, trivial⟩ ?_
  exact ⟨rfl, rfl⟩

theorem linked_ok {S : Type} [MemLike S] {mt : TypeId} {mv : Value} {A : S → Assn} (hM : MemI Tryz.prog mt mv A) {l : Lay} (hl : l.Ok) {p : Pen} {σ : S} {i s : Int} {b : Bool} {k : Nat} {σ2 : S} (h : linkedT l k σ i s = some (b, σ2)) : FnD Tryz.prog 85 [treesV l mt mv p, .int .i64 i, .int .i64 s] [A σ] (.bool b) [A σ2] := by
  unfold linkedT at h
  obtain ⟨⟨a, σa⟩, h1, h⟩ := Option.bind_eq_some_iff.1 h
  obtain ⟨⟨c, σb⟩, h2, h⟩ := Option.bind_eq_some_iff.1 h
  dsimp only at h1 h2 h
  cases h
  refine Fn.enter (Tryz.func85) rfl rfl (fun w0 R => ?_)
  refine TC.seq ?_
  refine TC.region ?_
  refine TL.boxA 1 rfl rfl rfl (fun _ => trivial) (fun bk1 => ?_)
  refine TL.asg (.bool false) rfl rfl rfl ?_
  refine TL.done ?_
  refine TQ.then ?_
  refine TC.seq ?_
  refine TC.region ?_
  refine TL.ldA 1 6 [_, _, _, _, _, _] rfl rfl rfl fc_a104_6 rfl rfl ?_
  refine TL.mv (.int _ _) rfl rfl rfl ?_
  refine TL.mv (.int _ _) rfl rfl rfl ?_
  refine TL.callD [] [] (arcs2_ok hl) ⟨rfl, rfl, rfl, trivial⟩ trivial fc_c133 rfl rfl rfl rfl rfl trivial ?_
  refine TL.mv (.tuple _) rfl rfl rfl ?_
  refine TL.ext (.int _ _) rfl rfl rfl rfl ?_
  refine TL.ext (.int _ _) rfl rfl rfl rfl ?_
  refine TL.asg (.int _ _) rfl rfl rfl ?_
  refine TL.asg (.int _ _) rfl rfl rfl ?_
  refine TL.done ?_
  refine TQ.then ?_
  refine TC.seq ?_
  refine TC.draw [(0, true), (1, true), (2, true), (4, true), (5, true), (6, true), (3, false), (7, false), (8, true), (9, true)] [1] fc_m (by kernel_rfl) ?_
  refine TL.fa 0 rfl fc_f104_0_0 rfl rfl ?_
  refine TL.ldA 1 6 [_, _, _, _, _, _] rfl rfl rfl fc_a100_6 rfl rfl ?_
  refine TL.mv (.int _ _) rfl rfl rfl ?_
  refine TL.fa 0 rfl fc_f104_0_0 rfl rfl ?_
  refine TL.ldA 1 6 [_, _, _, _, _, _] rfl rfl rfl fc_a100_6 rfl rfl ?_
  refine TL.mv (.int _ _) rfl rfl rfl ?_
  refine TL.callD [0] [0] (root_ok hM hl h1) ⟨rfl, rfl, trivial⟩ ⟨rfl, trivial⟩ fc_c134 rfl rfl rfl rfl rfl (.cons rfl rfl trivial) ?_
  refine TL.callD [0] [0] (root_ok hM hl h2) ⟨rfl, rfl, trivial⟩ ⟨rfl, trivial⟩ fc_c134 rfl rfl rfl rfl rfl (.cons rfl rfl trivial) ?_
  refine TL.eqlV rfl rfl rfl rfl ?_
  refine TL.asg (.bool _) rfl rfl rfl ?_
  refine TL.done ?_
  refine TQ.then ?_
  refine TC.ret ?_
  refine FQ.ret1 (v := (.bool _)) (Bs := [A _]) [0] rfl rfl rfl ⟨rfl, trivial⟩ ?_
  exact ⟨rfl, rfl⟩

theorem cut_ok {S : Type} [MemLike S] {mt : TypeId} {mv : Value} {A : S → Assn} (hM : MemI Tryz.prog mt mv A) {l : Lay} (hl : l.Ok) {p : Pen} {σ : S} {i s : Int} {r : Int × Int} {k : Nat} {σ2 : S} (h : cut l p k σ i s = some (r, σ2)) : FnD Tryz.prog 242 [treesV l mt mv p, .int .i64 i, .int .i64 s] [A σ] (.tuple #[.int .i64 r.1, .int .i64 r.2]) [A σ2] := by
  unfold cut at h
  dsimp only at h
  obtain ⟨⟨i0, σa⟩, h1, h⟩ := Option.bind_eq_some_iff.1 h
  obtain ⟨⟨j0, σb⟩, h2, h⟩ := Option.bind_eq_some_iff.1 h
  obtain ⟨⟨rt, σc⟩, h3, h⟩ := Option.bind_eq_some_iff.1 h
  obtain ⟨⟨s1, σd⟩, h4, h⟩ := Option.bind_eq_some_iff.1 h
  obtain ⟨⟨s2, σe⟩, h5, h⟩ := Option.bind_eq_some_iff.1 h
  obtain ⟨⟨s3, σf⟩, h6, h⟩ := Option.bind_eq_some_iff.1 h
  obtain ⟨⟨s4, σg⟩, h7, h⟩ := Option.bind_eq_some_iff.1 h
  obtain ⟨⟨m, σh⟩, h8, h9⟩ := Option.bind_eq_some_iff.1 h
  dsimp only at h1 h2 h3 h4 h5 h6 h7 h8 h9
  cases h9
  refine Fn.enter (Tryz.func242) rfl rfl (fun w0 R => ?_)
  refine TC.seq ?_
  refine TC.region ?_
  refine TL.boxA 1 rfl rfl rfl (fun _ => trivial) (fun bk1 => ?_)
  refine TL.asg (.int _ _) rfl rfl rfl ?_
  refine TL.asg (.int _ _) rfl rfl rfl ?_
  refine TL.done ?_
  refine TQ.then ?_
  refine TC.seq ?_
  refine TC.region ?_
  refine TL.ldA 1 6 [_, _, _, _, _, _] rfl rfl rfl fc_a104_6 rfl rfl ?_
  refine TL.mv (.int _ _) rfl rfl rfl ?_
  refine TL.mv (.int _ _) rfl rfl rfl ?_
  refine TL.callD [] [] (arcs2_ok hl) ⟨rfl, rfl, rfl, trivial⟩ trivial fc_c133 rfl rfl rfl rfl rfl trivial ?_
  refine TL.mv (.tuple _) rfl rfl rfl ?_
  refine TL.ext (.int _ _) rfl rfl rfl rfl ?_
  refine TL.ext (.int _ _) rfl rfl rfl rfl ?_
  refine TL.asg (.int _ _) rfl rfl rfl ?_
  refine TL.asg (.int _ _) rfl rfl rfl ?_
  refine TL.done ?_
  refine TQ.then ?_
  refine TC.seq ?_
  refine TC.draw [(0, true), (1, true), (2, true), (4, true), (5, true), (6, true), (3, false), (7, false), (8, true), (9, true)] [1] fc_m (by kernel_rfl) ?_
  refine TL.fa 0 rfl fc_f104_0_0 rfl rfl ?_
  refine TL.ldA 1 6 [_, _, _, _, _, _] rfl rfl rfl fc_a100_6 rfl rfl ?_
  refine TL.mv (.int _ _) rfl rfl rfl ?_
  refine TL.fa 0 rfl fc_f104_0_0 rfl rfl ?_
  refine TL.ldA 1 6 [_, _, _, _, _, _] rfl rfl rfl fc_a100_6 rfl rfl ?_
  refine TL.mv (.int _ _) rfl rfl rfl ?_
  refine TL.callD [0] [0] (index_ok hM hl h1) ⟨rfl, rfl, trivial⟩ ⟨rfl, trivial⟩ fc_c221 rfl rfl rfl rfl rfl (.cons rfl rfl trivial) ?_
  refine TL.callD [0] [0] (index_ok hM hl h2) ⟨rfl, rfl, trivial⟩ ⟨rfl, trivial⟩ fc_c221 rfl rfl rfl rfl rfl (.cons rfl rfl trivial) ?_
  refine TL.asg (.int _ _) rfl rfl rfl ?_
  refine TL.asg (.int _ _) rfl rfl rfl ?_
  refine TL.done ?_
  refine TQ.then ?_
  refine TC.seq ?_
  refine TC.seq ?_
  refine TC.region ?_
  refine TL.mv (.int _ _) rfl rfl rfl ?_
  refine TL.mv (.int _ _) rfl rfl rfl ?_
  refine TL.gtr rfl rfl rfl rfl (fun q1 => ?_) (fun q1 => ?_)
  · skip
    refine TL.done ?_
    refine TQ.then ?_
    refine TC.condT rfl ?_
    refine TC.region ?_
    refine TL.mv (.int _ _) rfl rfl rfl ?_
    refine TL.mv (.int _ _) rfl rfl rfl ?_
    refine TL.asg (.int _ _) rfl rfl rfl ?_
    refine TL.asg (.int _ _) rfl rfl rfl ?_
    refine TL.done ?_
    refine TQ.then ?_
    refine TC.seq ?_
    refine TC.draw [(0, true), (1, true), (2, true), (3, true), (4, true), (6, true), (5, false), (7, false), (8, true), (9, true), (10, true), (11, true), (12, true)] [1] fc_m (by kernel_rfl) ?_
    refine TL.fa 0 rfl fc_f104_0_0 rfl rfl ?_
    refine TL.ldA 1 6 [_, _, _, _, _, _] rfl rfl rfl fc_a100_6 rfl rfl ?_
    refine TL.fa 0 rfl fc_f104_0_0 rfl rfl ?_
    refine TL.ldA 1 6 [_, _, _, _, _, _] rfl rfl rfl fc_a100_6 rfl rfl ?_
    refine TL.mv (.int _ _) rfl rfl rfl ?_
    refine TL.mv (.int _ _) rfl rfl rfl ?_
    refine TL.callD [0] [0] (root_ok hM hl h3) ⟨rfl, rfl, trivial⟩ ⟨rfl, trivial⟩ fc_c134 rfl rfl rfl rfl rfl (.cons rfl rfl trivial) ?_
    refine TL.callD [0] [0] (splitT_ok hM hl (by rw [if_pos q1] at h4; exact h4)) ⟨rfl, rfl, rfl, trivial⟩ ⟨rfl, trivial⟩ fc_c220 rfl rfl rfl rfl rfl (.cons rfl rfl trivial) ?_
    refine TL.mv (.tuple _) rfl rfl rfl ?_
    refine TL.ext (.int _ _) rfl rfl rfl rfl ?_
    refine TL.ext (.int _ _) rfl rfl rfl rfl ?_
    refine TL.asg (.int _ _) rfl rfl rfl ?_
    refine TL.asg (.int _ _) rfl rfl rfl ?_
    refine TL.done ?_
    refine TQ.then ?_
    refine TC.seq ?_
    refine TC.region ?_
    refine TL.fa 0 rfl fc_f104_0_0 rfl rfl ?_
    refine TL.ldA 1 6 [_, _, _, _, _, _] rfl rfl rfl fc_a100_6 rfl rfl ?_
    refine TL.mv (.int _ _) rfl rfl rfl ?_
    refine TL.callD [0] [0] (splitT_ok hM hl h5) ⟨rfl, rfl, rfl, trivial⟩ ⟨rfl, trivial⟩ fc_c220 rfl rfl rfl rfl rfl trivial ?_
    refine TL.mv (.tuple _) rfl rfl rfl ?_
    refine TL.ext (.int _ _) rfl rfl rfl rfl ?_
    refine TL.ext (.int _ _) rfl rfl rfl rfl ?_
    refine TL.asg (.int _ _) rfl rfl rfl ?_
    refine TL.done ?_
    refine TQ.then ?_
    refine TC.seq ?_
    refine TC.region ?_
    refine TL.fa 0 rfl fc_f104_0_0 rfl rfl ?_
    refine TL.ldA 1 6 [_, _, _, _, _, _] rfl rfl rfl fc_a100_6 rfl rfl ?_
    refine TL.mv (.int _ _) rfl rfl rfl ?_
    refine TL.mv (.int _ _) rfl rfl rfl ?_
    refine TL.callD [0] [0] (splitT_ok hM hl (by rw [if_pos q1] at h6; exact h6)) ⟨rfl, rfl, rfl, trivial⟩ ⟨rfl, trivial⟩ fc_c220 rfl rfl rfl rfl rfl trivial ?_
    refine TL.mv (.tuple _) rfl rfl rfl ?_
    refine TL.ext (.int _ _) rfl rfl rfl rfl ?_
    refine TL.ext (.int _ _) rfl rfl rfl rfl ?_
    refine TL.asg (.int _ _) rfl rfl rfl ?_
    refine TL.asg (.int _ _) rfl rfl rfl ?_
    refine TL.done ?_
    refine TQ.then ?_
    refine TC.seq ?_
    refine TC.region ?_
    refine TL.fa 0 rfl fc_f104_0_0 rfl rfl ?_
    refine TL.ldA 1 6 [_, _, _, _, _, _] rfl rfl rfl fc_a100_6 rfl rfl ?_
    refine TL.mv (.int _ _) rfl rfl rfl ?_
    refine TL.callD [0] [0] (splitT_ok hM hl h7) ⟨rfl, rfl, rfl, trivial⟩ ⟨rfl, trivial⟩ fc_c220 rfl rfl rfl rfl rfl trivial ?_
    refine TL.mv (.tuple _) rfl rfl rfl ?_
    refine TL.ext (.int _ _) rfl rfl rfl rfl ?_
    refine TL.ext (.int _ _) rfl rfl rfl rfl ?_
    refine TL.asg (.int _ _) rfl rfl rfl ?_
    refine TL.done ?_
    refine TQ.then ?_
    refine TC.seq ?_
    refine TC.region ?_
    refine TL.fa 0 rfl fc_f104_0_0 rfl rfl ?_
    refine TL.ldA 1 6 [_, _, _, _, _, _] rfl rfl rfl fc_a100_6 rfl rfl ?_
    refine TL.mv (.int _ _) rfl rfl rfl ?_
    refine TL.callD [0] [0] (alone_ok hM hl) ⟨rfl, rfl, trivial⟩ ⟨rfl, trivial⟩ fc_c77 rfl rfl rfl rfl rfl trivial ?_
    refine TL.done ?_
    refine TQ.then ?_
    refine TC.seq ?_
    refine TC.region ?_
    refine TL.fa 0 rfl fc_f104_0_0 rfl rfl ?_
    refine TL.ldA 1 6 [_, _, _, _, _, _] rfl rfl rfl fc_a100_6 rfl rfl ?_
    refine TL.mv (.int _ _) rfl rfl rfl ?_
    refine TL.callD [0] [0] (alone_ok hM hl) ⟨rfl, rfl, trivial⟩ ⟨rfl, trivial⟩ fc_c77 rfl rfl rfl rfl rfl trivial ?_
    refine TL.done ?_
    refine TQ.then ?_
    refine TC.seq ?_
    refine TC.region ?_
    refine TL.mv (.int _ _) rfl rfl rfl ?_
    refine TL.fa 0 rfl fc_f104_0_0 rfl rfl ?_
    refine TL.ldA 1 6 [_, _, _, _, _, _] rfl rfl rfl fc_a100_6 rfl rfl ?_
    refine TL.mv (.int _ _) rfl rfl rfl ?_
    refine TL.mv (.int _ _) rfl rfl rfl ?_
    refine TL.callD [0] [0] (mergeT_ok hM hl h8) ⟨rfl, rfl, rfl, trivial⟩ ⟨rfl, trivial⟩ fc_c197 rfl rfl rfl rfl rfl trivial ?_
    refine TL.asg (.int _ _) rfl rfl rfl ?_
    refine TL.asg (.int _ _) rfl rfl rfl ?_
    refine TL.done ?_
    refine TQ.then ?_
    refine TC.ret ?_
    refine FQ.ret2 (v := (.int _ _)) (x := (.int _ _)) (Bs := [A _]) [0] rfl rfl rfl rfl ⟨rfl, trivial⟩ ?_
    exact ⟨rfl, rfl⟩
  · skip
    refine TL.done ?_
    refine TQ.then ?_
    refine TC.condF rfl ?_
    refine TC.skip ?_
    refine TQ.then ?_
    refine TC.seq ?_
    refine TC.draw [(0, true), (1, true), (2, true), (3, true), (4, true), (6, true), (5, false), (7, false), (8, true), (9, true), (10, true), (11, true), (12, true)] [1] fc_m (by kernel_rfl) ?_
    refine TL.fa 0 rfl fc_f104_0_0 rfl rfl ?_
    refine TL.ldA 1 6 [_, _, _, _, _, _] rfl rfl rfl fc_a100_6 rfl rfl ?_
    refine TL.fa 0 rfl fc_f104_0_0 rfl rfl ?_
    refine TL.ldA 1 6 [_, _, _, _, _, _] rfl rfl rfl fc_a100_6 rfl rfl ?_
    refine TL.mv (.int _ _) rfl rfl rfl ?_
    refine TL.mv (.int _ _) rfl rfl rfl ?_
    refine TL.callD [0] [0] (root_ok hM hl h3) ⟨rfl, rfl, trivial⟩ ⟨rfl, trivial⟩ fc_c134 rfl rfl rfl rfl rfl (.cons rfl rfl trivial) ?_
    refine TL.callD [0] [0] (splitT_ok hM hl (by rw [if_neg q1] at h4; exact h4)) ⟨rfl, rfl, rfl, trivial⟩ ⟨rfl, trivial⟩ fc_c220 rfl rfl rfl rfl rfl (.cons rfl rfl trivial) ?_
    refine TL.mv (.tuple _) rfl rfl rfl ?_
    refine TL.ext (.int _ _) rfl rfl rfl rfl ?_
    refine TL.ext (.int _ _) rfl rfl rfl rfl ?_
    refine TL.asg (.int _ _) rfl rfl rfl ?_
    refine TL.asg (.int _ _) rfl rfl rfl ?_
    refine TL.done ?_
    refine TQ.then ?_
    refine TC.seq ?_
    refine TC.region ?_
    refine TL.fa 0 rfl fc_f104_0_0 rfl rfl ?_
    refine TL.ldA 1 6 [_, _, _, _, _, _] rfl rfl rfl fc_a100_6 rfl rfl ?_
    refine TL.mv (.int _ _) rfl rfl rfl ?_
    refine TL.callD [0] [0] (splitT_ok hM hl h5) ⟨rfl, rfl, rfl, trivial⟩ ⟨rfl, trivial⟩ fc_c220 rfl rfl rfl rfl rfl trivial ?_
    refine TL.mv (.tuple _) rfl rfl rfl ?_
    refine TL.ext (.int _ _) rfl rfl rfl rfl ?_
    refine TL.ext (.int _ _) rfl rfl rfl rfl ?_
    refine TL.asg (.int _ _) rfl rfl rfl ?_
    refine TL.done ?_
    refine TQ.then ?_
    refine TC.seq ?_
    refine TC.region ?_
    refine TL.fa 0 rfl fc_f104_0_0 rfl rfl ?_
    refine TL.ldA 1 6 [_, _, _, _, _, _] rfl rfl rfl fc_a100_6 rfl rfl ?_
    refine TL.mv (.int _ _) rfl rfl rfl ?_
    refine TL.mv (.int _ _) rfl rfl rfl ?_
    refine TL.callD [0] [0] (splitT_ok hM hl (by rw [if_neg q1] at h6; exact h6)) ⟨rfl, rfl, rfl, trivial⟩ ⟨rfl, trivial⟩ fc_c220 rfl rfl rfl rfl rfl trivial ?_
    refine TL.mv (.tuple _) rfl rfl rfl ?_
    refine TL.ext (.int _ _) rfl rfl rfl rfl ?_
    refine TL.ext (.int _ _) rfl rfl rfl rfl ?_
    refine TL.asg (.int _ _) rfl rfl rfl ?_
    refine TL.asg (.int _ _) rfl rfl rfl ?_
    refine TL.done ?_
    refine TQ.then ?_
    refine TC.seq ?_
    refine TC.region ?_
    refine TL.fa 0 rfl fc_f104_0_0 rfl rfl ?_
    refine TL.ldA 1 6 [_, _, _, _, _, _] rfl rfl rfl fc_a100_6 rfl rfl ?_
    refine TL.mv (.int _ _) rfl rfl rfl ?_
    refine TL.callD [0] [0] (splitT_ok hM hl h7) ⟨rfl, rfl, rfl, trivial⟩ ⟨rfl, trivial⟩ fc_c220 rfl rfl rfl rfl rfl trivial ?_
    refine TL.mv (.tuple _) rfl rfl rfl ?_
    refine TL.ext (.int _ _) rfl rfl rfl rfl ?_
    refine TL.ext (.int _ _) rfl rfl rfl rfl ?_
    refine TL.asg (.int _ _) rfl rfl rfl ?_
    refine TL.done ?_
    refine TQ.then ?_
    refine TC.seq ?_
    refine TC.region ?_
    refine TL.fa 0 rfl fc_f104_0_0 rfl rfl ?_
    refine TL.ldA 1 6 [_, _, _, _, _, _] rfl rfl rfl fc_a100_6 rfl rfl ?_
    refine TL.mv (.int _ _) rfl rfl rfl ?_
    refine TL.callD [0] [0] (alone_ok hM hl) ⟨rfl, rfl, trivial⟩ ⟨rfl, trivial⟩ fc_c77 rfl rfl rfl rfl rfl trivial ?_
    refine TL.done ?_
    refine TQ.then ?_
    refine TC.seq ?_
    refine TC.region ?_
    refine TL.fa 0 rfl fc_f104_0_0 rfl rfl ?_
    refine TL.ldA 1 6 [_, _, _, _, _, _] rfl rfl rfl fc_a100_6 rfl rfl ?_
    refine TL.mv (.int _ _) rfl rfl rfl ?_
    refine TL.callD [0] [0] (alone_ok hM hl) ⟨rfl, rfl, trivial⟩ ⟨rfl, trivial⟩ fc_c77 rfl rfl rfl rfl rfl trivial ?_
    refine TL.done ?_
    refine TQ.then ?_
    refine TC.seq ?_
    refine TC.region ?_
    refine TL.mv (.int _ _) rfl rfl rfl ?_
    refine TL.fa 0 rfl fc_f104_0_0 rfl rfl ?_
    refine TL.ldA 1 6 [_, _, _, _, _, _] rfl rfl rfl fc_a100_6 rfl rfl ?_
    refine TL.mv (.int _ _) rfl rfl rfl ?_
    refine TL.mv (.int _ _) rfl rfl rfl ?_
    refine TL.callD [0] [0] (mergeT_ok hM hl h8) ⟨rfl, rfl, rfl, trivial⟩ ⟨rfl, trivial⟩ fc_c197 rfl rfl rfl rfl rfl trivial ?_
    refine TL.asg (.int _ _) rfl rfl rfl ?_
    refine TL.asg (.int _ _) rfl rfl rfl ?_
    refine TL.done ?_
    refine TQ.then ?_
    refine TC.ret ?_
    refine FQ.ret2 (v := (.int _ _)) (x := (.int _ _)) (Bs := [A _]) [0] rfl rfl rfl rfl ⟨rfl, trivial⟩ ?_
    exact ⟨rfl, rfl⟩

theorem bit_ok {b : Bool} : FnD Tryz.prog 152 [.bool b] [] (.int .u64 (bit b)) [] := by
  refine Fn.enter (Tryz.func152) rfl rfl (fun w0 R => ?_)
  refine TC.seq ?_
  refine TC.region ?_
  refine TL.asg (.int _ _) rfl rfl rfl ?_
  refine TL.done ?_
  refine TQ.then ?_
  refine TC.seq ?_
  refine TC.seq ?_
  refine TC.region ?_
  refine TL.mv (.bool _) rfl rfl rfl ?_
  refine TL.cases rfl (fun q1 => ?_) (fun q1 => ?_)
  · skip
    refine TL.done ?_
    refine TQ.then ?_
    refine TC.condT rfl ?_
    refine TC.seq ?_
    refine TC.region ?_
    refine TL.asg (.int _ _) rfl rfl rfl ?_
    refine TL.done ?_
    refine TQ.then ?_
    refine TC.ret ?_
    refine TQ.thenRet ?_
    refine FQ.ret1 (v := (.int _ _)) (Bs := []) [] rfl rfl rfl trivial ?_
    cases b <;> first | exact ⟨rfl, rfl⟩ | (exfalso; simp at q1)
  · skip
    refine TL.done ?_
    refine TQ.then ?_
    refine TC.condF rfl ?_
    refine TC.skip ?_
    refine TQ.then ?_
    refine TC.seq ?_
    refine TC.region ?_
    refine TL.asg (.int _ _) rfl rfl rfl ?_
    refine TL.done ?_
    refine TQ.then ?_
    refine TC.ret ?_
    refine FQ.ret1 (v := (.int _ _)) (Bs := []) [] rfl rfl rfl trivial ?_
    cases b <;> first | exact ⟨rfl, rfl⟩ | (exfalso; simp at q1)

theorem find_ok {S : Type} [MemLike S] {mt : TypeId} {mv : Value} {A : S → Assn} (hM : MemI Tryz.prog mt mv A) {l : Lay} (hl : l.Ok) {σ : S} {u v : Int} : FnD Tryz.prog 80 [edgesV l mt mv, .int .i64 u, .int .i64 v] [A σ] (.tuple #[.int .i64 (find l σ u v).slot, .bool (find l σ u v).tree, .bool (find l σ u v).ok]) [A (findS l σ u v)] := by
  refine Fn.enter (Tryz.func80) rfl rfl (fun w0 R => ?_)
  refine TC.seq ?_
  refine TC.region ?_
  refine TL.boxA 1 rfl rfl rfl (fun _ => trivial) (fun bk1 => ?_)
  refine TL.asg (.int _ _) rfl rfl rfl ?_
  refine TL.asg (.bool false) rfl rfl rfl ?_
  refine TL.asg (.bool false) rfl rfl rfl ?_
  refine TL.done ?_
  refine TQ.then ?_
  refine TC.seq ?_
  refine TC.draw [(0, true), (1, true), (2, true), (3, true), (4, true), (5, true), (7, true), (8, true), (6, false), (9, false), (10, true)] [1] fc_m (by kernel_rfl) ?_
  refine TL.fa 3 rfl fc_f106_1_3 rfl rfl ?_
  refine TL.ld 1 (.iface _ _) rfl rfl rfl fc_s98 rfl rfl ?_
  refine TL.fa 0 rfl fc_f106_0_0 rfl rfl ?_
  refine TL.ldA 1 3 [_, _, _] rfl rfl rfl fc_a45_3 rfl rfl ?_
  refine TL.mv (.int _ _) rfl rfl rfl ?_
  refine TL.mv (.int _ _) rfl rfl rfl ?_
  refine TL.ncI rfl rfl rfl ?_
  refine TL.mv (.iface _ _) rfl rfl rfl ?_
  refine TL.callD [] [] (edge_ok hl) ⟨rfl, rfl, rfl, trivial⟩ trivial fc_c97 rfl rfl rfl rfl rfl (.cons rfl rfl trivial) ?_
  refine TL.mload 0 hM rfl rfl rfl rfl rfl (.cons rfl rfl trivial) ?_
  refine TL.asg (.int _ _) rfl rfl rfl ?_
  refine TL.done ?_
  refine TQ.then ?_
  refine TC.seq ?_
  refine TC.seq ?_
  refine TC.region ?_
  refine TL.mv (.int _ _) rfl rfl rfl ?_
  refine TL.eql rfl rfl rfl rfl (fun q1 => ?_) (fun q1 => ?_)
  · skip
    refine TL.done ?_
    refine TQ.then ?_
    refine TC.condT rfl ?_
    refine TC.seq ?_
    refine TC.region ?_
    refine TL.asg (.int _ _) rfl rfl rfl ?_
    refine TL.asg (.bool false) rfl rfl rfl ?_
    refine TL.asg (.bool false) rfl rfl rfl ?_
    refine TL.done ?_
    refine TQ.then ?_
    refine TC.ret ?_
    refine TQ.thenRet ?_
    refine FQ.ret3 (v := (.int _ _)) (x := (.bool false)) (y := (.bool false)) (Bs := [A _]) [0] rfl rfl rfl rfl rfl ⟨rfl, trivial⟩ ?_
    first | exact ⟨(by unfold find; dsimp only; rw [if_pos q1]), rfl⟩ | exact ⟨(by unfold find; dsimp only; rw [if_neg q1]; rfl), rfl⟩
  · skip
    refine TL.done ?_
    refine TQ.then ?_
    refine TC.condF rfl ?_
    refine TC.skip ?_
    refine TQ.then ?_
    refine TC.seq ?_
    refine TC.region ?_
    refine TL.mv (.int _ _) rfl rfl rfl ?_
    refine TL.shr _ rfl rfl (by decide) rfl rfl rfl ?_
    refine TL.conv _ rfl fc_u33 fc_i3_i64 (rfl) rfl rfl ?_
    refine TL.sub _ rfl rfl (rfl) rfl rfl ?_
    refine TL.mv (.int _ _) rfl rfl rfl ?_
    refine TL.and _ rfl rfl rfl rfl rfl ?_
    refine TL.eqlV rfl rfl rfl rfl ?_
    refine TL.asg (.int _ _) rfl rfl rfl ?_
    refine TL.asg (.bool _) rfl rfl rfl ?_
    refine TL.asg (.bool true) rfl rfl rfl ?_
    refine TL.done ?_
    refine TQ.then ?_
    refine TC.ret ?_
    refine FQ.ret3 (v := (.int _ _)) (x := (.bool _)) (y := (.bool true)) (Bs := [A _]) [0] rfl rfl rfl rfl rfl ⟨rfl, trivial⟩ ?_
    first | exact ⟨(by unfold find; dsimp only; rw [if_pos q1]), rfl⟩ | exact ⟨(by unfold find; dsimp only; rw [if_neg q1]; rfl), rfl⟩

theorem eput_ok {S : Type} [MemLike S] {mt : TypeId} {mv : Value} {A : S → Assn} (hM : MemI Tryz.prog mt mv A) {l : Lay} (hl : l.Ok) {σ : S} {s u v i : Int} {t : Bool} : FnD Tryz.prog 105 [edgesV l mt mv, .int .i64 s, .int .i64 u, .int .i64 v, .int .i64 i, .bool t] [A σ] (.tuple #[]) [A (eput l σ s u v i t)] := by
  refine Fn.enter (Tryz.func105) rfl rfl (fun w0 R => ?_)
  refine TC.seq ?_
  refine TC.region ?_
  refine TL.boxA 1 rfl rfl rfl (fun _ => trivial) (fun bk1 => ?_)
  refine TL.done ?_
  refine TQ.then ?_
  refine TC.seq ?_
  refine TC.draw [(0, true), (1, true), (2, true), (3, true), (4, true), (6, true), (7, true), (8, true), (9, true), (10, true), (11, true), (12, true), (13, true), (14, true), (15, true), (16, true), (5, false), (17, false)] [1] fc_m (by kernel_rfl) ?_
  refine TL.fa 3 rfl fc_f106_1_3 rfl rfl ?_
  refine TL.ld 1 (.iface _ _) rfl rfl rfl fc_s98 rfl rfl ?_
  refine TL.fa 0 rfl fc_f106_0_0 rfl rfl ?_
  refine TL.ldA 1 3 [_, _, _] rfl rfl rfl fc_a45_3 rfl rfl ?_
  refine TL.mv (.int _ _) rfl rfl rfl ?_
  refine TL.mv (.int _ _) rfl rfl rfl ?_
  refine TL.mv (.int _ _) rfl rfl rfl ?_
  refine TL.min2 rfl rfl rfl rfl ?_
  refine TL.shl _ rfl rfl (by decide) rfl rfl rfl ?_
  refine TL.mv (.int _ _) rfl rfl rfl ?_
  refine TL.mv (.int _ _) rfl rfl rfl ?_
  refine TL.max2 rfl rfl rfl rfl ?_
  refine TL.or _ rfl rfl rfl rfl rfl ?_
  refine TL.conv _ rfl fc_u3 fc_i33_u64 (rfl) rfl rfl ?_
  refine TL.ncI rfl rfl rfl ?_
  refine TL.mv (.iface _ _) rfl rfl rfl ?_
  refine TL.callD [] [] (ends_ok hl) ⟨rfl, rfl, trivial⟩ trivial fc_c151 rfl rfl rfl rfl rfl (.cons rfl rfl trivial) ?_
  refine TL.mstore 0 hM rfl rfl rfl (by first | exact wu_rng _ | exact orU_rng _ _ | exact MemLike.rng _ _ | decide | assumption) rfl rfl rfl (.cons rfl rfl trivial) ?_
  refine TL.done ?_
  refine TQ.then ?_
  refine TC.seq ?_
  refine TC.draw [(0, true), (1, true), (2, true), (3, true), (4, true), (6, true), (7, true), (8, true), (9, true), (5, false), (10, false)] [1] fc_m (by kernel_rfl) ?_
  refine TL.fa 3 rfl fc_f106_1_3 rfl rfl ?_
  refine TL.ld 1 (.iface _ _) rfl rfl rfl fc_s98 rfl rfl ?_
  refine TL.fa 0 rfl fc_f106_0_0 rfl rfl ?_
  refine TL.ldA 1 3 [_, _, _] rfl rfl rfl fc_a45_3 rfl rfl ?_
  refine TL.mv (.int _ _) rfl rfl rfl ?_
  refine TL.mv (.int _ _) rfl rfl rfl ?_
  refine TL.conv _ rfl fc_u3 fc_i33_u64 (rfl) rfl rfl ?_
  refine TL.ncI rfl rfl rfl ?_
  refine TL.mv (.iface _ _) rfl rfl rfl ?_
  refine TL.callD [] [] (level_ok hl) ⟨rfl, rfl, trivial⟩ trivial fc_c128 rfl rfl rfl rfl rfl (.cons rfl rfl trivial) ?_
  refine TL.mstore 0 hM rfl rfl rfl (by first | exact wu_rng _ | exact orU_rng _ _ | exact MemLike.rng _ _ | decide | assumption) rfl rfl rfl (.cons rfl rfl trivial) ?_
  refine TL.done ?_
  refine TQ.then ?_
  refine TC.draw [(0, true), (1, true), (2, true), (3, true), (4, true), (5, true), (7, true), (8, true), (9, true), (10, true), (11, true), (14, true), (15, true), (6, false), (12, false), (13, true), (16, false)] [1] fc_m (by kernel_rfl) ?_
  refine TL.fa 3 rfl fc_f106_1_3 rfl rfl ?_
  refine TL.ld 1 (.iface _ _) rfl rfl rfl fc_s98 rfl rfl ?_
  refine TL.fa 0 rfl fc_f106_0_0 rfl rfl ?_
  refine TL.ldA 1 3 [_, _, _] rfl rfl rfl fc_a45_3 rfl rfl ?_
  refine TL.mv (.int _ _) rfl rfl rfl ?_
  refine TL.mv (.int _ _) rfl rfl rfl ?_
  refine TL.mv (.int _ _) rfl rfl rfl ?_
  refine TL.add _ rfl rfl (rfl) rfl rfl ?_
  refine TL.conv _ rfl fc_u3 fc_i33_u64 (rfl) rfl rfl ?_
  refine TL.shl _ rfl rfl (by decide) rfl rfl rfl ?_
  refine TL.mv (.bool _) rfl rfl rfl ?_
  refine TL.ncI rfl rfl rfl ?_
  refine TL.mv (.iface _ _) rfl rfl rfl ?_
  refine TL.callD [] [] (edge_ok hl) ⟨rfl, rfl, rfl, trivial⟩ trivial fc_c97 rfl rfl rfl rfl rfl (.cons rfl rfl trivial) ?_
  refine TL.callD [] [] bit_ok ⟨rfl, trivial⟩ trivial fc_c152 rfl rfl rfl rfl rfl (.cons rfl rfl trivial) ?_
  refine TL.or _ rfl rfl rfl rfl rfl ?_
  refine TL.mstore 0 hM rfl rfl rfl (by first | exact wu_rng _ | exact orU_rng _ _ | exact MemLike.rng _ _ | decide | assumption) rfl rfl rfl (.cons rfl rfl trivial) ?_
  refine TL.done ?_
  refine FQ.end0 (Bs := [A _]) [0] rfl rfl ⟨rfl, trivial⟩ ?_
  exact ⟨rfl, rfl⟩

theorem eremove_ok {S : Type} [MemLike S] {mt : TypeId} {mv : Value} {A : S → Assn} (hM : MemI Tryz.prog mt mv A) {l : Lay} (hl : l.Ok) {σ : S} {u v : Int} : FnD Tryz.prog 232 [edgesV l mt mv, .int .i64 u, .int .i64 v] [A σ] (.tuple #[]) [A (eremove l σ u v)] := by
  refine Fn.enter (Tryz.func232) rfl rfl (fun w0 R => ?_)
  refine TC.seq ?_
  refine TC.region ?_
  refine TL.boxA 1 rfl rfl rfl (fun _ => trivial) (fun bk1 => ?_)
  refine TL.done ?_
  refine TQ.then ?_
  refine TC.draw [(0, true), (1, true), (2, true), (3, true), (4, true), (5, true), (7, true), (8, true), (6, false), (9, false)] [1] fc_m (by kernel_rfl) ?_
  refine TL.fa 3 rfl fc_f106_1_3 rfl rfl ?_
  refine TL.ld 1 (.iface _ _) rfl rfl rfl fc_s98 rfl rfl ?_
  refine TL.fa 0 rfl fc_f106_0_0 rfl rfl ?_
  refine TL.ldA 1 3 [_, _, _] rfl rfl rfl fc_a45_3 rfl rfl ?_
  refine TL.mv (.int _ _) rfl rfl rfl ?_
  refine TL.mv (.int _ _) rfl rfl rfl ?_
  refine TL.ncI rfl rfl rfl ?_
  refine TL.mv (.iface _ _) rfl rfl rfl ?_
  refine TL.callD [] [] (edge_ok hl) ⟨rfl, rfl, rfl, trivial⟩ trivial fc_c97 rfl rfl rfl rfl rfl (.cons rfl rfl trivial) ?_
  refine TL.mstore 0 hM rfl rfl rfl (by first | exact wu_rng _ | exact orU_rng _ _ | exact MemLike.rng _ _ | decide | assumption) rfl rfl rfl (.cons rfl rfl trivial) ?_
  refine TL.done ?_
  refine FQ.end0 (Bs := [A _]) [0] rfl rfl ⟨rfl, trivial⟩ ?_
  exact ⟨rfl, rfl⟩

theorem ends2_ok {S : Type} [MemLike S] {mt : TypeId} {mv : Value} {A : S → Assn} (hM : MemI Tryz.prog mt mv A) {l : Lay} (hl : l.Ok) {σ : S} {s : Int} : FnD Tryz.prog 127 [edgesV l mt mv, .int .i64 s] [A σ] (.tuple #[.int .i64 (endsU l σ s), .int .i64 (endsV l σ s)]) [A (endsS l σ s)] := by
  refine Fn.enter (Tryz.func127) rfl rfl (fun w0 R => ?_)
  refine TC.seq ?_
  refine TC.region ?_
  refine TL.boxA 1 rfl rfl rfl (fun _ => trivial) (fun bk1 => ?_)
  refine TL.asg (.int _ _) rfl rfl rfl ?_
  refine TL.asg (.int _ _) rfl rfl rfl ?_
  refine TL.done ?_
  refine TQ.then ?_
  refine TC.seq ?_
  refine TC.draw [(0, true), (1, true), (2, true), (3, true), (4, true), (6, true), (7, true), (5, false), (8, false), (9, true), (10, true)] [1] fc_m (by kernel_rfl) ?_
  refine TL.fa 3 rfl fc_f106_1_3 rfl rfl ?_
  refine TL.ld 1 (.iface _ _) rfl rfl rfl fc_s98 rfl rfl ?_
  refine TL.fa 0 rfl fc_f106_0_0 rfl rfl ?_
  refine TL.ldA 1 3 [_, _, _] rfl rfl rfl fc_a45_3 rfl rfl ?_
  refine TL.mv (.int _ _) rfl rfl rfl ?_
  refine TL.ncI rfl rfl rfl ?_
  refine TL.mv (.iface _ _) rfl rfl rfl ?_
  refine TL.callD [] [] (ends_ok hl) ⟨rfl, rfl, trivial⟩ trivial fc_c151 rfl rfl rfl rfl rfl (.cons rfl rfl trivial) ?_
  refine TL.mload 0 hM rfl rfl rfl rfl rfl (.cons rfl rfl trivial) ?_
  refine TL.conv _ rfl fc_u33 fc_i3_i64 (rfl) rfl rfl ?_
  refine TL.asg (.int _ _) rfl rfl rfl ?_
  refine TL.done ?_
  refine TQ.then ?_
  refine TC.seq ?_
  refine TC.region ?_
  refine TL.mv (.int _ _) rfl rfl rfl ?_
  refine TL.shr _ rfl rfl (by decide) rfl rfl rfl ?_
  refine TL.mv (.int _ _) rfl rfl rfl ?_
  refine TL.and _ rfl rfl rfl rfl rfl ?_
  refine TL.asg (.int _ _) rfl rfl rfl ?_
  refine TL.asg (.int _ _) rfl rfl rfl ?_
  refine TL.done ?_
  refine TQ.then ?_
  refine TC.ret ?_
  refine FQ.ret2 (v := (.int _ _)) (x := (.int _ _)) (Bs := [A _]) [0] rfl rfl rfl rfl ⟨rfl, trivial⟩ ?_
  exact ⟨rfl, rfl⟩

theorem eget_ok {S : Type} [MemLike S] {mt : TypeId} {mv : Value} {A : S → Assn} (hM : MemI Tryz.prog mt mv A) {l : Lay} (hl : l.Ok) {σ : S} {s : Int} : FnD Tryz.prog 81 [edgesV l mt mv, .int .i64 s] [A σ] (edgV (eget l σ s)) [A (egetS l σ s)] := by
  refine Fn.enter (Tryz.func81) rfl rfl (fun w0 R => ?_)
  refine TC.seq ?_
  refine TC.region ?_
  refine TL.boxA 1 rfl rfl rfl (fun _ => trivial) (fun bk1 => ?_)
  refine TL.alloc 2 (cs := #[.int .i64 0, .int .i64 0, .int .i64 0, .bool false]) fc_z149 rfl rfl rfl (fun _ => trivial) (fun bk2 => ?_)
  refine TL.done ?_
  refine TQ.then ?_
  refine TC.seq ?_
  refine TC.region ?_
  refine TL.ldA 1 4 [_, _, _, _] rfl rfl rfl fc_a106_4 rfl rfl ?_
  refine TL.mv (.int _ _) rfl rfl rfl ?_
  refine TL.callD [0] [0] (ends2_ok hM hl) ⟨rfl, rfl, trivial⟩ ⟨rfl, trivial⟩ fc_c127 rfl rfl rfl rfl rfl trivial ?_
  refine TL.mv (.tuple _) rfl rfl rfl ?_
  refine TL.ext (.int _ _) rfl rfl rfl rfl ?_
  refine TL.ext (.int _ _) rfl rfl rfl rfl ?_
  refine TL.asg (.int _ _) rfl rfl rfl ?_
  refine TL.asg (.int _ _) rfl rfl rfl ?_
  refine TL.done ?_
  refine TQ.then ?_
  refine TC.seq ?_
  refine TC.region ?_
  refine TL.ldA 1 4 [_, _, _, _] rfl rfl rfl fc_a106_4 rfl rfl ?_
  refine TL.mv (.int _ _) rfl rfl rfl ?_
  refine TL.mv (.int _ _) rfl rfl rfl ?_
  refine TL.callD [0] [0] (find_ok hM hl) ⟨rfl, rfl, rfl, trivial⟩ ⟨rfl, trivial⟩ fc_c80 rfl rfl rfl rfl rfl trivial ?_
  refine TL.mv (.tuple _) rfl rfl rfl ?_
  refine TL.ext (.int _ _) rfl rfl rfl rfl ?_
  refine TL.ext (.bool _) rfl rfl rfl rfl ?_
  refine TL.ext (.bool _) rfl rfl rfl rfl ?_
  refine TL.asg (.int _ _) rfl rfl rfl ?_
  refine TL.asg (.bool _) rfl rfl rfl ?_
  refine TL.asg (.bool _) rfl rfl rfl ?_
  refine TL.done ?_
  refine TQ.then ?_
  refine TC.seq ?_
  refine TC.draw [(0, true), (1, true), (2, true), (3, true), (4, true), (5, true), (6, true), (8, true), (9, true), (12, true), (7, false), (10, false), (11, true), (13, true), (14, false)] [1] fc_m (by kernel_rfl) ?_
  refine TL.mv (.int _ _) rfl rfl rfl ?_
  refine TL.mv (.int _ _) rfl rfl rfl ?_
  refine TL.fa 3 rfl fc_f106_1_3 rfl rfl ?_
  refine TL.ld 1 (.iface _ _) rfl rfl rfl fc_s98 rfl rfl ?_
  refine TL.fa 0 rfl fc_f106_0_0 rfl rfl ?_
  refine TL.ldA 1 3 [_, _, _] rfl rfl rfl fc_a45_3 rfl rfl ?_
  refine TL.mv (.int _ _) rfl rfl rfl ?_
  refine TL.ncI rfl rfl rfl ?_
  refine TL.mv (.iface _ _) rfl rfl rfl ?_
  refine TL.mv (.bool _) rfl rfl rfl ?_
  refine TL.callD [] [] (level_ok hl) ⟨rfl, rfl, trivial⟩ trivial fc_c128 rfl rfl rfl rfl rfl (.cons rfl rfl trivial) ?_
  refine TL.mload 0 hM rfl rfl rfl rfl rfl (.cons rfl rfl trivial) ?_
  refine TL.conv _ rfl fc_u33 fc_i3_i64 (rfl) rfl rfl ?_
  refine TL.bld [.int .i64 0, .int .i64 0, .int .i64 0, .bool false] [(.int _ _), (.int _ _), (.int _ _), (.bool _)] [_, _, _, _] fc_z149 fc_q149 ⟨rfl, rfl, rfl, rfl, trivial⟩ ⟨rfl, rfl⟩ rfl rfl ?_
  refine TL.stW 2 4 [_, _, _, _] rfl rfl rfl rfl rfl rfl fc_a149_4 rfl rfl (.cons rfl rfl trivial) ?_
  refine TL.done ?_
  refine TQ.then ?_
  refine TC.ret ?_
  refine FQ.retG (rs := [.cell 4 149]) [(.agg _)] (Bs := [A _]) [0] rfl ⟨⟨_, _, _, _, _, 2, rfl, rfl, .inr ⟨4, [_, _, _, _], fc_a149_4, rfl, rfl⟩⟩, trivial⟩ rfl rfl ⟨rfl, trivial⟩ ?_
  exact ⟨rfl, rfl⟩

theorem eturn_ok {S : Type} [MemLike S] {mt : TypeId} {mv : Value} {A : S → Assn} (hM : MemI Tryz.prog mt mv A) {l : Lay} (hl : l.Ok) {σ : S} {s : Int} {t : Bool} : FnD Tryz.prog 155 [edgesV l mt mv, .int .i64 s, .bool t] [A σ] (.tuple #[]) [A (eturn l σ s t)] := by
  refine Fn.enter (Tryz.func155) rfl rfl (fun w0 R => ?_)
  refine TC.seq ?_
  refine TC.region ?_
  refine TL.boxA 1 rfl rfl rfl (fun _ => trivial) (fun bk1 => ?_)
  refine TL.done ?_
  refine TQ.then ?_
  refine TC.seq ?_
  refine TC.region ?_
  refine TL.ldA 1 4 [_, _, _, _] rfl rfl rfl fc_a106_4 rfl rfl ?_
  refine TL.mv (.int _ _) rfl rfl rfl ?_
  refine TL.callD [0] [0] (ends2_ok hM hl) ⟨rfl, rfl, trivial⟩ ⟨rfl, trivial⟩ fc_c127 rfl rfl rfl rfl rfl trivial ?_
  refine TL.mv (.tuple _) rfl rfl rfl ?_
  refine TL.ext (.int _ _) rfl rfl rfl rfl ?_
  refine TL.ext (.int _ _) rfl rfl rfl rfl ?_
  refine TL.asg (.int _ _) rfl rfl rfl ?_
  refine TL.asg (.int _ _) rfl rfl rfl ?_
  refine TL.done ?_
  refine TQ.then ?_
  refine TC.draw [(0, true), (1, true), (2, true), (3, true), (4, true), (5, true), (7, true), (8, true), (9, true), (10, true), (11, true), (14, true), (15, true), (6, false), (12, false), (13, true), (16, false)] [1] fc_m (by kernel_rfl) ?_
  refine TL.fa 3 rfl fc_f106_1_3 rfl rfl ?_
  refine TL.ld 1 (.iface _ _) rfl rfl rfl fc_s98 rfl rfl ?_
  refine TL.fa 0 rfl fc_f106_0_0 rfl rfl ?_
  refine TL.ldA 1 3 [_, _, _] rfl rfl rfl fc_a45_3 rfl rfl ?_
  refine TL.mv (.int _ _) rfl rfl rfl ?_
  refine TL.mv (.int _ _) rfl rfl rfl ?_
  refine TL.mv (.int _ _) rfl rfl rfl ?_
  refine TL.add _ rfl rfl (rfl) rfl rfl ?_
  refine TL.conv _ rfl fc_u3 fc_i33_u64 (rfl) rfl rfl ?_
  refine TL.shl _ rfl rfl (by decide) rfl rfl rfl ?_
  refine TL.mv (.bool _) rfl rfl rfl ?_
  refine TL.ncI rfl rfl rfl ?_
  refine TL.mv (.iface _ _) rfl rfl rfl ?_
  refine TL.callD [] [] (edge_ok hl) ⟨rfl, rfl, rfl, trivial⟩ trivial fc_c97 rfl rfl rfl rfl rfl (.cons rfl rfl trivial) ?_
  refine TL.callD [] [] bit_ok ⟨rfl, trivial⟩ trivial fc_c152 rfl rfl rfl rfl rfl (.cons rfl rfl trivial) ?_
  refine TL.or _ rfl rfl rfl rfl rfl ?_
  refine TL.mstore 0 hM rfl rfl rfl (by first | exact wu_rng _ | exact orU_rng _ _ | exact MemLike.rng _ _ | decide | assumption) rfl rfl rfl (.cons rfl rfl trivial) ?_
  refine TL.done ?_
  refine FQ.end0 (Bs := [A _]) [0] rfl rfl ⟨rfl, trivial⟩ ?_
  exact ⟨rfl, rfl⟩

theorem elift_ok {S : Type} [MemLike S] {mt : TypeId} {mv : Value} {A : S → Assn} (hM : MemI Tryz.prog mt mv A) {l : Lay} (hl : l.Ok) {σ : S} {s i : Int} : FnD Tryz.prog 251 [edgesV l mt mv, .int .i64 s, .int .i64 i] [A σ] (.tuple #[]) [A (elift l σ s i)] := by
  refine Fn.enter (Tryz.func251) rfl rfl (fun w0 R => ?_)
  refine TC.seq ?_
  refine TC.region ?_
  refine TL.boxA 1 rfl rfl rfl (fun _ => trivial) (fun bk1 => ?_)
  refine TL.done ?_
  refine TQ.then ?_
  refine TC.draw [(0, true), (1, true), (2, true), (3, true), (4, true), (6, true), (7, true), (8, true), (9, true), (5, false), (10, false)] [1] fc_m (by kernel_rfl) ?_
  refine TL.fa 3 rfl fc_f106_1_3 rfl rfl ?_
  refine TL.ld 1 (.iface _ _) rfl rfl rfl fc_s98 rfl rfl ?_
  refine TL.fa 0 rfl fc_f106_0_0 rfl rfl ?_
  refine TL.ldA 1 3 [_, _, _] rfl rfl rfl fc_a45_3 rfl rfl ?_
  refine TL.mv (.int _ _) rfl rfl rfl ?_
  refine TL.mv (.int _ _) rfl rfl rfl ?_
  refine TL.conv _ rfl fc_u3 fc_i33_u64 (rfl) rfl rfl ?_
  refine TL.ncI rfl rfl rfl ?_
  refine TL.mv (.iface _ _) rfl rfl rfl ?_
  refine TL.callD [] [] (level_ok hl) ⟨rfl, rfl, trivial⟩ trivial fc_c128 rfl rfl rfl rfl rfl (.cons rfl rfl trivial) ?_
  refine TL.mstore 0 hM rfl rfl rfl (by first | exact wu_rng _ | exact orU_rng _ _ | exact MemLike.rng _ _ | decide | assumption) rfl rfl rfl (.cons rfl rfl trivial) ?_
  refine TL.done ?_
  refine FQ.end0 (Bs := [A _]) [0] rfl rfl ⟨rfl, trivial⟩ ?_
  exact ⟨rfl, rfl⟩

theorem aget_ok {S : Type} [MemLike S] {mt : TypeId} {mv : Value} {A : S → Assn} (hM : MemI Tryz.prog mt mv A) {l : Lay} (hl : l.Ok) {p : Pen} {σ : S} {c : Int} : FnD Tryz.prog 135 [adjV l mt mv p, .int .i64 c] [A σ] (.int .i64 (aget σ c)) [A (MemLike.ld σ c)] := by
  refine Fn.enter (Tryz.func135) rfl rfl (fun w0 R => ?_)
  refine TC.seq ?_
  refine TC.region ?_
  refine TL.boxA 1 rfl rfl rfl (fun _ => trivial) (fun bk1 => ?_)
  refine TL.asg (.int _ _) rfl rfl rfl ?_
  refine TL.done ?_
  refine TQ.then ?_
  refine TC.seq ?_
  refine TC.region ?_
  refine TL.fa 6 rfl fc_f108_1_6 rfl rfl ?_
  refine TL.fa 3 rfl fc_f106_1_3 rfl rfl ?_
  refine TL.ld 1 (.iface _ _) rfl rfl rfl fc_s98 rfl rfl ?_
  refine TL.mv (.int _ _) rfl rfl rfl ?_
  refine TL.mload 0 hM rfl rfl rfl rfl rfl trivial ?_
  refine TL.conv _ rfl fc_u33 fc_i3_i64 (rfl) rfl rfl ?_
  refine TL.asg (.int _ _) rfl rfl rfl ?_
  refine TL.done ?_
  refine TQ.then ?_
  refine TC.ret ?_
  refine FQ.ret1 (v := (.int _ _)) (Bs := [A _]) [0] rfl rfl rfl ⟨rfl, trivial⟩ ?_
  exact ⟨rfl, rfl⟩

theorem aput_ok {S : Type} [MemLike S] {mt : TypeId} {mv : Value} {A : S → Assn} (hM : MemI Tryz.prog mt mv A) {l : Lay} (hl : l.Ok) {p : Pen} {σ : S} {c v : Int} : FnD Tryz.prog 194 [adjV l mt mv p, .int .i64 c, .int .i64 v] [A σ] (.tuple #[]) [A (MemLike.st σ c (IntKind.u64.wrap v))] := by
  refine Fn.enter (Tryz.func194) rfl rfl (fun w0 R => ?_)
  refine TC.seq ?_
  refine TC.region ?_
  refine TL.boxA 1 rfl rfl rfl (fun _ => trivial) (fun bk1 => ?_)
  refine TL.done ?_
  refine TQ.then ?_
  refine TC.region ?_
  refine TL.fa 6 rfl fc_f108_1_6 rfl rfl ?_
  refine TL.fa 3 rfl fc_f106_1_3 rfl rfl ?_
  refine TL.ld 1 (.iface _ _) rfl rfl rfl fc_s98 rfl rfl ?_
  refine TL.mv (.int _ _) rfl rfl rfl ?_
  refine TL.mv (.int _ _) rfl rfl rfl ?_
  refine TL.conv _ rfl fc_u3 fc_i33_u64 (rfl) rfl rfl ?_
  refine TL.mstore 0 hM rfl rfl rfl (by first | exact wu_rng _ | exact orU_rng _ _ | exact MemLike.rng _ _ | decide | assumption) rfl rfl rfl trivial ?_
  refine TL.done ?_
  refine FQ.end0 (Bs := [A _]) [0] rfl rfl ⟨rfl, trivial⟩ ?_
  exact ⟨rfl, rfl⟩

theorem side_ok {s d : Int} : FnD Tryz.prog 154 [.int .i64 s, .int .i64 d] [] (.int .i64 (side s d)) [] := by
  refine Fn.enter (Tryz.func154) rfl rfl (fun w0 R => ?_)
  refine TC.seq ?_
  refine TC.region ?_
  refine TL.asg (.int _ _) rfl rfl rfl ?_
  refine TL.done ?_
  refine TQ.then ?_
  refine TC.seq ?_
  refine TC.region ?_
  refine TL.mv (.int _ _) rfl rfl rfl ?_
  refine TL.mul _ rfl rfl (rfl) rfl rfl ?_
  refine TL.mv (.int _ _) rfl rfl rfl ?_
  refine TL.add _ rfl rfl (rfl) rfl rfl ?_
  refine TL.add _ rfl rfl (rfl) rfl rfl ?_
  refine TL.asg (.int _ _) rfl rfl rfl ?_
  refine TL.done ?_
  refine TQ.then ?_
  refine TC.ret ?_
  refine FQ.ret1 (v := (.int _ _)) (Bs := []) [] rfl rfl rfl trivial ?_
  exact ⟨rfl, rfl⟩

theorem anext_ok {mt : TypeId} {mv : Value} {l : Lay} (hl : l.Ok) {p : Pen} {x : Int} : FnD Tryz.prog 137 [adjV l mt mv p, .int .i64 x] [] (.int .i64 (anext l x)) [] := by
  refine Fn.enter (Tryz.func137) rfl rfl (fun w0 R => ?_)
  refine TC.seq ?_
  refine TC.region ?_
  refine TL.boxA 0 rfl rfl rfl (fun _ => trivial) (fun bk0 => ?_)
  refine TL.asg (.int _ _) rfl rfl rfl ?_
  refine TL.done ?_
  refine TQ.then ?_
  refine TC.seq ?_
  refine TC.region ?_
  refine TL.fa 6 rfl fc_f108_1_6 rfl rfl ?_
  refine TL.fa 0 rfl fc_f106_0_0 rfl rfl ?_
  refine TL.ldA 0 3 [_, _, _] rfl rfl rfl fc_a45_3 rfl rfl ?_
  refine TL.mv (.int _ _) rfl rfl rfl ?_
  refine TL.sub _ rfl rfl (rfl) rfl rfl ?_
  refine TL.quo _ rfl rfl (by omega) (quo2 _) rfl rfl ?_
  refine TL.mv (.int _ _) rfl rfl rfl ?_
  refine TL.sub _ rfl rfl (rfl) rfl rfl ?_
  refine TL.rem _ rfl rfl (by omega) (rfl) rfl rfl ?_
  refine TL.callD [] [] (next_ok hl) ⟨rfl, rfl, rfl, trivial⟩ trivial fc_c178 rfl rfl rfl rfl rfl trivial ?_
  refine TL.asg (.int _ _) rfl rfl rfl ?_
  refine TL.done ?_
  refine TQ.then ?_
  refine TC.ret ?_
  refine FQ.ret1 (v := (.int _ _)) (Bs := []) [] rfl rfl rfl trivial ?_
  exact ⟨rfl, rfl⟩

theorem aprev_ok {mt : TypeId} {mv : Value} {l : Lay} (hl : l.Ok) {p : Pen} {x : Int} : FnD Tryz.prog 195 [adjV l mt mv p, .int .i64 x] [] (.int .i64 (aprev l x)) [] := by
  refine Fn.enter (Tryz.func195) rfl rfl (fun w0 R => ?_)
  refine TC.seq ?_
  refine TC.region ?_
  refine TL.boxA 0 rfl rfl rfl (fun _ => trivial) (fun bk0 => ?_)
  refine TL.asg (.int _ _) rfl rfl rfl ?_
  refine TL.done ?_
  refine TQ.then ?_
  refine TC.seq ?_
  refine TC.region ?_
  refine TL.fa 6 rfl fc_f108_1_6 rfl rfl ?_
  refine TL.fa 0 rfl fc_f106_0_0 rfl rfl ?_
  refine TL.ldA 0 3 [_, _, _] rfl rfl rfl fc_a45_3 rfl rfl ?_
  refine TL.mv (.int _ _) rfl rfl rfl ?_
  refine TL.sub _ rfl rfl (rfl) rfl rfl ?_
  refine TL.quo _ rfl rfl (by omega) (quo2 _) rfl rfl ?_
  refine TL.mv (.int _ _) rfl rfl rfl ?_
  refine TL.sub _ rfl rfl (rfl) rfl rfl ?_
  refine TL.rem _ rfl rfl (by omega) (rfl) rfl rfl ?_
  refine TL.callD [] [] (prev_ok hl) ⟨rfl, rfl, rfl, trivial⟩ trivial fc_c217 rfl rfl rfl rfl rfl trivial ?_
  refine TL.asg (.int _ _) rfl rfl rfl ?_
  refine TL.done ?_
  refine TQ.then ?_
  refine TC.ret ?_
  refine FQ.ret1 (v := (.int _ _)) (Bs := []) [] rfl rfl rfl trivial ?_
  exact ⟨rfl, rfl⟩

theorem at_Li {ab mb N : Nat} {c : Cnt} {i : Int} (h0 : 0 ≤ i) (h1 : i < N) : Go.Eng.Fn Tryz.prog 29 [.pointer (some ⟨ab, 0, none⟩), .int .i64 i, .pointer (some ⟨ab, 1, none⟩)] [arO ab mb (N) 75 c] (fun v Bs => v = .pointer (some ⟨mb, 0 + i.toNat * 1, none⟩) ∧ ∃ c2, Bs = [arO ab mb (N) 75 c2]) := by
  refine Fn.enter (Tryz.func29) rfl rfl (fun w0 R => ?_)
  refine TC.seq ?_
  refine TC.region ?_
  refine TL.asg (.pointer none) rfl rfl rfl ?_
  refine TL.done ?_
  refine TQ.then ?_
  refine TC.seq ?_
  refine TC.seq ?_
  refine TC.region ?_
  refine TL.mv (.int _ _) rfl rfl rfl ?_
  refine TL.lssF rfl rfl (by omega) rfl rfl ?_
  refine TL.mv (.bool false) rfl rfl rfl ?_
  refine TL.mv (.int _ _) rfl rfl rfl ?_
  refine TL.mv (.pointer (some ⟨_, _, none⟩)) rfl rfl rfl ?_
  refine TL.nc rfl rfl rfl ?_
  refine TL.fa 0 rfl fc_f75_0_0 rfl rfl ?_
  refine TL.ld 0 (.slice _ _ _) rfl rfl rfl fc_s27 rfl rfl ?_
  refine TL.lenS rfl fc_l27_33_1 rfl rfl ?_
  refine TL.geqF rfl rfl (by omega) rfl rfl ?_
  refine TL.pickF (.bool false) rfl rfl rfl rfl ?_
  refine TL.done ?_
  refine TQ.then ?_
  refine TC.condF rfl ?_
  refine TC.skip ?_
  refine TQ.then ?_
  refine TC.seq ?_
  refine TC.region ?_
  refine TL.mv (.pointer (some ⟨_, _, none⟩)) rfl rfl rfl ?_
  refine TL.nc rfl rfl rfl ?_
  refine TL.ld 0 (.int _ _) rfl rfl rfl fc_s3 rfl rfl ?_
  refine TL.add _ rfl rfl (rfl) rfl rfl ?_
  refine TL.nc rfl rfl rfl ?_
  refine TL.st 0 #[_, _, _, _, _, _] (.int _ _) rfl rfl rfl rfl rfl rfl fc_s3 rfl rfl trivial ?_
  refine TL.done ?_
  refine TQ.then ?_
  refine TC.seq ?_
  refine TC.region ?_
  refine TL.mv (.pointer (some ⟨_, _, none⟩)) rfl rfl rfl ?_
  refine TL.nc rfl rfl rfl ?_
  refine TL.fa 0 rfl fc_f75_0_0 rfl rfl ?_
  refine TL.ld 0 (.slice _ _ _) rfl rfl rfl fc_s27 rfl rfl ?_
  refine TL.mv (.int _ _) rfl rfl rfl ?_
  refine TL.ia _ rfl rfl fc_l27_33_1 (by omega) (by omega) rfl rfl rfl ?_
  refine TL.asg (.pointer (some ⟨_, _, none⟩)) rfl rfl rfl ?_
  refine TL.done ?_
  refine TQ.then ?_
  refine TC.ret ?_
  refine FQ.ret1 (v := (.pointer (some ⟨_, _, none⟩))) (Bs := [_]) [0] rfl rfl rfl ⟨rfl, trivial⟩ ?_
  exact ⟨rfl, ⟨IntKind.i64.wrap (c.c1 + 1), c.c2, c.c3, c.c4, c.c5⟩, rfl⟩

theorem at_Lo {ab mb N : Nat} {c : Cnt} {i : Int} (h : ¬ (0 ≤ i ∧ i < N)) : FnD Tryz.prog 29 [.pointer (some ⟨ab, 0, none⟩), .int .i64 i, .pointer (some ⟨ab, 1, none⟩)] [arO ab mb (N) 75 c] (.pointer none) [arO ab mb (N) 75 c] := by
  refine Fn.enter (Tryz.func29) rfl rfl (fun w0 R => ?_)
  refine TC.seq ?_
  refine TC.region ?_
  refine TL.asg (.pointer none) rfl rfl rfl ?_
  refine TL.done ?_
  refine TQ.then ?_
  refine TC.seq ?_
  refine TC.seq ?_
  refine TC.region ?_
  refine TL.mv (.int _ _) rfl rfl rfl ?_
  refine TL.lss rfl rfl rfl rfl (fun q1 => ?_) (fun q1 => ?_)
  · skip
    refine TL.mv (.bool true) rfl rfl rfl ?_
    refine TL.off rfl rfl ?_
    refine TL.off rfl rfl ?_
    refine TL.off rfl rfl ?_
    refine TL.off rfl rfl ?_
    refine TL.off rfl rfl ?_
    refine TL.off rfl rfl ?_
    refine TL.off rfl rfl ?_
    refine TL.pickT (.bool true) rfl rfl rfl rfl ?_
    refine TL.done ?_
    refine TQ.then ?_
    refine TC.condT rfl ?_
    refine TC.seq ?_
    refine TC.region ?_
    refine TL.asg (.pointer none) rfl rfl rfl ?_
    refine TL.done ?_
    refine TQ.then ?_
    refine TC.ret ?_
    refine TQ.thenRet ?_
    refine FQ.ret1 (v := (.pointer none)) (Bs := [_]) [0] rfl rfl rfl ⟨rfl, trivial⟩ ?_
    first | exact ⟨rfl, rfl⟩ | (exfalso; omega)
  · skip
    refine TL.mv (.bool false) rfl rfl rfl ?_
    refine TL.mv (.int _ _) rfl rfl rfl ?_
    refine TL.mv (.pointer (some ⟨_, _, none⟩)) rfl rfl rfl ?_
    refine TL.nc rfl rfl rfl ?_
    refine TL.fa 0 rfl fc_f75_0_0 rfl rfl ?_
    refine TL.ld 0 (.slice _ _ _) rfl rfl rfl fc_s27 rfl rfl ?_
    refine TL.lenS rfl fc_l27_33_1 rfl rfl ?_
    refine TL.geq rfl rfl rfl rfl (fun q2 => ?_) (fun q2 => ?_)
    · skip
      refine TL.pickF (.bool true) rfl rfl rfl rfl ?_
      refine TL.done ?_
      refine TQ.then ?_
      refine TC.condT rfl ?_
      refine TC.seq ?_
      refine TC.region ?_
      refine TL.asg (.pointer none) rfl rfl rfl ?_
      refine TL.done ?_
      refine TQ.then ?_
      refine TC.ret ?_
      refine TQ.thenRet ?_
      refine FQ.ret1 (v := (.pointer none)) (Bs := [_]) [0] rfl rfl rfl ⟨rfl, trivial⟩ ?_
      first | exact ⟨rfl, rfl⟩ | (exfalso; omega)
    · skip
      refine TL.pickF (.bool false) rfl rfl rfl rfl ?_
      refine TL.done ?_
      refine TQ.then ?_
      refine TC.condF rfl ?_
      refine TC.skip ?_
      refine TQ.then ?_
      refine TC.seq ?_
      refine TC.region ?_
      refine TL.mv (.pointer (some ⟨_, _, none⟩)) rfl rfl rfl ?_
      refine TL.nc rfl rfl rfl ?_
      refine TL.ld 0 (.int _ _) rfl rfl rfl fc_s3 rfl rfl ?_
      refine TL.add _ rfl rfl (rfl) rfl rfl ?_
      refine TL.nc rfl rfl rfl ?_
      refine TL.st 0 #[_, _, _, _, _, _] (.int _ _) rfl rfl rfl rfl rfl rfl fc_s3 rfl rfl trivial ?_
      refine TL.done ?_
      refine TQ.then ?_
      refine TC.seq ?_
      refine TC.region ?_
      refine TL.mv (.pointer (some ⟨_, _, none⟩)) rfl rfl rfl ?_
      refine TL.nc rfl rfl rfl ?_
      refine TL.fa 0 rfl fc_f75_0_0 rfl rfl ?_
      refine TL.ld 0 (.slice _ _ _) rfl rfl rfl fc_s27 rfl rfl ?_
      refine TL.mv (.int _ _) rfl rfl rfl ?_
      refine TL.ia _ rfl rfl fc_l27_33_1 (by omega) (by omega) rfl rfl rfl ?_
      refine TL.asg (.pointer (some ⟨_, _, none⟩)) rfl rfl rfl ?_
      refine TL.done ?_
      refine TQ.then ?_
      refine TC.ret ?_
      refine FQ.ret1 (v := (.pointer (some ⟨_, _, none⟩))) (Bs := [_]) [0] rfl rfl rfl ⟨rfl, trivial⟩ ?_
      first | exact ⟨rfl, rfl⟩ | (exfalso; omega)

theorem at_Si {ab mb N : Nat} {c : Cnt} {i : Int} (h0 : 0 ≤ i) (h1 : i < N) : Go.Eng.Fn Tryz.prog 29 [.pointer (some ⟨ab, 0, none⟩), .int .i64 i, .pointer (some ⟨ab, 2, none⟩)] [arO ab mb (N) 75 c] (fun v Bs => v = .pointer (some ⟨mb, 0 + i.toNat * 1, none⟩) ∧ ∃ c2, Bs = [arO ab mb (N) 75 c2]) := by
  refine Fn.enter (Tryz.func29) rfl rfl (fun w0 R => ?_)
  refine TC.seq ?_
  refine TC.region ?_
  refine TL.asg (.pointer none) rfl rfl rfl ?_
  refine TL.done ?_
  refine TQ.then ?_
  refine TC.seq ?_
  refine TC.seq ?_
  refine TC.region ?_
  refine TL.mv (.int _ _) rfl rfl rfl ?_
  refine TL.lssF rfl rfl (by omega) rfl rfl ?_
  refine TL.mv (.bool false) rfl rfl rfl ?_
  refine TL.mv (.int _ _) rfl rfl rfl ?_
  refine TL.mv (.pointer (some ⟨_, _, none⟩)) rfl rfl rfl ?_
  refine TL.nc rfl rfl rfl ?_
  refine TL.fa 0 rfl fc_f75_0_0 rfl rfl ?_
  refine TL.ld 0 (.slice _ _ _) rfl rfl rfl fc_s27 rfl rfl ?_
  refine TL.lenS rfl fc_l27_33_1 rfl rfl ?_
  refine TL.geqF rfl rfl (by omega) rfl rfl ?_
  refine TL.pickF (.bool false) rfl rfl rfl rfl ?_
  refine TL.done ?_
  refine TQ.then ?_
  refine TC.condF rfl ?_
  refine TC.skip ?_
  refine TQ.then ?_
  refine TC.seq ?_
  refine TC.region ?_
  refine TL.mv (.pointer (some ⟨_, _, none⟩)) rfl rfl rfl ?_
  refine TL.nc rfl rfl rfl ?_
  refine TL.ld 0 (.int _ _) rfl rfl rfl fc_s3 rfl rfl ?_
  refine TL.add _ rfl rfl (rfl) rfl rfl ?_
  refine TL.nc rfl rfl rfl ?_
  refine TL.st 0 #[_, _, _, _, _, _] (.int _ _) rfl rfl rfl rfl rfl rfl fc_s3 rfl rfl trivial ?_
  refine TL.done ?_
  refine TQ.then ?_
  refine TC.seq ?_
  refine TC.region ?_
  refine TL.mv (.pointer (some ⟨_, _, none⟩)) rfl rfl rfl ?_
  refine TL.nc rfl rfl rfl ?_
  refine TL.fa 0 rfl fc_f75_0_0 rfl rfl ?_
  refine TL.ld 0 (.slice _ _ _) rfl rfl rfl fc_s27 rfl rfl ?_
  refine TL.mv (.int _ _) rfl rfl rfl ?_
  refine TL.ia _ rfl rfl fc_l27_33_1 (by omega) (by omega) rfl rfl rfl ?_
  refine TL.asg (.pointer (some ⟨_, _, none⟩)) rfl rfl rfl ?_
  refine TL.done ?_
  refine TQ.then ?_
  refine TC.ret ?_
  refine FQ.ret1 (v := (.pointer (some ⟨_, _, none⟩))) (Bs := [_]) [0] rfl rfl rfl ⟨rfl, trivial⟩ ?_
  exact ⟨rfl, ⟨c.c1, IntKind.i64.wrap (c.c2 + 1), c.c3, c.c4, c.c5⟩, rfl⟩

theorem at_So {ab mb N : Nat} {c : Cnt} {i : Int} (h : ¬ (0 ≤ i ∧ i < N)) : FnD Tryz.prog 29 [.pointer (some ⟨ab, 0, none⟩), .int .i64 i, .pointer (some ⟨ab, 2, none⟩)] [arO ab mb (N) 75 c] (.pointer none) [arO ab mb (N) 75 c] := by
  refine Fn.enter (Tryz.func29) rfl rfl (fun w0 R => ?_)
  refine TC.seq ?_
  refine TC.region ?_
  refine TL.asg (.pointer none) rfl rfl rfl ?_
  refine TL.done ?_
  refine TQ.then ?_
  refine TC.seq ?_
  refine TC.seq ?_
  refine TC.region ?_
  refine TL.mv (.int _ _) rfl rfl rfl ?_
  refine TL.lss rfl rfl rfl rfl (fun q1 => ?_) (fun q1 => ?_)
  · skip
    refine TL.mv (.bool true) rfl rfl rfl ?_
    refine TL.off rfl rfl ?_
    refine TL.off rfl rfl ?_
    refine TL.off rfl rfl ?_
    refine TL.off rfl rfl ?_
    refine TL.off rfl rfl ?_
    refine TL.off rfl rfl ?_
    refine TL.off rfl rfl ?_
    refine TL.pickT (.bool true) rfl rfl rfl rfl ?_
    refine TL.done ?_
    refine TQ.then ?_
    refine TC.condT rfl ?_
    refine TC.seq ?_
    refine TC.region ?_
    refine TL.asg (.pointer none) rfl rfl rfl ?_
    refine TL.done ?_
    refine TQ.then ?_
    refine TC.ret ?_
    refine TQ.thenRet ?_
    refine FQ.ret1 (v := (.pointer none)) (Bs := [_]) [0] rfl rfl rfl ⟨rfl, trivial⟩ ?_
    first | exact ⟨rfl, rfl⟩ | (exfalso; omega)
  · skip
    refine TL.mv (.bool false) rfl rfl rfl ?_
    refine TL.mv (.int _ _) rfl rfl rfl ?_
    refine TL.mv (.pointer (some ⟨_, _, none⟩)) rfl rfl rfl ?_
    refine TL.nc rfl rfl rfl ?_
    refine TL.fa 0 rfl fc_f75_0_0 rfl rfl ?_
    refine TL.ld 0 (.slice _ _ _) rfl rfl rfl fc_s27 rfl rfl ?_
    refine TL.lenS rfl fc_l27_33_1 rfl rfl ?_
    refine TL.geq rfl rfl rfl rfl (fun q2 => ?_) (fun q2 => ?_)
    · skip
      refine TL.pickF (.bool true) rfl rfl rfl rfl ?_
      refine TL.done ?_
      refine TQ.then ?_
      refine TC.condT rfl ?_
      refine TC.seq ?_
      refine TC.region ?_
      refine TL.asg (.pointer none) rfl rfl rfl ?_
      refine TL.done ?_
      refine TQ.then ?_
      refine TC.ret ?_
      refine TQ.thenRet ?_
      refine FQ.ret1 (v := (.pointer none)) (Bs := [_]) [0] rfl rfl rfl ⟨rfl, trivial⟩ ?_
      first | exact ⟨rfl, rfl⟩ | (exfalso; omega)
    · skip
      refine TL.pickF (.bool false) rfl rfl rfl rfl ?_
      refine TL.done ?_
      refine TQ.then ?_
      refine TC.condF rfl ?_
      refine TC.skip ?_
      refine TQ.then ?_
      refine TC.seq ?_
      refine TC.region ?_
      refine TL.mv (.pointer (some ⟨_, _, none⟩)) rfl rfl rfl ?_
      refine TL.nc rfl rfl rfl ?_
      refine TL.ld 0 (.int _ _) rfl rfl rfl fc_s3 rfl rfl ?_
      refine TL.add _ rfl rfl (rfl) rfl rfl ?_
      refine TL.nc rfl rfl rfl ?_
      refine TL.st 0 #[_, _, _, _, _, _] (.int _ _) rfl rfl rfl rfl rfl rfl fc_s3 rfl rfl trivial ?_
      refine TL.done ?_
      refine TQ.then ?_
      refine TC.seq ?_
      refine TC.region ?_
      refine TL.mv (.pointer (some ⟨_, _, none⟩)) rfl rfl rfl ?_
      refine TL.nc rfl rfl rfl ?_
      refine TL.fa 0 rfl fc_f75_0_0 rfl rfl ?_
      refine TL.ld 0 (.slice _ _ _) rfl rfl rfl fc_s27 rfl rfl ?_
      refine TL.mv (.int _ _) rfl rfl rfl ?_
      refine TL.ia _ rfl rfl fc_l27_33_1 (by omega) (by omega) rfl rfl rfl ?_
      refine TL.asg (.pointer (some ⟨_, _, none⟩)) rfl rfl rfl ?_
      refine TL.done ?_
      refine TQ.then ?_
      refine TC.ret ?_
      refine FQ.ret1 (v := (.pointer (some ⟨_, _, none⟩))) (Bs := [_]) [0] rfl rfl rfl ⟨rfl, trivial⟩ ?_
      first | exact ⟨rfl, rfl⟩ | (exfalso; omega)

theorem aLoad_i {ab mb : Nat} {σ : Array UInt64} {c : Cnt} {i : Int} (h0 : 0 ≤ i) (h1 : i < σ.size) : Go.Eng.Fn Tryz.prog 16 [.pointer (some ⟨ab, 0, none⟩), .int .i64 i] [arO ab mb (σ.size) 75 c, pt mb (.cells (encM (σ)) 33)] (fun v Bs => v = .tuple #[.int .u64 (MemLike.get σ i), .int .i64 0] ∧ ∃ c2, Bs = [arO ab mb (σ.size) 75 c2, pt mb (.cells (encM (σ)) 33)]) := by
  refine Fn.enter (Tryz.func16) rfl rfl (fun w0 R => ?_)
  refine TC.seq ?_
  refine TC.region ?_
  refine TL.asg (.int _ _) rfl rfl rfl ?_
  refine TL.asg (.int _ _) rfl rfl rfl ?_
  refine TL.done ?_
  refine TQ.then ?_
  refine TC.seq ?_
  refine TC.region ?_
  refine TL.mv (.pointer (some ⟨_, _, none⟩)) rfl rfl rfl ?_
  refine TL.mv (.int _ _) rfl rfl rfl ?_
  refine TL.mv (.pointer (some ⟨_, _, none⟩)) rfl rfl rfl ?_
  refine TL.nc rfl rfl rfl ?_
  refine TL.fa 1 rfl fc_f75_1_1 rfl rfl ?_
  refine TL.fa 0 rfl fc_f73_0_0 rfl rfl ?_
  refine TL.call [0] [0] (at_Li h0 h1) ⟨rfl, rfl, rfl, trivial⟩ ⟨rfl, trivial⟩ fc_c29 rfl rfl rfl rfl ?_
  rintro v Bs ⟨rfl, c2, rfl⟩
  refine ⟨rfl, trivial, ?_⟩
  refine TL.asg (.pointer (some ⟨_, _, none⟩)) rfl rfl rfl ?_
  refine TL.done ?_
  refine TQ.then ?_
  refine TC.seq ?_
  refine TC.seq ?_
  refine TC.region ?_
  refine TL.mv (.pointer (some ⟨_, _, none⟩)) rfl rfl rfl ?_
  refine TL.nilP false rfl rfl fc_p76 rfl rfl rfl ?_
  refine TL.done ?_
  refine TQ.then ?_
  refine TC.condF rfl ?_
  refine TC.skip ?_
  refine TQ.then ?_
  refine TC.seq ?_
  refine TC.region ?_
  refine TL.mv (.pointer (some ⟨_, _, none⟩)) rfl rfl rfl ?_
  refine TL.nc rfl rfl rfl ?_
  refine TL.ldM 1 rfl rfl (by omega) (by omega) fc_s33 rfl rfl ?_
  refine TL.asg (.int _ _) rfl rfl rfl ?_
  refine TL.asg (.int _ _) rfl rfl rfl ?_
  refine TL.done ?_
  refine TQ.then ?_
  refine TC.ret ?_
  refine FQ.ret2 (v := (.int _ _)) (x := (.int _ _)) (Bs := [_, _]) [0, 1] rfl rfl rfl rfl ⟨rfl, rfl, trivial⟩ ?_
  exact ⟨rfl, _, rfl⟩

theorem aLoad_o {ab mb : Nat} {σ : Array UInt64} {c : Cnt} {i : Int} (h : ¬ (0 ≤ i ∧ i < σ.size)) : Go.Eng.Fn Tryz.prog 16 [.pointer (some ⟨ab, 0, none⟩), .int .i64 i] [arO ab mb (σ.size) 75 c, pt mb (.cells (encM (σ)) 33)] (fun v Bs => v = .tuple #[.int .u64 (MemLike.get σ i), .int .i64 20] ∧ ∃ c2, Bs = [arO ab mb (σ.size) 75 c2, pt mb (.cells (encM (σ)) 33)]) := by
  refine Fn.enter (Tryz.func16) rfl rfl (fun w0 R => ?_)
  refine TC.seq ?_
  refine TC.region ?_
  refine TL.asg (.int _ _) rfl rfl rfl ?_
  refine TL.asg (.int _ _) rfl rfl rfl ?_
  refine TL.done ?_
  refine TQ.then ?_
  refine TC.seq ?_
  refine TC.region ?_
  refine TL.mv (.pointer (some ⟨_, _, none⟩)) rfl rfl rfl ?_
  refine TL.mv (.int _ _) rfl rfl rfl ?_
  refine TL.mv (.pointer (some ⟨_, _, none⟩)) rfl rfl rfl ?_
  refine TL.nc rfl rfl rfl ?_
  refine TL.fa 1 rfl fc_f75_1_1 rfl rfl ?_
  refine TL.fa 0 rfl fc_f73_0_0 rfl rfl ?_
  refine TL.callD [0] [0] (at_Lo h) ⟨rfl, rfl, rfl, trivial⟩ ⟨rfl, trivial⟩ fc_c29 rfl rfl rfl rfl rfl trivial ?_
  refine TL.asg (.pointer none) rfl rfl rfl ?_
  refine TL.done ?_
  refine TQ.then ?_
  refine TC.seq ?_
  refine TC.seq ?_
  refine TC.region ?_
  refine TL.mv (.pointer none) rfl rfl rfl ?_
  refine TL.nilP true rfl rfl fc_p76 rfl rfl rfl ?_
  refine TL.done ?_
  refine TQ.then ?_
  refine TC.condT rfl ?_
  refine TC.seq ?_
  refine TC.region ?_
  refine TL.asg (.int _ _) rfl rfl rfl ?_
  refine TL.asg (.int _ _) rfl rfl rfl ?_
  refine TL.done ?_
  refine TQ.then ?_
  refine TC.ret ?_
  refine TQ.thenRet ?_
  refine FQ.ret2 (v := (.int _ _)) (x := (.int _ _)) (Bs := [_, _]) [0, 1] rfl rfl rfl rfl ⟨rfl, rfl, trivial⟩ ?_
  exact ⟨by rw [am_get, if_neg h], _, rfl⟩

theorem aStore_i {ab mb : Nat} {σ : Array UInt64} {c : Cnt} {i : Int} (h0 : 0 ≤ i) (h1 : i < σ.size) {y : Int} (hv : 0 ≤ y ∧ y < 18446744073709551616) : Go.Eng.Fn Tryz.prog 10 [.pointer (some ⟨ab, 0, none⟩), .int .i64 i, .int .u64 y] [arO ab mb (σ.size) 75 c, pt mb (.cells (encM (σ)) 33)] (fun v Bs => v = .int .i64 0 ∧ ∃ c2, Bs = [arO ab mb (σ.size) 75 c2, pt mb (.cells (encM (MemLike.st σ i y)) 33)]) := by
  refine Fn.enter (Tryz.func10) rfl rfl (fun w0 R => ?_)
  refine TC.seq ?_
  refine TC.region ?_
  refine TL.asg (.int _ _) rfl rfl rfl ?_
  refine TL.done ?_
  refine TQ.then ?_
  refine TC.seq ?_
  refine TC.region ?_
  refine TL.mv (.pointer (some ⟨_, _, none⟩)) rfl rfl rfl ?_
  refine TL.mv (.int _ _) rfl rfl rfl ?_
  refine TL.mv (.pointer (some ⟨_, _, none⟩)) rfl rfl rfl ?_
  refine TL.nc rfl rfl rfl ?_
  refine TL.fa 1 rfl fc_f75_1_1 rfl rfl ?_
  refine TL.fa 1 rfl fc_f73_1_1 rfl rfl ?_
  refine TL.call [0] [0] (at_Si h0 h1) ⟨rfl, rfl, rfl, trivial⟩ ⟨rfl, trivial⟩ fc_c29 rfl rfl rfl rfl ?_
  rintro v Bs ⟨rfl, c2, rfl⟩
  refine ⟨rfl, trivial, ?_⟩
  refine TL.asg (.pointer (some ⟨_, _, none⟩)) rfl rfl rfl ?_
  refine TL.done ?_
  refine TQ.then ?_
  refine TC.seq ?_
  refine TC.seq ?_
  refine TC.region ?_
  refine TL.mv (.pointer (some ⟨_, _, none⟩)) rfl rfl rfl ?_
  refine TL.nilP false rfl rfl fc_p76 rfl rfl rfl ?_
  refine TL.done ?_
  refine TQ.then ?_
  refine TC.condF rfl ?_
  refine TC.skip ?_
  refine TQ.then ?_
  refine TC.seq ?_
  refine TC.region ?_
  refine TL.mv (.pointer (some ⟨_, _, none⟩)) rfl rfl rfl ?_
  refine TL.mv (.int _ _) rfl rfl rfl ?_
  refine TL.nc rfl rfl rfl ?_
  refine TL.stM 1 rfl rfl rfl (by omega) (by omega) (by omega) fc_s33 rfl rfl trivial ?_
  refine TL.done ?_
  refine TQ.then ?_
  refine TC.seq ?_
  refine TC.region ?_
  refine TL.asg (.int _ _) rfl rfl rfl ?_
  refine TL.done ?_
  refine TQ.then ?_
  refine TC.ret ?_
  refine FQ.ret1 (v := (.int _ _)) (Bs := [_, _]) [0, 1] rfl rfl rfl ⟨rfl, rfl, trivial⟩ ?_
  exact ⟨rfl, _, rfl⟩

theorem aStore_o {ab mb : Nat} {σ : Array UInt64} {c : Cnt} {i : Int} (h : ¬ (0 ≤ i ∧ i < σ.size)) {y : Int} (hv : 0 ≤ y ∧ y < 18446744073709551616) : Go.Eng.Fn Tryz.prog 10 [.pointer (some ⟨ab, 0, none⟩), .int .i64 i, .int .u64 y] [arO ab mb (σ.size) 75 c, pt mb (.cells (encM (σ)) 33)] (fun v Bs => v = .int .i64 20 ∧ ∃ c2, Bs = [arO ab mb (σ.size) 75 c2, pt mb (.cells (encM (MemLike.st σ i y)) 33)]) := by
  have hst : (MemLike.st σ i y : Array UInt64) = σ := by rw [am_st, if_neg h]
  refine Fn.enter (Tryz.func10) rfl rfl (fun w0 R => ?_)
  refine TC.seq ?_
  refine TC.region ?_
  refine TL.asg (.int _ _) rfl rfl rfl ?_
  refine TL.done ?_
  refine TQ.then ?_
  refine TC.seq ?_
  refine TC.region ?_
  refine TL.mv (.pointer (some ⟨_, _, none⟩)) rfl rfl rfl ?_
  refine TL.mv (.int _ _) rfl rfl rfl ?_
  refine TL.mv (.pointer (some ⟨_, _, none⟩)) rfl rfl rfl ?_
  refine TL.nc rfl rfl rfl ?_
  refine TL.fa 1 rfl fc_f75_1_1 rfl rfl ?_
  refine TL.fa 1 rfl fc_f73_1_1 rfl rfl ?_
  refine TL.callD [0] [0] (at_So h) ⟨rfl, rfl, rfl, trivial⟩ ⟨rfl, trivial⟩ fc_c29 rfl rfl rfl rfl rfl trivial ?_
  refine TL.asg (.pointer none) rfl rfl rfl ?_
  refine TL.done ?_
  refine TQ.then ?_
  refine TC.seq ?_
  refine TC.seq ?_
  refine TC.region ?_
  refine TL.mv (.pointer none) rfl rfl rfl ?_
  refine TL.nilP true rfl rfl fc_p76 rfl rfl rfl ?_
  refine TL.done ?_
  refine TQ.then ?_
  refine TC.condT rfl ?_
  refine TC.seq ?_
  refine TC.region ?_
  refine TL.asg (.int _ _) rfl rfl rfl ?_
  refine TL.done ?_
  refine TQ.then ?_
  refine TC.ret ?_
  refine TQ.thenRet ?_
  refine FQ.ret1 (v := (.int _ _)) (Bs := [_, _]) [0, 1] rfl rfl rfl ⟨rfl, rfl, trivial⟩ ?_
  exact ⟨rfl, _, by rw [hst]⟩

theorem aload_ok {ab mb : Nat} {σ : Array UInt64} {i : Int} : FnD Tryz.prog 16 [.pointer (some ⟨ab, 0, none⟩), .int .i64 i] [arenaA ab mb 75 33 (σ)] (.tuple #[.int .u64 (MemLike.get σ i), .int .i64 (if 0 ≤ i ∧ i < σ.size then 0 else 20)]) [arenaA ab mb 75 33 (σ)] := by
  by_cases h : 0 ≤ i ∧ i < σ.size
  · rw [if_pos h]; exact Fn.arena rfl fun c => aLoad_i h.1 h.2
  · rw [if_neg h]; exact Fn.arena rfl fun c => aLoad_o h
theorem astore_ok {ab mb : Nat} {σ : Array UInt64} {i v : Int} (hv : 0 ≤ v ∧ v < 18446744073709551616) : FnD Tryz.prog 10 [.pointer (some ⟨ab, 0, none⟩), .int .i64 i, .int .u64 v] [arenaA ab mb 75 33 (σ)] (.int .i64 (if 0 ≤ i ∧ i < σ.size then 0 else 20)) [arenaA ab mb 75 33 (MemLike.st σ i v)] := by
  by_cases h : 0 ≤ i ∧ i < σ.size
  · rw [if_pos h]; exact Fn.arena (arr_st_size _ _ _) fun c => aStore_i h.1 h.2 hv
  · rw [if_neg h]; exact Fn.arena (arr_st_size _ _ _) fun c => aStore_o h hv

theorem pload_ok {ab mb : Nat} {σ : Array UInt64} {i : Int} : FnD Tryz.prog 270 [.agg #[.pointer (some ⟨ab, 0, none⟩)], .int .i64 i] [arenaA ab mb 75 33 (σ)] (.int .u64 (MemLike.get σ i)) [arenaA ab mb 75 33 (σ)] := by
  refine Fn.enter (Tryz.func270) rfl rfl (fun w0 R => ?_)
  refine TC.seq ?_
  refine TC.region ?_
  refine TL.boxA 1 rfl rfl rfl (fun _ => trivial) (fun bk1 => ?_)
  refine TL.asg (.int _ _) rfl rfl rfl ?_
  refine TL.done ?_
  refine TQ.then ?_
  refine TC.seq ?_
  refine TC.region ?_
  refine TL.fa 0 rfl fc_f85_0_0 rfl rfl ?_
  refine TL.ld 1 (.pointer (some ⟨_, _, none⟩)) rfl rfl rfl fc_s29 rfl rfl ?_
  refine TL.mv (.int _ _) rfl rfl rfl ?_
  refine TL.callD [0] [0] aload_ok ⟨rfl, rfl, trivial⟩ ⟨rfl, trivial⟩ fc_c16 rfl rfl rfl rfl rfl trivial ?_
  refine TL.mv (.tuple _) rfl rfl rfl ?_
  refine TL.ext (.int _ _) rfl rfl rfl rfl ?_
  refine TL.ext (.int _ _) rfl rfl rfl rfl ?_
  refine TL.asg (.int _ _) rfl rfl rfl ?_
  refine TL.asg (.int _ _) rfl rfl rfl ?_
  refine TL.done ?_
  refine TQ.then ?_
  refine TC.seq ?_
  refine TC.region ?_
  refine TL.mv (.int _ _) rfl rfl rfl ?_
  refine TL.asg (.int _ _) rfl rfl rfl ?_
  refine TL.done ?_
  refine TQ.then ?_
  refine TC.ret ?_
  refine FQ.ret1 (v := (.int _ _)) (Bs := [arenaA ab mb 75 33 (σ)]) [0] rfl rfl rfl ⟨rfl, trivial⟩ ?_
  exact ⟨rfl, rfl⟩

theorem pstore_ok {ab mb : Nat} {σ : Array UInt64} {i : Int} {y : Int} (hv : 0 ≤ y ∧ y < 18446744073709551616) : FnD Tryz.prog 271 [.agg #[.pointer (some ⟨ab, 0, none⟩)], .int .i64 i, .int .u64 y] [arenaA ab mb 75 33 (σ)] (.tuple #[]) [arenaA ab mb 75 33 (MemLike.st σ i y)] := by
  refine Fn.enter (Tryz.func271) rfl rfl (fun w0 R => ?_)
  refine TC.seq ?_
  refine TC.region ?_
  refine TL.boxA 1 rfl rfl rfl (fun _ => trivial) (fun bk1 => ?_)
  refine TL.done ?_
  refine TQ.then ?_
  refine TC.region ?_
  refine TL.fa 0 rfl fc_f85_0_0 rfl rfl ?_
  refine TL.ld 1 (.pointer (some ⟨_, _, none⟩)) rfl rfl rfl fc_s29 rfl rfl ?_
  refine TL.mv (.int _ _) rfl rfl rfl ?_
  refine TL.mv (.int _ _) rfl rfl rfl ?_
  refine TL.callD [0] [0] (astore_ok hv) ⟨rfl, rfl, rfl, trivial⟩ ⟨rfl, trivial⟩ fc_c10 rfl rfl rfl rfl rfl trivial ?_
  refine TL.done ?_
  refine FQ.end0 (Bs := [_]) [0] rfl rfl ⟨rfl, trivial⟩ ?_
  exact ⟨rfl, rfl⟩

theorem plainM {ab mb : Nat} : MemI (S := Array UInt64) Tryz.prog 85 (.agg #[.pointer (some ⟨ab, 0, none⟩)]) (arenaA ab mb 75 33) :=
  ⟨⟨270, _, meth_val (by kernel_rfl) (by kernel_rfl), fun _ _ => pload_ok⟩, ⟨271, _, meth_val (by kernel_rfl) (by kernel_rfl), fun _ _ _ hv => pstore_ok hv⟩⟩


end Go.Proofs.YtfogkdaomfmbcaaGreat
