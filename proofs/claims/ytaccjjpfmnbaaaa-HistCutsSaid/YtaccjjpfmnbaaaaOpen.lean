/-
  How a slice of answers that is an argument is read: its elements lie in one block of the memory, each of nine cells.
-/
import Derived.Test.YtaccjjpfmnbaaaaRows
import Derived.Test.YtaccjjpfmnbaaaaConA
import Derived.ProofKit
import Derived.Lib.SmallJoins
import Derived.OpenShut
set_option linter.unusedVariables false
set_option linter.unusedSimpArgs false
namespace Go.Proofs.Ytaccjjpfmnbaaaa
open Go.ChangeShapes Go.WideShapes Go.ChangeAt Go.RowKit Go.Joins Go.Eng

theorem in64 {x : Int} (h : (Lit.int .i64 x).wf = true) : -9223372036854775808 ≤ x ∧ x < 9223372036854775808 := by have := bounds_i64 h; omega
theorem Try.own : ownKnob Try.prog.godebug = none := by kernel_rfl
theorem Try.laidOut : laidOutB Try.prog = true := by kernel_rfl
theorem Try.cells29 : Try.prog.cellsOf 29 = 9 := by kernel_rfl
theorem Try.cells26 : Try.prog.cellsOf 26 = 3 := by kernel_rfl
theorem Try.cells3 : Try.prog.cellsOf 3 = 1 := by kernel_rfl
theorem Try.cells4 : Try.prog.cellsOf 4 = 1 := by kernel_rfl
theorem Try.cells27 : Try.prog.cellsOf 27 = 1 := by kernel_rfl
def fieldOf (P : Program) (t i : Nat) : Option (Nat × Nat) :=
  match P.underlying t with
  | some (.struct fs) => (fs[i]?).map fun f => (f.type, f.offset)
  | _ => none
theorem fieldOf_spec {P : Program} {t i ty off : Nat} {fs : Array Field} (ht : P.underlying t = some (.struct fs)) (h : fieldOf P t i = some (ty, off)) : ∃ f, fs[i]? = some f ∧ f.type = ty ∧ f.offset = off := by
  unfold fieldOf at h
  rw [ht] at h
  dsimp only at h
  cases hf : fs[i]? with
  | none => rw [hf] at h; cases h
  | some f => rw [hf] at h; simp at h; exact ⟨f, rfl, h.1, h.2⟩
def structB (P : Program) (t : Nat) : Bool := match P.underlying t with | some (.struct _) => true | _ => false
theorem structB_spec {P : Program} {t : Nat} (h : structB P t = true) : ∃ fs, P.underlying t = some (.struct fs) := by
  unfold structB at h
  split at h
  · exact ⟨_, by assumption⟩
  · cases h
section
variable {H : Type} {enc : TypeId × Value → H} {W : World} {base fuel : Nat} {spare : Nat → Bool} {held : Bool}
theorem trod_field {P : Program} {t i ty off : Nat} {cs : List Value} {x : DataW H × List MemPlace} (hs : structB P t = true) (hf : fieldOf P t i = some (ty, off)) (h : DataW.trod enc P W base spare held fuel t cs = some x) :
    cs.length = P.cellsOf t ∧ ∃ n y, DataW.trod enc P W base spare held n ty ((cs.drop off).take (P.cellsOf ty)) = some y := by
  obtain ⟨fs, ht⟩ := structB_spec hs
  obtain ⟨f, h1, rfl, rfl⟩ := fieldOf_spec ht hf
  obtain ⟨xs, n, _, _, hl, hlen, hx⟩ := DataW.trod_struct ht h
  refine ⟨hl, n, xs[i]'(by rw [hlen]; exact (Array.getElem?_eq_some_iff.1 h1).1), ?_⟩
  rw [hx i f h1]
  exact List.getElem?_eq_getElem _
theorem trod_call {cs : List Value} {x : DataW H × List MemPlace} (h : DataW.trod enc Try.prog W base spare held fuel 26 cs = some x) : ∃ k u v, cs = [.int .i64 k, .int .i64 u, .int .i64 v] := by
  obtain ⟨hl, n0, y0, h0⟩ := trod_field (i := 0) (ty := 3) (off := 0) (by kernel_rfl) (by kernel_rfl) h
  obtain ⟨_, n1, y1, h1⟩ := trod_field (i := 1) (ty := 3) (off := 1) (by kernel_rfl) (by kernel_rfl) h
  obtain ⟨_, n2, y2, h2⟩ := trod_field (i := 2) (ty := 3) (off := 2) (by kernel_rfl) (by kernel_rfl) h
  rw [Try.cells26] at hl
  rw [Try.cells3] at h0 h1 h2
  match cs, hl with
  | [a, b, c], _ =>
    obtain ⟨k, e0, _⟩ := DataW.trod_int Try.underlying3 h0
    obtain ⟨u, e1, _⟩ := DataW.trod_int Try.underlying3 h1
    obtain ⟨v, e2, _⟩ := DataW.trod_int Try.underlying3 h2
    simp at e0 e1 e2
    subst e0 e1 e2
    exact ⟨_, _, _, rfl⟩
theorem trod_bool' {P : Program} {t : Nat} {cs : List Value} {x : DataW H × List MemPlace} (ht : P.underlying t = some .bool) (h : DataW.trod enc P W base spare held fuel t cs = some x) : ∃ b, cs = [.bool b] := by
  cases fuel with
  | zero => simp [DataW.trod] at h
  | succ n =>
    unfold DataW.trod at h
    rw [ht] at h
    split at h <;> simp_all
theorem trod_ans {cs : List Value} {x : DataW H × List MemPlace} (h : DataW.trod enc Try.prog W base spare held fuel 29 cs = some x) : ∃ z : Ans, cs = encA z := by
  obtain ⟨hl, n0, y0, h0⟩ := trod_field (i := 0) (ty := 26) (off := 0) (by kernel_rfl) (by kernel_rfl) h
  obtain ⟨_, n1, y1, h1⟩ := trod_field (i := 1) (ty := 3) (off := 3) (by kernel_rfl) (by kernel_rfl) h
  obtain ⟨_, n2, y2, h2⟩ := trod_field (i := 2) (ty := 3) (off := 4) (by kernel_rfl) (by kernel_rfl) h
  obtain ⟨_, n3, y3, h3⟩ := trod_field (i := 3) (ty := 3) (off := 5) (by kernel_rfl) (by kernel_rfl) h
  obtain ⟨_, n4, y4, h4⟩ := trod_field (i := 4) (ty := 3) (off := 6) (by kernel_rfl) (by kernel_rfl) h
  obtain ⟨_, n5, y5, h5⟩ := trod_field (i := 5) (ty := 4) (off := 7) (by kernel_rfl) (by kernel_rfl) h
  obtain ⟨_, n6, y6, h6⟩ := trod_field (i := 6) (ty := 27) (off := 8) (by kernel_rfl) (by kernel_rfl) h
  rw [Try.cells29] at hl
  rw [Try.cells26] at h0
  rw [Try.cells3] at h1 h2 h3 h4
  rw [Try.cells4] at h5
  rw [Try.cells27] at h6
  match cs, hl with
  | [a, b, c, d, e, f, g, i, j], _ =>
    obtain ⟨k, u, v, e0⟩ := trod_call h0
    obtain ⟨z1, e1, _⟩ := DataW.trod_int Try.underlying3 h1
    obtain ⟨z2, e2, _⟩ := DataW.trod_int Try.underlying3 h2
    obtain ⟨z3, e3, _⟩ := DataW.trod_int Try.underlying3 h3
    obtain ⟨z4, e4, _⟩ := DataW.trod_int Try.underlying3 h4
    obtain ⟨z5, e5⟩ := trod_bool' Try.underlying4 h5
    obtain ⟨z6, e6, _⟩ := DataW.trod_int Try.underlying27 h6
    simp at e0 e1 e2 e3 e4 e5 e6
    obtain ⟨rfl, rfl, rfl⟩ := e0
    subst e1 e2 e3 e4 e5 e6
    exact ⟨⟨_, _, _, _, _, _, _, _, _⟩, rfl⟩
end
/-- one block of a memory, as it is -/
def AB (W : World) (b : Nat) : Assn := fun h => ∀ o, W.heap[b]? = some o → h b = some o
/-- all others -/
def notAt (W : World) (b : Nat) : Assn := fun h => ∀ k o, k ≠ b → W.heap[k]? = some o → h k = some o
theorem Sat.oneBlock (W : World) (b : Nat) : Sat W (lab 0 [AB W b]) (notAt W b) W := by
  refine ⟨rfl, rfl, rfl, fun i k => if i = 0 ∧ k = b then W.heap[k]? else none, fun k => if k = b then none else W.heap[k]?, ?_, ?_, ?_, ?_, ?_, ?_⟩
  · intro k A hA
    rw [lk_lab0] at hA
    cases k with
    | zero => simp at hA; subst hA; intro o ho; simp [ho]
    | succ k => simp at hA
  · intro k o hk ho; simp [hk, ho]
  · intro i k o h; dsimp only at h; split at h
    · exact h
    · cases h
  · intro k o h; dsimp only at h; split at h
    · cases h
    · exact h
  · intro i j hij k
    by_cases hi : i = 0
    · exact .inr (if_neg (by omega))
    · exact .inl (if_neg (by omega))
  · intro i k
    by_cases hk : k = b
    · exact .inr (if_pos hk)
    · exact .inl (if_neg (fun h => hk h.2))
theorem Fn.callsB {P : Program} {f : FuncId} {args : List Value} {r : Value} {W : World} {b : Nat} (h : FnD P f args [AB W b] r [AB W b]) : Calls P f args.toArray W fun e W' => e = .returned r ∧ Below W.heap.size W W' := by
  refine (h W (notAt W b) W (Sat.oneBlock W b)).mono ?_
  rintro e W' ⟨v, Bs, rfl, ⟨rfl, rfl⟩, hs⟩
  refine ⟨rfl, ?_⟩
  obtain ⟨f, g, s⟩ := hs.sep
  have hall : ∀ k o, W.heap[k]? = some o → W'.heap[k]? = some o := fun k o hk => by
    by_cases hkb : k = b
    · subst hkb; exact s.sub 0 k o (s.holds 0 (AB W k) rfl o hk)
    · exact s.gsub k o (s.frame k o hkb hk)
  refine ⟨hs.os, hs.tape, hs.output, ?_, fun k hk => ?_⟩
  · rcases Nat.lt_or_ge W'.heap.size W.heap.size with hlt | hge
    · have := hall W'.heap.size _ (Array.getElem?_eq_getElem hlt)
      simp at this
    · exact hge
  · rw [Array.getElem?_eq_getElem hk]; exact hall k _ (Array.getElem?_eq_getElem hk)
/-- a slice of answers, opened -/
theorem open_answers {H : Type} {enc : TypeId × Value → H} {W : World} {base b0 : Nat} {r : Reach} {spare : Nat → Bool} {held : Bool} {v : Value} {d : DataW H} {p : List MemPlace} (hv : Value.okWide Try.prog W r b0 22 v) (h : DataW.Trod enc Try.prog W base spare held 22 v d p) :
    ∃ (a : Option Addr) (b off n c : Nat) (f : Nat → Ans), v = .slice a n c ∧ (0 < n → a = some ⟨b, off, none⟩) ∧ RowOf (AB W b) encA 9 b off n f := by
  obtain ⟨a, n, c, rfl⟩ := okWide_slice Try.underlying22 hv
  obtain ⟨fuel, hf⟩ := h
  rcases DataW.trod_slice Try.underlying22 hf with ⟨h0, _⟩ | ⟨a', len, cap, elems, rest, m, _, hcs, _, hb, hl, hm, hlen, hel, _, _⟩
  · simp [Value.cells] at h0
    obtain ⟨rfl, rfl, rfl⟩ := h0
    exact ⟨none, 0, 0, 0, 0, fun _ => default, rfl, fun h => by omega, fun h _ i hi => by omega⟩
  · simp [Value.cells] at hcs
    obtain ⟨rfl, rfl, rfl⟩ := hcs
    rw [Try.cells29] at hel
    have each : ∀ i, i < n → ∃ z : Ans, W.cells? base (a'.add (i * 9)) 9 = some (encA z) := fun i hi => by
      have h1 := hel i hi
      rw [List.getElem?_eq_getElem (by omega)] at h1
      obtain ⟨cs, h2, h3⟩ := Option.bind_eq_some_iff.1 h1
      obtain ⟨z, rfl⟩ := trod_ans h3
      exact ⟨z, h2⟩
    rcases Nat.eq_zero_or_pos n with h0 | h0
    · subst h0
      exact ⟨some a', 0, 0, 0, c, fun _ => default, rfl, fun h => by omega, fun h _ i hi => by omega⟩
    · have hspot : a'.spot = none ∧ ∃ cs T fz, W.heap[a'.block]? = some (.cells cs T fz) := by
        obtain ⟨z, hz⟩ := each 0 h0
        have h1 := (World.cells?_some hz).2.2 0 (by omega)
        simp only [Nat.zero_mul, Addr.add, if_true] at h1
        unfold World.cell? at h1
        split at h1
        · rename_i cs T fz hh
          split at h1
          · cases h1
          · rename_i hsp
            exact ⟨by simpa using hsp, cs, T, fz, hh⟩
        · cases h1
      obtain ⟨hsp, cs, T, fz, hblk⟩ := hspot
      obtain ⟨blk, off, spot⟩ := a'
      simp only at hsp hblk
      subst hsp
      refine ⟨_, blk, off, n, c, fun i => if hi : i < n then Classical.choose (each i hi) else default, rfl, fun _ => rfl, fun x hx i hi => ⟨cs, T, fz, hx _ hblk, ?_⟩⟩
      dsimp only
      rw [dif_pos hi]
      have hz := Classical.choose_spec (each i hi)
      generalize Classical.choose (each i hi) = z at hz
      refine lkCs_of (encA_ok z).1 fun j hj => ?_
      have h2 := (World.cells?_some hz).2.2 j hj
      rw [add_spot, add_spot] at h2
      rw [← h2]
      simp [World.cell?, hblk]
end Go.Proofs.Ytaccjjpfmnbaaaa
