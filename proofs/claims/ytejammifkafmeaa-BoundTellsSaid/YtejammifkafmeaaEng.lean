import Derived.OrdersHeld
import Derived.Tactics
import Derived.IntWalk
import Derived.Below
set_option linter.unusedVariables false
set_option linter.unusedSimpArgs false
namespace Go.Eng

/-! ## heaps, assertions -/
abbrev HF := Nat → Option Obj
def HF.sub (h g : HF) : Prop := ∀ k o, h k = some o → g k = some o
def HF.dis (h g : HF) : Prop := ∀ k, h k = none ∨ g k = none
def hf (w : World) : HF := fun k => w.heap[k]?
abbrev Assn := HF → Prop
def pt (b : Nat) (o : Obj) : Assn := fun h => h b = some o
def emp : Assn := fun _ => True

/-- an association list, the newest entry first -/
def lk {α : Type _} : List (Nat × α) → Nat → Option α
  | [], _ => none
  | (k, v) :: r, t => bif Nat.beq k t then some v else lk r t

theorem lk_cons_eq {α : Type _} {k : Nat} {v : α} {r : List (Nat × α)} : lk ((k, v) :: r) k = some v := by simp [lk]
theorem lk_cons_ne {α : Type _} {k t : Nat} {v : α} {r : List (Nat × α)} (h : k ≠ t) : lk ((k, v) :: r) t = lk r t := by
  have : Nat.beq k t = false := by
    cases hb : Nat.beq k t with
    | false => rfl
    | true => exact absurd (Nat.eq_of_beq_eq_true hb) h
  simp [lk, this]
theorem lk_cons {α : Type _} {k t : Nat} {v : α} {r : List (Nat × α)} : lk ((k, v) :: r) t = if k = t then some v else lk r t := by
  by_cases h : k = t
  · subst h; simp [lk_cons_eq]
  · simp [lk_cons_ne h, h]

structure Sep (L : List (Nat × Assn)) (R : Assn) (h : HF) (f : Nat → HF) (g : HF) : Prop where
  holds : ∀ k A, lk L k = some A → A (f k)
  frame : R g
  sub : ∀ k, (f k).sub h
  gsub : g.sub h
  dis : ∀ i j, i ≠ j → (f i).dis (f j)
  gdis : ∀ i, (f i).dis g

structure Sat (w0 : World) (L : List (Nat × Assn)) (R : Assn) (w : World) : Prop where
  os : w.os = w0.os
  tape : w.tape = w0.tape
  output : w.output = w0.output
  sep : ∃ f g, Sep L R (hf w) f g

theorem Sat.drawn {w0 w : World} {L : List (Nat × Assn)} {R : Assn} (h : Sat w0 L R w) (n : Nat) : Sat w0 L R { w with drawn := n } :=
  ⟨h.os, h.tape, h.output, h.sep⟩

theorem HF.dis.symm {h g : HF} (d : h.dis g) : g.dis h := fun k => (d k).symm

/-- a known block -/
theorem Sat.read {w0 w : World} {L : List (Nat × Assn)} {R : Assn} (h : Sat w0 L R w) {k b : Nat} {o : Obj} (hk : lk L k = some (pt b o)) : w.heap[b]? = some o := by
  obtain ⟨f, g, s⟩ := h.sep
  exact s.sub k b o (s.holds k _ hk)

theorem Sat.cell {w0 w : World} {L : List (Nat × Assn)} {R : Assn} (h : Sat w0 L R w) {k b off : Nat} {cs : Array Value} {T : TypeId} {fz : Nat × Nat} {v : Value}
    (hk : lk L k = some (pt b (.cells cs T fz))) (hv : cs[off]? = some v) : w.cell? ⟨b, off, none⟩ = some v := by
  have := h.read hk
  simp [World.cell?, this, hv]

/-- a new block -/
theorem Sat.alloc {w0 w : World} {L : List (Nat × Assn)} {R : Assn} (h : Sat w0 L R w) (n : Nat) (o : Obj) :
    Sat w0 ((n, pt w.heap.size o) :: L) R { w with heap := w.heap.push o } := by
  obtain ⟨f, g, s⟩ := h.sep
  have old : ∀ (k : Nat) (o' : Obj), w.heap[k]? = some o' → k < w.heap.size := fun k o' hk => (Array.getElem?_eq_some_iff.1 hk).1
  have up : ∀ k o', hf w k = some o' → hf { w with heap := w.heap.push o } k = some o' := fun k o' hk => by
    have := old k o' hk
    simp only [hf] at *
    rw [Array.getElem?_push, if_neg (by omega)]; exact hk
  have fnone : ∀ i, f i w.heap.size = none := fun i => by
    cases hh : f i w.heap.size with
    | none => rfl
    | some o' => have := old _ _ (s.sub i _ _ hh); omega
  have gnone : g w.heap.size = none := by
    cases hh : g w.heap.size with
    | none => rfl
    | some o' => have := old _ _ (s.gsub _ _ hh); omega
  refine ⟨h.os, h.tape, h.output, fun k => if n = k then (fun b => if b = w.heap.size then some o else none) else f k, g, ?_, s.frame, ?_, ?_, ?_, ?_⟩
  · intro k A hA
    rw [lk_cons] at hA
    by_cases hn : n = k
    · simp only [hn, if_true] at hA ⊢
      cases hA
      simp [pt]
    · simp only [hn, if_false] at hA ⊢
      exact s.holds k A hA
  · intro k b o' hb
    by_cases hn : n = k
    · simp only [hn, if_true] at hb
      split at hb
      · rename_i e; subst e; cases hb; simp [hf]
      · cases hb
    · simp only [hn, if_false] at hb
      exact up _ _ (s.sub k b o' hb)
  · exact fun k o' hk => up _ _ (s.gsub k o' hk)
  · intro i j hij b
    by_cases hi : n = i
    · subst hi
      rw [if_pos rfl, if_neg hij]
      by_cases hb : b = w.heap.size
      · subst hb; exact .inr (fnone j)
      · exact .inl (if_neg hb)
    · by_cases hj : n = j
      · subst hj
        rw [if_pos rfl, if_neg hi]
        by_cases hb : b = w.heap.size
        · subst hb; exact .inl (fnone i)
        · exact .inr (if_neg hb)
      · rw [if_neg hi, if_neg hj]; exact s.dis i j hij b
  · intro i b
    by_cases hi : n = i
    · simp only [hi, if_true]
      by_cases hb : b = w.heap.size
      · subst hb; exact .inr gnone
      · simp [hb]
    · simp only [hi, if_false]; exact s.gdis i b

/-- a known block is written anew -/
theorem Sat.put {w0 w : World} {L : List (Nat × Assn)} {R : Assn} (h : Sat w0 L R w) {k b : Nat} {o : Obj} (hk : lk L k = some (pt b o)) (o' : Obj) :
    Sat w0 ((k, pt b o') :: L) R { w with heap := w.heap.setIfInBounds b o' } := by
  obtain ⟨f, g, s⟩ := h.sep
  have hb : f k b = some o := s.holds k _ hk
  have hlt : b < w.heap.size := (Array.getElem?_eq_some_iff.1 (s.sub k b o hb)).1
  have keep : ∀ c, c ≠ b → hf { w with heap := w.heap.setIfInBounds b o' } c = hf w c := fun c hc => by
    simp only [hf]; rw [Array.getElem?_setIfInBounds_ne (by omega)]
  have here : hf { w with heap := w.heap.setIfInBounds b o' } b = some o' := by simp [hf, hlt]
  refine ⟨h.os, h.tape, h.output, fun i => if k = i then (fun c => if c = b then some o' else f k c) else f i, g, ?_, s.frame, ?_, ?_, ?_, ?_⟩
  · intro i A hA
    rw [lk_cons] at hA
    by_cases hi : k = i
    · simp only [hi, if_true] at hA ⊢; cases hA; simp [pt]
    · simp only [hi, if_false] at hA ⊢; exact s.holds i A hA
  · intro i c x hc
    by_cases hi : k = i
    · simp only [hi, if_true] at hc
      by_cases hcb : c = b
      · subst hcb; simp at hc; subst hc; exact here
      · simp only [hcb, if_false] at hc; rw [keep c hcb]; exact s.sub i c x hc
    · simp only [hi, if_false] at hc
      have hcb : c ≠ b := fun e => by
        subst e
        rcases s.dis k i hi c with h1 | h1
        · rw [hb] at h1; cases h1
        · rw [h1] at hc; cases hc
      rw [keep c hcb]; exact s.sub i c x hc
  · intro c x hc
    have hcb : c ≠ b := fun e => by
      subst e
      rcases s.gdis k c with h1 | h1
      · rw [hb] at h1; cases h1
      · rw [h1] at hc; cases hc
    rw [keep c hcb]; exact s.gsub c x hc
  · intro i j hij c
    by_cases hi : k = i
    · subst hi
      rw [if_pos rfl, if_neg hij]
      rcases s.dis k j hij c with h1 | h1
      · by_cases hcb : c = b
        · subst hcb; rw [hb] at h1; cases h1
        · exact .inl ((if_neg hcb).trans h1)
      · exact .inr h1
    · by_cases hj : k = j
      · subst hj
        rw [if_pos rfl, if_neg hi]
        rcases s.dis k i hi c with h1 | h1
        · by_cases hcb : c = b
          · subst hcb; rw [hb] at h1; cases h1
          · exact .inr ((if_neg hcb).trans h1)
        · exact .inl h1
      · rw [if_neg hi, if_neg hj]; exact s.dis i j hij c
  · intro i c
    by_cases hi : k = i
    · simp only [hi, if_true]
      rcases s.gdis k c with h1 | h1
      · by_cases hcb : c = b
        · subst hcb; rw [hb] at h1; cases h1
        · subst hi; simp [hcb, h1]
      · exact .inr h1
    · simp only [hi, if_false]; exact s.gdis i c

theorem setCell_eq {w : World} {b off : Nat} {cs : Array Value} {T : TypeId} {fz : Nat × Nat} (h : w.heap[b]? = some (.cells cs T fz)) (v : Value) :
    w.setCell ⟨b, off, none⟩ v = { w with heap := w.heap.setIfInBounds b (.cells (cs.setIfInBounds off v) T fz) } := by
  obtain ⟨hlt, he⟩ := Array.getElem?_eq_some_iff.1 h
  unfold World.setCell
  congr 1
  apply Array.ext_getElem?
  intro i
  rw [Array.getElem?_modify, Array.getElem?_setIfInBounds]
  by_cases hi : b = i
  · subst hi; simp [hlt, he]
  · simp [hi]

theorem Sat.setCell {w0 w : World} {L : List (Nat × Assn)} {R : Assn} (h : Sat w0 L R w) {k b : Nat} {cs : Array Value} {T : TypeId} {fz : Nat × Nat}
    (hk : lk L k = some (pt b (.cells cs T fz))) (off : Nat) (v : Value) :
    Sat w0 ((k, pt b (.cells (cs.setIfInBounds off v) T fz)) :: L) R (w.setCell ⟨b, off, none⟩ v) := by
  rw [setCell_eq (h.read hk)]; exact h.put hk _

/-- what one knows may be forgotten, or renamed -/
theorem Sat.weaken {w0 w : World} {L L' : List (Nat × Assn)} {R : Assn} (h : Sat w0 L R w) (hs : ∀ k A, lk L' k = some A → lk L k = some A) : Sat w0 L' R w := by
  obtain ⟨f, g, s⟩ := h.sep
  exact ⟨h.os, h.tape, h.output, f, g, fun k A hk => s.holds k A (hs k A hk), s.frame, s.sub, s.gsub, s.dis, s.gdis⟩

/-- an assertion is replaced by one that it implies -/
theorem Sat.conseq {w0 w : World} {L : List (Nat × Assn)} {R : Assn} (h : Sat w0 L R w) {k : Nat} {A B : Assn} (hk : lk L k = some A) (hAB : ∀ x, A x → B x) : Sat w0 ((k, B) :: L) R w := by
  obtain ⟨f, g, s⟩ := h.sep
  refine ⟨h.os, h.tape, h.output, f, g, fun i C hC => ?_, s.frame, s.sub, s.gsub, s.dis, s.gdis⟩
  rw [lk_cons] at hC
  by_cases hi : k = i
  · subst hi; simp at hC; subst hC; exact hAB _ (s.holds k A hk)
  · simp only [hi, if_false] at hC; exact s.holds i C hC

def ex {X : Sort _} (A : X → Assn) : Assn := fun h => ∃ x, A x h
def andp (p : Prop) (A : Assn) : Assn := fun h => p ∧ A h
def star (A B : Assn) : Assn := fun h => ∃ f g, HF.sub f h ∧ HF.sub g h ∧ HF.dis f g ∧ A f ∧ B g

theorem Sat.open_ex {w0 w : World} {L : List (Nat × Assn)} {R : Assn} (h : Sat w0 L R w) {X : Sort _} {A : X → Assn} {k : Nat} (hk : lk L k = some (ex A)) : ∃ x, Sat w0 ((k, A x) :: L) R w := by
  obtain ⟨f, g, s⟩ := h.sep
  obtain ⟨x, hx⟩ := s.holds k _ hk
  refine ⟨x, h.os, h.tape, h.output, f, g, fun i C hC => ?_, s.frame, s.sub, s.gsub, s.dis, s.gdis⟩
  rw [lk_cons] at hC
  by_cases hi : k = i
  · subst hi; simp at hC; subst hC; exact hx
  · simp only [hi, if_false] at hC; exact s.holds i C hC
theorem Sat.fact {w0 w : World} {L : List (Nat × Assn)} {R : Assn} (h : Sat w0 L R w) {p : Prop} {A : Assn} {k : Nat} (hk : lk L k = some (andp p A)) : p := by
  obtain ⟨f, g, s⟩ := h.sep
  exact (s.holds k _ hk).1
theorem Sat.open_andp {w0 w : World} {L : List (Nat × Assn)} {R : Assn} (h : Sat w0 L R w) {p : Prop} {A : Assn} {k : Nat} (hk : lk L k = some (andp p A)) : Sat w0 ((k, A) :: L) R w :=
  h.conseq hk fun _ hx => hx.2

/-- a star is taken apart: its second part gets a new number -/
theorem Sat.open_star {w0 w : World} {L : List (Nat × Assn)} {R : Assn} (h : Sat w0 L R w) {A B : Assn} {k : Nat} (hk : lk L k = some (star A B)) (n : Nat) (hn : n ≠ k) :
    Sat w0 ((n, B) :: (k, A) :: L) R w := by
  obtain ⟨f, g, s⟩ := h.sep
  obtain ⟨f1, f2, hs1, hs2, hd, hA, hB⟩ := s.holds k _ hk
  have dis1 : ∀ i, i ≠ k → f1.dis (f i) := fun i hi c => by
    rcases s.dis i k hi c with h1 | h1
    · exact .inr h1
    · cases hc : f1 c with
      | none => exact .inl rfl
      | some o => have := hs1 c o hc; rw [h1] at this; cases this
  have dis2 : ∀ i, i ≠ k → f2.dis (f i) := fun i hi c => by
    rcases s.dis i k hi c with h1 | h1
    · exact .inr h1
    · cases hc : f2 c with
      | none => exact .inl rfl
      | some o => have := hs2 c o hc; rw [h1] at this; cases this
  have dg1 : f1.dis g := fun c => by
    rcases s.gdis k c with h1 | h1
    · cases hc : f1 c with
      | none => exact .inl rfl
      | some o => have := hs1 c o hc; rw [h1] at this; cases this
    · exact .inr h1
  have dg2 : f2.dis g := fun c => by
    rcases s.gdis k c with h1 | h1
    · cases hc : f2 c with
      | none => exact .inl rfl
      | some o => have := hs2 c o hc; rw [h1] at this; cases this
    · exact .inr h1
  refine ⟨h.os, h.tape, h.output, fun i => if n = i then f2 else if k = i then f1 else f i, g, ?_, s.frame, ?_, s.gsub, ?_, ?_⟩
  · intro i C hC
    rw [lk_cons, lk_cons] at hC
    split at hC
    · rename_i e; rw [if_pos e]; cases hC; exact hB
    · rename_i e; rw [if_neg e]
      split at hC
      · rename_i e2; rw [if_pos e2]; cases hC; exact hA
      · rename_i e2; rw [if_neg e2]; exact s.holds i C hC
  · intro i c o hc
    split at hc
    · exact s.sub k c o (hs2 c o hc)
    · split at hc
      · exact s.sub k c o (hs1 c o hc)
      · exact s.sub i c o hc
  · intro i j hij
    by_cases hi : n = i
    · subst hi
      rw [if_pos rfl, if_neg hij]
      by_cases hkj : k = j
      · rw [if_pos hkj]; exact hd.symm
      · rw [if_neg hkj]; exact dis2 j (Ne.symm hkj)
    · rw [if_neg hi]
      by_cases hj : n = j
      · rw [if_pos hj]
        by_cases hki : k = i
        · rw [if_pos hki]; exact hd
        · rw [if_neg hki]; exact (dis2 i (Ne.symm hki)).symm
      · rw [if_neg hj]
        by_cases hki : k = i
        · subst hki
          rw [if_pos rfl, if_neg hij]; exact dis1 j (Ne.symm hij)
        · rw [if_neg hki]
          by_cases hkj : k = j
          · rw [if_pos hkj]; exact (dis1 i (Ne.symm hki)).symm
          · rw [if_neg hkj]; exact s.dis i j hij
  · intro i
    split
    · exact dg2
    · split
      · exact dg1
      · exact s.gdis i

/-- two entries become one star -/
theorem Sat.close_star {w0 w : World} {L : List (Nat × Assn)} {R : Assn} (h : Sat w0 L R w) {A B : Assn} {k n : Nat} (hk : lk L k = some A) (hn : lk L n = some B) (hne : n ≠ k) :
    Sat w0 ((n, emp) :: (k, star A B) :: L) R w := by
  obtain ⟨f, g, s⟩ := h.sep
  let u : HF := fun c => (f k c).or (f n c)
  have uk : ∀ c o, f k c = some o → u c = some o := fun c o hc => by simp [u, hc]
  have un : ∀ c o, f n c = some o → u c = some o := fun c o hc => by
    rcases s.dis k n (Ne.symm hne) c with h1 | h1
    · simp [u, h1, hc]
    · rw [h1] at hc; cases hc
  have uu : ∀ c o, u c = some o → f k c = some o ∨ f n c = some o := fun c o hc => by
    simp only [u] at hc
    cases h1 : f k c with
    | none => rw [h1] at hc; exact .inr (by simpa using hc)
    | some o' => rw [h1] at hc; exact .inl (by simpa using hc)
  have unone : ∀ c, f k c = none → f n c = none → u c = none := fun c h1 h2 => by simp [u, h1, h2]
  refine ⟨h.os, h.tape, h.output, fun i => if n = i then (fun _ => none) else if k = i then u else f i, g, ?_, s.frame, ?_, s.gsub, ?_, ?_⟩
  · intro i C hC
    rw [lk_cons, lk_cons] at hC
    split at hC
    · cases hC; trivial
    · rename_i e; rw [if_neg e]
      split at hC
      · rename_i e2; rw [if_pos e2]; cases hC
        exact ⟨f k, f n, uk, un, s.dis k n (Ne.symm hne), s.holds k A hk, s.holds n B hn⟩
      · rename_i e2; rw [if_neg e2]; exact s.holds i C hC
  · intro i c o hc
    split at hc
    · cases hc
    · split at hc
      · rcases uu c o hc with h1 | h1
        · exact s.sub k c o h1
        · exact s.sub n c o h1
      · exact s.sub i c o hc
  · intro i j hij c
    by_cases hi : n = i
    · rw [if_pos hi]; exact .inl rfl
    · by_cases hj : n = j
      · rw [if_pos hj]; exact .inr rfl
      · rw [if_neg hi, if_neg hj]
        by_cases hki : k = i
        · subst hki
          rw [if_pos rfl, if_neg hij]
          rcases s.dis k j hij c with h1 | h1
          · rcases s.dis n j hj c with h2 | h2
            · exact .inl (unone c h1 h2)
            · exact .inr h2
          · exact .inr h1
        · rw [if_neg hki]
          by_cases hkj : k = j
          · rw [if_pos hkj]
            rcases s.dis k i hki c with h1 | h1
            · rcases s.dis n i hi c with h2 | h2
              · exact .inr (unone c h1 h2)
              · exact .inl h2
            · exact .inl h1
          · rw [if_neg hkj]; exact s.dis i j hij c
  · intro i c
    split
    · exact .inl rfl
    · split
      · rcases s.gdis k c with h1 | h1
        · rcases s.gdis n c with h2 | h2
          · exact .inl (unone c h1 h2)
          · exact .inr h2
        · exact .inr h1
      · exact s.gdis i c

end Go.Eng

set_option linter.unusedVariables false
set_option linter.unusedSimpArgs false
namespace Go.Eng

/-! ## frames at a call -/
def lab : Nat → List Assn → List (Nat × Assn)
  | _, [] => []
  | n, A :: r => (n, A) :: lab (n + 1) r
def labs : List Nat → List Assn → List (Nat × Assn) → List (Nat × Assn)
  | k :: ks, A :: r, L => (k, A) :: labs ks r L
  | _, _, L => L
def lks (L : List (Nat × Assn)) : List Nat → List Assn → Prop
  | [], [] => True
  | k :: ks, A :: r => lk L k = some A ∧ lks L ks r
  | _, _ => False
def nodupB : List Nat → Bool
  | [] => true
  | k :: ks => ks.all (fun j => !Nat.beq k j) && nodupB ks
def prefB : List Nat → List Nat → Bool
  | [], _ => true
  | a :: r, b :: s => Nat.beq a b && prefB r s
  | _ :: _, [] => false

theorem lk_lab (As : List Assn) : ∀ n t, lk (lab n As) t = if n ≤ t then As[t - n]? else none := by
  induction As with
  | nil => intro n t; simp [lab, lk]
  | cons A r ih =>
    intro n t
    rw [lab, lk_cons, ih]
    by_cases h : n = t
    · subst h; simp
    · rw [if_neg h]
      by_cases h1 : n + 1 ≤ t
      · rw [if_pos h1, if_pos (by omega)]
        have : t - n = (t - (n + 1)) + 1 := by omega
        rw [this, List.getElem?_cons_succ]
      · rw [if_neg h1, if_neg (by omega)]

theorem lk_lab0 (As : List Assn) (t : Nat) : lk (lab 0 As) t = As[t]? := by rw [lk_lab]; simp

theorem nodupB_spec : ∀ {ks : List Nat}, nodupB ks = true → ks.Nodup
  | [], _ => List.nodup_nil
  | k :: ks, h => by
    simp only [nodupB, Bool.and_eq_true, List.all_eq_true, Bool.not_eq_true'] at h
    refine List.nodup_cons.2 ⟨fun hm => ?_, nodupB_spec h.2⟩
    have := h.1 k hm
    rw [Nat.beq_refl] at this; cases this

theorem lks_spec {L : List (Nat × Assn)} : ∀ {ks : List Nat} {As : List Assn}, lks L ks As → ks.length = As.length ∧ ∀ (t k : Nat), ks[t]? = some k → lk L k = As[t]?
  | [], [], _ => ⟨rfl, fun t k h => by simp at h⟩
  | k :: ks, A :: r, h => by
    obtain ⟨h1, h2⟩ := h
    obtain ⟨hl, hs⟩ := lks_spec h2
    refine ⟨by simp [hl], fun t k' ht => ?_⟩
    cases t with
    | zero => simp at ht; subst ht; simpa using h1
    | succ t => simp at ht ⊢; exact hs t k' ht
  | [], _ :: _, h => h.elim
  | _ :: _, [], h => h.elim

theorem prefB_spec : ∀ {a b : List Nat}, prefB a b = true → ∀ k ∈ a, k ∈ b
  | [], _, _, k, hk => by cases hk
  | x :: r, y :: s, h, k, hk => by
    simp only [prefB, Bool.and_eq_true] at h
    have e := Nat.eq_of_beq_eq_true h.1
    rcases List.mem_cons.1 hk with rfl | hk
    · subst e; exact List.mem_cons_self ..
    · exact List.mem_cons_of_mem _ (prefB_spec h.2 k hk)
  | _ :: _, [], h, _, _ => by simp [prefB] at h

/-- the place of a number in a list -/
def pos : List Nat → Nat → Option Nat
  | [], _ => none
  | k :: ks, j => if k = j then some 0 else (pos ks j).map (· + 1)
theorem pos_none {ks : List Nat} {j : Nat} : pos ks j = none ↔ j ∉ ks := by
  induction ks with
  | nil => simp [pos]
  | cons k ks ih =>
    simp only [pos]
    by_cases h : k = j
    · subst h; simp
    · rw [if_neg h]; simp [ih, Ne.symm h]
theorem pos_some {ks : List Nat} {j t : Nat} (h : pos ks j = some t) : ks[t]? = some j := by
  induction ks generalizing t with
  | nil => simp [pos] at h
  | cons k ks ih =>
    simp only [pos] at h
    by_cases hk : k = j
    · rw [if_pos hk] at h; cases h; simp [hk]
    · rw [if_neg hk] at h
      cases hp : pos ks j with
      | none => rw [hp] at h; cases h
      | some s => rw [hp] at h; cases h; simpa using ih hp

theorem lk_labs {L : List (Nat × Assn)} : ∀ {ks : List Nat} {Bs : List Assn}, ks.length = Bs.length → ∀ j, lk (labs ks Bs L) j = match pos ks j with | some t => Bs[t]? | none => lk L j
  | [], [], _, j => by simp [labs, pos]
  | k :: ks, B :: r, h, j => by
    simp only [labs, pos]
    rw [lk_cons]
    by_cases hk : k = j
    · simp [hk]
    · rw [if_neg hk, if_neg hk, lk_labs (by simpa using h) j]
      cases pos ks j <;> simp
  | [], _ :: _, h, _ => by simp at h
  | _ :: _, [], h, _ => by simp at h

/-- What a caller keeps while it calls. -/
def kept (L : List (Nat × Assn)) (R : Assn) (ks : List Nat) : Assn := fun h =>
  ∃ (f : Nat → HF) (g : HF), (∀ k A, k ∉ ks → lk L k = some A → A (f k)) ∧ R g ∧ (∀ k, (f k).sub h) ∧ g.sub h ∧ (∀ i j, i ≠ j → (f i).dis (f j)) ∧ ∀ i, (f i).dis g

open Classical in
theorem Sat.give {w0 w : World} {L : List (Nat × Assn)} {R : Assn} (h : Sat w0 L R w) {ks : List Nat} {As : List Assn} (hn : ks.Nodup) (hl : lks L ks As) :
    Sat w0 (lab 0 As) (kept L R ks) w := by
  obtain ⟨hlen, hlk⟩ := lks_spec hl
  obtain ⟨f, g, s⟩ := h.sep
  let g' : HF := fun c => if (∃ o, g c = some o) ∨ ∃ k, k ∉ ks ∧ ∃ o, f k c = some o then hf w c else none
  let fo : Nat → HF := fun k => if k ∈ ks then fun _ => none else f k
  let f' : Nat → HF := fun t => match ks[t]? with | some k => f k | none => fun _ => none
  have f'cases : ∀ t, (∃ k, ks[t]? = some k ∧ f' t = f k) ∨ (ks[t]? = none ∧ f' t = fun _ => none) := fun t => by
    cases hk : ks[t]? with
    | none => exact .inr ⟨rfl, by simp [f', hk]⟩
    | some k => exact .inl ⟨k, rfl, by simp [f', hk]⟩
  refine ⟨h.os, h.tape, h.output, f', g', ?_, ⟨fo, g, ?_, s.frame, ?_, ?_, ?_, ?_⟩, ?_, ?_, ?_, ?_⟩
  · intro t A hA
    rw [lk_lab0] at hA
    rcases f'cases t with ⟨k, hk, e⟩ | ⟨hk, _⟩
    · rw [e]; exact s.holds k A ((hlk t k hk).trans hA)
    · have h1 := List.getElem?_eq_none_iff.1 hk
      have h2 := (List.getElem?_eq_some_iff.1 hA).1
      omega
  · intro k A hk hA
    simp only [fo, hk, if_false]; exact s.holds k A hA
  · intro k c o hc
    by_cases hk : k ∈ ks
    · simp [fo, hk] at hc
    · simp only [fo, hk, if_false] at hc
      have : g' c = hf w c := if_pos (.inr ⟨k, hk, o, hc⟩)
      rw [this]; exact s.sub k c o hc
  · intro c o hc
    have : g' c = hf w c := if_pos (.inl ⟨o, hc⟩)
    rw [this]; exact s.gsub c o hc
  · intro i j hij c
    by_cases hi : i ∈ ks
    · exact .inl (by simp [fo, hi])
    · by_cases hj : j ∈ ks
      · exact .inr (by simp [fo, hj])
      · simp only [fo, hi, hj, if_false]; exact s.dis i j hij c
  · intro i c
    by_cases hi : i ∈ ks
    · exact .inl (by simp [fo, hi])
    · simp only [fo, hi, if_false]; exact s.gdis i c
  · intro t c o hc
    rcases f'cases t with ⟨k, hk, e⟩ | ⟨_, e⟩
    · rw [e] at hc; exact s.sub k c o hc
    · rw [e] at hc; cases hc
  · intro c o hc
    by_cases hcond : (∃ o, g c = some o) ∨ ∃ k, k ∉ ks ∧ ∃ o, f k c = some o
    · have : g' c = hf w c := if_pos hcond
      rw [this] at hc; exact hc
    · have : g' c = none := if_neg hcond
      rw [this] at hc; cases hc
  · intro i j hij
    rcases f'cases i with ⟨k, hk, e⟩ | ⟨_, e⟩
    · rcases f'cases j with ⟨l, hl', e'⟩ | ⟨_, e'⟩
      · rw [e, e']
        refine s.dis k l fun hkl => hij ?_
        subst hkl
        obtain ⟨hi', he⟩ := List.getElem?_eq_some_iff.1 hk
        obtain ⟨hj', he'⟩ := List.getElem?_eq_some_iff.1 hl'
        exact (List.getElem_inj hn).1 (he.trans he'.symm)
      · rw [e']; exact fun c => .inr rfl
    · rw [e]; exact fun c => .inl rfl
  · intro t c
    rcases f'cases t with ⟨k, hk, e⟩ | ⟨_, e⟩
    · rw [e]
      by_cases hcond : (∃ o, g c = some o) ∨ ∃ k, k ∉ ks ∧ ∃ o, f k c = some o
      · left
        cases hfk : f k c with
        | none => rfl
        | some o =>
          exfalso
          rcases hcond with ⟨o', ho'⟩ | ⟨l, hl', o', ho'⟩
          · rcases s.gdis k c with h1 | h1
            · rw [hfk] at h1; cases h1
            · rw [ho'] at h1; cases h1
          · have hne : k ≠ l := fun e' => hl' (e' ▸ List.mem_of_getElem? hk)
            rcases s.dis k l hne c with h1 | h1
            · rw [hfk] at h1; cases h1
            · rw [ho'] at h1; cases h1
      · exact .inr (if_neg hcond)
    · rw [e]; exact .inl rfl

theorem Sat.take {w0 w : World} {L : List (Nat × Assn)} {R : Assn} {ks : List Nat} {Bs : List Assn} (h : Sat w0 (lab 0 Bs) (kept L R ks) w)
    {ks' : List Nat} (hn : ks'.Nodup) (hp : ∀ k ∈ ks, k ∈ ks') (hl : ks'.length = Bs.length) : Sat w0 (labs ks' Bs L) R w := by
  obtain ⟨f', g', s⟩ := h.sep
  obtain ⟨f, g, hA, hR, hfs, hgs, hd, hgd⟩ := s.frame
  let F : Nat → HF := fun k => match pos ks' k with | some t => f' t | none => f k
  have Fs : ∀ {k t}, pos ks' k = some t → F k = f' t := fun {k t} e => by simp [F, e]
  have Fn : ∀ {k}, pos ks' k = none → F k = f k := fun {k} e => by simp [F, e]
  have cross : ∀ t k, (f' t).dis (f k) := fun t k c => by
    rcases s.gdis t c with h1 | h1
    · exact .inl h1
    · right
      cases hc : f k c with
      | none => rfl
      | some o => have := hfs k c o hc; rw [h1] at this; cases this
  refine ⟨h.os, h.tape, h.output, F, g, ?_, hR, ?_, fun c o hc => s.gsub c o (hgs c o hc), ?_, ?_⟩
  · intro k A hk
    rw [lk_labs hl] at hk
    cases hp' : pos ks' k with
    | none =>
      rw [hp'] at hk
      rw [Fn hp']
      exact hA k A (fun hm => pos_none.1 hp' (hp k hm)) hk
    | some t =>
      rw [hp'] at hk
      rw [Fs hp']
      exact s.holds t A (by rw [lk_lab0]; exact hk)
  · intro k c o hc
    cases hp' : pos ks' k with
    | none => rw [Fn hp'] at hc; exact s.gsub c o (hfs k c o hc)
    | some t => rw [Fs hp'] at hc; exact s.sub t c o hc
  · intro i j hij
    cases hi : pos ks' i with
    | none =>
      rw [Fn hi]
      cases hj : pos ks' j with
      | none => rw [Fn hj]; exact hd i j hij
      | some t => rw [Fs hj]; exact (cross t i).symm
    | some t =>
      rw [Fs hi]
      cases hj : pos ks' j with
      | none => rw [Fn hj]; exact cross t j
      | some u =>
        rw [Fs hj]
        refine s.dis t u fun e => hij ?_
        subst e
        have h1 := pos_some hi
        have h2 := pos_some hj
        rw [h1] at h2; exact Option.some.inj h2
  · intro i c
    cases hi : pos ks' i with
    | none => rw [Fn hi]; exact hgd i c
    | some t =>
      rw [Fs hi]
      rcases s.gdis t c with h1 | h1
      · exact .inl h1
      · right
        cases hc : g c with
        | none => rfl
        | some o => have := hgs c o hc; rw [h1] at this; cases this

/-! ## contracts -/
def Fn (P : Program) (f : FuncId) (args : List Value) (As : List Assn) (Φ : Value → List Assn → Prop) : Prop :=
  ∀ w0 R w, Sat w0 (lab 0 As) R w → Calls P f args.toArray w fun e w' => ∃ v Bs, e = .returned v ∧ Φ v Bs ∧ Sat w0 (lab 0 Bs) R w'
/-- one result, known; what is left is known -/
def FnD (P : Program) (f : FuncId) (args : List Value) (As : List Assn) (r : Value) (Bs : List Assn) : Prop :=
  Fn P f args As fun v Bs' => v = r ∧ Bs' = Bs

theorem Fn.mono {P : Program} {f : FuncId} {args : List Value} {As : List Assn} {Φ Ψ : Value → List Assn → Prop} (h : Fn P f args As Φ) (hi : ∀ v Bs, Φ v Bs → Ψ v Bs) : Fn P f args As Ψ :=
  fun w0 R w hs => (h w0 R w hs).mono fun _ _ ⟨v, Bs, e, hp, hs'⟩ => ⟨v, Bs, e, hi _ _ hp, hs'⟩

/-! ## environments -/
structure Agrees (n : Nat) (env : List (Nat × Value)) (a : Act) : Prop where
  defers : a.defers = []
  size : a.tmps.size = n
  get : ∀ t v, lk env t = some v → a.tmps[t]? = some v

def setE (env : List (Nat × Value)) : Option Tmp → Value → List (Nat × Value)
  | some d, v => (d, v) :: env
  | none, _ => env
def okD (n : Nat) : Option Tmp → Bool
  | some d => Nat.blt d n
  | none => true
def evO (env : List (Nat × Value)) : Operand → Option Value
  | .tmp t => lk env t
  | .const v => some v
  | .global g => some (.pointer (some ⟨g, 0, none⟩))
  | .func f => some (.func (.func f) #[] #[])
def evL (env : List (Nat × Value)) : List Operand → Option (List Value)
  | [] => some []
  | x :: r => match evO env x, evL env r with
    | some v, some vs => some (v :: vs)
    | _, _ => none
/-- each operand has its value -/
def evs (env : List (Nat × Value)) : List Operand → List Value → Prop
  | [], [] => True
  | x :: r, v :: vs => evO env x = some v ∧ evs env r vs
  | _, _ => False

theorem Agrees.eval {n : Nat} {env : List (Nat × Value)} {a : Act} (h : Agrees n env a) {x : Operand} {v : Value} (hx : evO env x = some v) : a.eval x = v := by
  cases x with
  | tmp t => have := h.get t v hx; simp [Act.eval, Array.getD_eq_getD_getElem?, this]
  | const c => simpa [evO, Act.eval] using hx
  | global g => simpa [evO, Act.eval] using hx
  | func f => simpa [evO, Act.eval] using hx
theorem Agrees.evals {n : Nat} {env : List (Nat × Value)} {a : Act} (h : Agrees n env a) : ∀ {xs : List Operand} {vs : List Value}, evs env xs vs → xs.map a.eval = vs
  | [], [], _ => rfl
  | x :: r, v :: vs, hx => by simp [h.eval hx.1, h.evals hx.2]
  | [], _ :: _, hx => hx.elim
  | _ :: _, [], hx => hx.elim

theorem Agrees.put {n : Nat} {env : List (Nat × Value)} {a : Act} (h : Agrees n env a) {d : Option Tmp} (hd : okD n d = true) (v : Value) : Agrees n (setE env d v) (a.put d v) := by
  cases d with
  | none => exact h
  | some d =>
    have hlt : d < n := by simpa [okD, Nat.blt_eq] using hd
    refine ⟨h.defers, by simp [Act.put, h.size], fun t u ht => ?_⟩
    simp only [setE] at ht
    rw [lk_cons] at ht
    by_cases e : d = t
    · subst e
      simp at ht; subst ht
      simp [Act.put, h.size, hlt]
    · rw [if_neg e] at ht
      simp only [Act.put]
      rw [Array.getElem?_setIfInBounds_ne e]; exact h.get t u ht

theorem Agrees.sub {n : Nat} {env env' : List (Nat × Value)} {a : Act} (h : Agrees n env a) (hs : ∀ t v, lk env' t = some v → lk env t = some v) : Agrees n env' a :=
  ⟨h.defers, h.size, fun t v ht => h.get t v (hs t v ht)⟩

/-- every entry of a written-out list stands in another one -/
def subE {α : Type _} (env : List (Nat × α)) : List (Nat × α) → Prop
  | [] => True
  | (k, v) :: r => lk env k = some v ∧ subE env r
theorem subE_spec {α : Type _} {env : List (Nat × α)} : ∀ {env' : List (Nat × α)}, subE env env' → ∀ t v, lk env' t = some v → lk env t = some v
  | [], _, t, v, h => by simp [lk] at h
  | (k, u) :: r, hs, t, v, h => by
    rw [lk_cons] at h
    by_cases e : k = t
    · subst e; simp at h; subst h; exact hs.1
    · rw [if_neg e] at h; exact subE_spec hs.2 t v h

/-! ## regions -/
/-- what a region that draws keeps throughout -/
def sel (L : List (Nat × Assn)) : List Nat → List (Nat × Assn)
  | [] => []
  | k :: ks => match lk L k with
    | some A => (k, A) :: sel L ks
    | none => sel L ks
def SS (w0 : World) (ks : List Nat) (L0 : List (Nat × Assn)) (w : World) : Prop := Sat w0 (sel L0 ks) emp w
def Keep (L0 : List (Nat × Assn)) (L : List (Nat × Assn)) : List Nat → Prop
  | [] => True
  | k :: ks => lk L k = lk L0 k ∧ Keep L0 L ks

theorem lk_sel {L : List (Nat × Assn)} : ∀ {ks : List Nat} {k : Nat} {A : Assn}, lk (sel L ks) k = some A → k ∈ ks ∧ lk L k = some A
  | [], k, A, h => by simp [sel, lk] at h
  | j :: ks, k, A, h => by
    simp only [sel] at h
    cases hj : lk L j with
    | none => rw [hj] at h; have := lk_sel h; exact ⟨List.mem_cons_of_mem _ this.1, this.2⟩
    | some B =>
      rw [hj] at h
      simp only [lk_cons] at h
      by_cases e : j = k
      · subst e; rw [if_pos rfl] at h; cases h; exact ⟨List.mem_cons_self .., hj⟩
      · rw [if_neg e] at h; have := lk_sel h; exact ⟨List.mem_cons_of_mem _ this.1, this.2⟩
theorem Keep.spec {L0 L : List (Nat × Assn)} : ∀ {ks : List Nat}, Keep L0 L ks → ∀ k ∈ ks, lk L k = lk L0 k
  | [], _, k, hk => by cases hk
  | j :: ks, h, k, hk => by
    rcases List.mem_cons.1 hk with rfl | hk
    · exact h.1
    · exact Keep.spec h.2 k hk
theorem Keep.refl (L : List (Nat × Assn)) : ∀ ks, Keep L L ks
  | [] => trivial
  | _ :: ks => ⟨rfl, Keep.refl L ks⟩

theorem Sat.unframe {w0 w : World} {L : List (Nat × Assn)} {R : Assn} (h : Sat w0 L R w) : Sat w0 L emp w := by
  obtain ⟨f, g, s⟩ := h.sep
  exact ⟨h.os, h.tape, h.output, f, g, s.holds, trivial, s.sub, s.gsub, s.dis, s.gdis⟩
theorem SS.of {w0 w : World} {L L0 : List (Nat × Assn)} {R : Assn} {ks : List Nat} (h : Sat w0 L R w) (hk : Keep L0 L ks) : SS w0 ks L0 w :=
  h.unframe.weaken fun k A hA => by
    obtain ⟨h1, h2⟩ := lk_sel hA
    rw [hk.spec k h1]; exact h2

class PanicOk (Q : Exit → Act → World → Prop) : Prop where
  ok : ∀ c a d v w, Q (.panic c) (a.put d v) w → Q (.panic c) a w
instance {P : Program} {fn : Func} {Rr : Ending → World → Prop} : PanicOk (bodyPost P fn Rr) := ⟨fun c a d v w h => by cases d <;> exact h⟩
instance {K : Act → World → Prop} {Q : Exit → Act → World → Prop} [h : PanicOk Q] : PanicOk (Exit.then K Q) := ⟨fun c a d v w x => h.ok c a d v w x⟩
instance {id : Nat} {Q : Exit → Act → World → Prop} [h : PanicOk Q] : PanicOk (Exit.inBlock id Q) := ⟨fun c a d v w x => h.ok c a d v w x⟩

section
variable (P : Program) (ops : Array Oper) (Q : Exit → Act → World → Prop) (S : World → Prop)
/-- the operations one by one; marked 'true': it only yields, in every world that meets S -/
def wpL : List (Bool × Oper) → Act → World → Prop
  | [], a, w => Q .normal a w
  | (true, o) :: r, a, w => ∃ v, YieldsIf P ops S o v a ∧ wpL r (a.put o.dst v) w
  | (false, o) :: r, a, w =>
    if Region.wanted o (yielded ops a.tmps) then o.wp P a w (fun a' w' => S w' ∧ wpL r a' w') Q else wpL r (a.put o.dst undef) w

def pick (l : List Oper) : List (Nat × Bool) → List (Bool × Oper)
  | [] => []
  | (i, fl) :: r => match l[i]? with
    | some o => (fl, o) :: pick l r
    | none => pick l r
def okOrd (ops : Array Oper) : List (Nat × Bool) → Array Bool → Bool
  | [], listed => (Region.ready .any ops listed).isEmpty
  | (i, fl) :: r, listed =>
    (match fl with
      | true => (Region.ready .any ops listed).contains i && Region.free .any ops listed i
      | false => (Region.ready .any ops listed) == [i]) && (ops[i]?).isSome && okOrd ops r (listed.setIfInBounds i true)
end

section
variable {P : Program} {ops : Array Oper} {Q : Exit → Act → World → Prop} {S : World → Prop}

theorem wpL_text (l : List Oper) : ∀ a w, wpL P ops Q (fun _ => True) (l.map fun o => (false, o)) a w → wpList P ops Q l a w := by
  induction l with
  | nil => exact fun a w h => h
  | cons o r ih =>
    intro a w h
    simp only [List.map_cons, wpL] at h
    unfold wpList
    split
    · rename_i hw; rw [if_pos hw] at h
      exact .inl (Oper.wp_mono (fun a' w' h' => ih a' w' h'.2) h)
    · rename_i hw; rw [if_neg hw] at h; exact ih _ _ h

theorem wpL_order [hQ : PanicOk Q] (hs : Region.noSelect ops = true) : ∀ (ord : List (Nat × Bool)) (fuel : Nat) (listed : Array Bool) (a : Act) (w : World),
    ord.length ≤ fuel → okOrd ops ord listed = true → S w → wpL P ops Q S (pick ops.toList ord) a w → wpAnyH P .any ops Q S fuel listed a w
  | [], fuel, listed, a, w, _, hok, _, h => wpAnyH_done (by simpa [okOrd] using hok) h fuel
  | (i, fl) :: r, 0, _, _, _, hl, _, _, _ => by simp at hl
  | (i, true) :: r, fuel + 1, listed, a, w, hl, hok, hS, h => by
    simp only [okOrd, Bool.and_eq_true] at hok
    obtain ⟨⟨⟨h1, h2⟩, h3⟩, h4⟩ := hok
    obtain ⟨o, ho⟩ := Option.isSome_iff_exists.1 h3
    have ho' : ops.toList[i]? = some o := by simpa using ho
    simp only [pick, ho', wpL] at h
    obtain ⟨v, hy, hr⟩ := h
    exact wpAnyH_take ho hs h2 h1 (fun c a w => hQ.ok c a o.dst v w) hy hS (wpL_order hs r fuel _ _ _ (by simpa using hl) h4 hS hr)
  | (i, false) :: r, fuel + 1, listed, a, w, hl, hok, hS, h => by
    simp only [okOrd, Bool.and_eq_true, beq_iff_eq] at hok
    obtain ⟨⟨h1, h3⟩, h4⟩ := hok
    obtain ⟨o, ho⟩ := Option.isSome_iff_exists.1 h3
    have ho' : ops.toList[i]? = some o := by simpa using ho
    simp only [pick, ho', wpL] at h
    refine wpAnyH_all h1 (by simp) fun j hj => ?_
    obtain rfl : j = i := by simpa using hj
    unfold wpOp
    simp only [ho]
    split
    · rename_i hw; rw [if_pos hw] at h
      exact .inl (Oper.wp_mono (fun a' w' h' => ⟨h'.1, wpL_order hs r fuel _ _ _ (by simpa using hl) h4 h'.1 h'.2⟩) h)
    · rename_i hw; rw [if_neg hw] at h
      exact ⟨hS, wpL_order hs r fuel _ _ _ (by simpa using hl) h4 hS h⟩
end

end Go.Eng

set_option linter.unusedVariables false
set_option linter.unusedSimpArgs false
namespace Go.Eng

/-! ## the judgements of a walk -/
section
variable (P : Program) (w0 : World) (R : Assn) (n : Nat)
def TC (c : Code) (Q : Exit → Act → World → Prop) (env : List (Nat × Value)) (L : List (Nat × Assn)) : Prop :=
  ∀ a w, Agrees n env a → Sat w0 L R w → c.wp P Q a w
def TQ (Q : Exit → Act → World → Prop) (e : Exit) (env : List (Nat × Value)) (L : List (Nat × Assn)) : Prop :=
  ∀ a w, Agrees n env a → Sat w0 L R w → Q e a w
def TL (ks : List Nat) (L0 : List (Nat × Assn)) (ops : Array Oper) (Q : Exit → Act → World → Prop) (rest : List (Bool × Oper)) (env : List (Nat × Value)) (L : List (Nat × Assn)) : Prop :=
  ∀ a w, Agrees n env a → Sat w0 L R w → SS w0 ks L0 w → wpL P ops Q (SS w0 ks L0) rest a w
/-- what a function's end must meet -/
def FQ (fn : Func) (Φ : Value → List Assn → Prop) : Exit → Act → World → Prop :=
  bodyPost P fn fun e w' => ∃ v Bs, e = .returned v ∧ Φ v Bs ∧ Sat w0 (lab 0 Bs) R w'
end

def envOf : Nat → List Value → List (Nat × Value)
  | _, [] => []
  | n, v :: r => (n, v) :: envOf (n + 1) r
theorem lk_envOf (vs : List Value) : ∀ n t, lk (envOf n vs) t = if n ≤ t then vs[t - n]? else none := by
  induction vs with
  | nil => intro n t; simp [envOf, lk]
  | cons v r ih =>
    intro n t
    rw [envOf, lk_cons, ih]
    by_cases h : n = t
    · subst h; simp
    · rw [if_neg h]
      by_cases h1 : n + 1 ≤ t
      · rw [if_pos h1, if_pos (by omega)]
        have : t - n = (t - (n + 1)) + 1 := by omega
        rw [this, List.getElem?_cons_succ]
      · rw [if_neg h1, if_neg (by omega)]

theorem Fn.enter {P : Program} {f : FuncId} {fn : Func} {c : Code} {args : List Value} {As : List Assn} {Φ : Value → List Assn → Prop} (hf : P.funcs[f]? = some fn) (hb : fn.body = some c)
    (hn : Nat.ble args.length fn.ntmps = true)
    (h : ∀ w0 R, TC P w0 R fn.ntmps c (FQ P w0 R fn Φ) (envOf 0 args) (lab 0 As)) : Fn P f args As Φ := by
  intro w0 R w hs
  refine calls_of_wp hf hb (h w0 R _ w ?_ hs)
  have hle : args.length ≤ fn.ntmps := by simpa [Nat.ble_eq] using hn
  refine ⟨rfl, by simp; omega, fun t v ht => ?_⟩
  rw [lk_envOf] at ht
  simp only [Nat.zero_le, if_true, Nat.sub_zero] at ht
  have hlt := (List.getElem?_eq_some_iff.1 ht).1
  rw [Array.getElem?_append_left (by simpa using hlt)]
  simpa using ht

section
variable {P : Program} {w0 : World} {R : Assn} {n : Nat} {Q : Exit → Act → World → Prop} {env : List (Nat × Value)} {L : List (Nat × Assn)}

theorem TC.seq {x y : Code} (h : TC P w0 R n x (Exit.then (y.wp P Q) Q) env L) : TC P w0 R n (.seq x y) Q env L := fun a w ha hs => wp_seq (h a w ha hs)
theorem TC.skip (h : TQ w0 R n Q .normal env L) : TC P w0 R n .skip Q env L := fun a w ha hs => wp_skip (h a w ha hs)
theorem TC.ret (h : TQ w0 R n Q .ret env L) : TC P w0 R n .ret Q env L := fun a w ha hs => wp_ret (h a w ha hs)
theorem TC.exit {id : Nat} (h : TQ w0 R n Q (.exit id) env L) : TC P w0 R n (.exit id) Q env L := fun a w ha hs => wp_exit (h a w ha hs)
theorem TC.block {id : Nat} {c : Code} (h : TC P w0 R n c (Exit.inBlock id Q) env L) : TC P w0 R n (.block id c) Q env L := fun a w ha hs => wp_block (h a w ha hs)
theorem TC.condT {c : Operand} {x y : Code} (hc : evO env c = some (.bool true)) (h : TC P w0 R n x Q env L) : TC P w0 R n (.cond c x y) Q env L :=
  fun a w ha hs => wp_cond_true (ha.eval hc) (h a w ha hs)
theorem TC.condF {c : Operand} {x y : Code} (hc : evO env c = some (.bool false)) (h : TC P w0 R n y Q env L) : TC P w0 R n (.cond c x y) Q env L :=
  fun a w ha hs => wp_cond_false (ha.eval hc) (h a w ha hs)
theorem TC.cond {c : Operand} {x y : Code} {b : Bool} (hc : evO env c = some (.bool b)) (ht : b = true → TC P w0 R n x Q env L) (hf : b = false → TC P w0 R n y Q env L) : TC P w0 R n (.cond c x y) Q env L :=
  fun a w ha hs => wp_cond_split (ha.eval hc) (fun e => ht e a w ha hs) (fun e => hf e a w ha hs)
theorem TC.condP {c : Operand} {x y : Code} {p : Prop} [Decidable p] (hc : evO env c = some (.bool (decide p))) (ht : p → TC P w0 R n x Q env L) (hf : ¬ p → TC P w0 R n y Q env L) : TC P w0 R n (.cond c x y) Q env L :=
  fun a w ha hs => wp_cond_split (ha.eval hc) (fun e => ht (of_decide_eq_true e) a w ha hs) (fun e => hf (of_decide_eq_false e) a w ha hs)

theorem TQ.then {y : Code} (h : TC P w0 R n y Q env L) : TQ w0 R n (Exit.then (y.wp P Q) Q) .normal env L := fun a w ha hs => h a w ha hs
theorem TQ.thenRet {K : Act → World → Prop} (h : TQ w0 R n Q .ret env L) : TQ w0 R n (Exit.then K Q) .ret env L := fun a w ha hs => h a w ha hs
theorem TQ.thenExit {K : Act → World → Prop} {id : Nat} (h : TQ w0 R n Q (.exit id) env L) : TQ w0 R n (Exit.then K Q) (.exit id) env L := fun a w ha hs => h a w ha hs
theorem TQ.inBlock {id : Nat} (h : TQ w0 R n Q .normal env L) : TQ w0 R n (Exit.inBlock id Q) .normal env L := fun a w ha hs => h a w ha hs
theorem TQ.blockRet {id : Nat} (h : TQ w0 R n Q .ret env L) : TQ w0 R n (Exit.inBlock id Q) .ret env L := fun a w ha hs => h a w ha hs
theorem TQ.blockHere {id : Nat} (h : TQ w0 R n Q .normal env L) : TQ w0 R n (Exit.inBlock id Q) (.exit id) env L := fun a w ha hs => by
  simp only [Exit.inBlock, if_true]; exact h a w ha hs
theorem TQ.blockOut {id id' : Nat} (hne : Nat.beq id' id = false) (h : TQ w0 R n Q (.exit id') env L) : TQ w0 R n (Exit.inBlock id Q) (.exit id') env L := fun a w ha hs => by
  have : id' ≠ id := fun e => by subst e; rw [Nat.beq_refl] at hne; cases hne
  simp only [Exit.inBlock, if_neg this]; exact h a w ha hs
/-- forget -/
theorem TQ.sub {e : Exit} {env' : List (Nat × Value)} {L' : List (Nat × Assn)} (he : subE env env') (hL : subE L L') (h : TQ w0 R n Q e env' L') : TQ w0 R n Q e env L :=
  fun a w ha hs => h a w (ha.sub (subE_spec he)) (hs.weaken (subE_spec hL))
theorem TC.sub {c : Code} {env' : List (Nat × Value)} {L' : List (Nat × Assn)} (he : subE env env') (hL : subE L L') (h : TC P w0 R n c Q env' L') : TC P w0 R n c Q env L :=
  fun a w ha hs => h a w (ha.sub (subE_spec he)) (hs.weaken (subE_spec hL))

/-- a loop: what holds at the head of a round is told by a parameter -/
theorem TC.loop {X : Type} {c : Code} (E : X → List (Nat × Value)) (M : X → List (Nat × Assn)) (I : X → Prop) (μ : X → Nat) (x0 : X) (hI : I x0) (he : subE env (E x0)) (hL : subE L (M x0))
    (round : ∀ x, I x → TC P w0 R n c (Exit.then (fun a w => ∃ x', (I x' ∧ μ x' < μ x) ∧ Agrees n (E x') a ∧ Sat w0 (M x') R w) Q) (E x) (M x)) : TC P w0 R n (.loop c) Q env L := by
  intro a w ha hs b k cs
  have key : ∀ m x a w, μ x = m → I x → Agrees n (E x) a → Sat w0 (M x) R w → ∃ e a' w', Q e a' w' ∧ Arrives P (lone (b.at a (.code c :: .inLoop c :: k)) cs w) b k cs e a' w' := by
    intro m
    induction m using Nat.strongRecOn with
    | _ m ih =>
      intro x a w hm hIx ha hs
      obtain ⟨e, a₁, w₁, hq, harr⟩ := round x hIx a w ha hs b (.inLoop c :: k) cs
      cases e with
      | normal =>
        obtain ⟨x', ⟨hI', hlt⟩, ha', hs'⟩ := hq
        obtain ⟨e₂, a₂, w₂, hq₂, harr₂⟩ := ih (μ x') (hm ▸ hlt) x' a₁ w₁ rfl hI' ha' hs'
        exact ⟨e₂, a₂, w₂, hq₂, .of_steps (Steps.trans harr (.one step_inLoop)) harr₂⟩
      | exit id => exact ⟨_, a₁, w₁, hq, .pass (x := .inLoop c) rfl (fun _ _ => .inl (by simp)) harr⟩
      | goto l => exact ⟨_, a₁, w₁, hq, .pass (x := .inLoop c) rfl (fun _ _ => .inl (by simp)) harr⟩
      | ret => exact ⟨_, a₁, w₁, hq, .pass (x := .inLoop c) rfl (fun _ _ => .inl (by simp)) harr⟩
      | panic ch => exact ⟨_, a₁, w₁, hq, .pass (x := .inLoop c) rfl (fun _ _ => .inl (by simp)) harr⟩
      | outgrown => exact ⟨_, a₁, w₁, hq, .pass (x := .inLoop c) rfl (fun _ _ => .inl (by simp)) harr⟩
  obtain ⟨e, a', w', hq, harr⟩ := key _ x0 a w rfl hI (ha.sub (subE_spec he)) (hs.weaken (subE_spec hL))
  exact ⟨e, a', w', hq, .of_steps (.one step_loop) harr⟩
theorem TQ.round {X : Type} {E : X → List (Nat × Value)} {M : X → List (Nat × Assn)} {J : X → Prop} (x' : X) (hJ : J x') (he : subE env (E x')) (hL : subE L (M x')) :
    TQ w0 R n (Exit.then (fun a w => ∃ x', J x' ∧ Agrees n (E x') a ∧ Sat w0 (M x') R w) Q) .normal env L :=
  fun _ _ ha hs => ⟨x', hJ, ha.sub (subE_spec he), hs.weaken (subE_spec hL)⟩

/-! ### the end of a function -/
def lksB (L : List (Nat × Assn)) : List Nat → List Assn → Prop := lks L
theorem Sat.back {w : World} {ks : List Nat} {Bs : List Assn} (hs : Sat w0 L R w) (hn : nodupB ks = true) (h : lks L ks Bs) : Sat w0 (lab 0 Bs) R w := by
  obtain ⟨hlen, hlk⟩ := lks_spec h
  obtain ⟨f, g, s⟩ := hs.sep
  refine ⟨hs.os, hs.tape, hs.output, fun t => match ks[t]? with | some k => f k | none => fun _ => none, g, ?_, s.frame, ?_, s.gsub, ?_, ?_⟩
  · intro t A hA
    rw [lk_lab0] at hA
    have h2 := (List.getElem?_eq_some_iff.1 hA).1
    have hk : ks[t]? = some (ks[t]'(by omega)) := List.getElem?_eq_getElem (by omega)
    simp only [hk]
    exact s.holds _ A ((hlk t _ hk).trans hA)
  · intro t c o hc
    cases hk : ks[t]? with
    | none => simp only [hk] at hc; cases hc
    | some k => simp only [hk] at hc; exact s.sub k c o hc
  · intro i j hij c
    cases hi : ks[i]? with
    | none => exact .inl (by simp [hi])
    | some k =>
      cases hj : ks[j]? with
      | none => exact .inr (by simp [hj])
      | some l =>
        simp only [hi, hj]
        refine s.dis k l (fun e => hij ?_) c
        subst e
        obtain ⟨hi', he⟩ := List.getElem?_eq_some_iff.1 hi
        obtain ⟨hj', he'⟩ := List.getElem?_eq_some_iff.1 hj
        exact (List.getElem_inj (nodupB_spec hn)).1 (he.trans he'.symm)
  · intro i c
    cases hi : ks[i]? with
    | none => exact .inl (by simp [hi])
    | some k => simp only [hi]; exact s.gdis k c

theorem FQ.of {fn : Func} {Φ : Value → List Assn → Prop} {e : Exit} (he : e = .ret ∨ e = .normal) {v : Value} {Bs : List Assn} (ks : List Nat)
    (hv : ∀ a w, Agrees n env a → Sat w0 L R w → (results fn a.tmps).run P w = .ok v w) (hn : nodupB ks = true) (hΦ : Φ v Bs) (hB : lks L ks Bs) : TQ w0 R n (FQ P w0 R fn Φ) e env L := by
  intro a w ha hs
  have : bodyPost P fn (fun e w' => ∃ v Bs, e = .returned v ∧ Φ v Bs ∧ Sat w0 (lab 0 Bs) R w') .ret a w := ⟨ha.defers, v, hv a w ha hs, v, Bs, rfl, hΦ, hs.back hn hB⟩
  rcases he with rfl | rfl
  · exact this
  · exact this
theorem getD_of {a : Act} {t : Nat} {v : Value} (ha : Agrees n env a) (h : lk env t = some v) : a.tmps.getD t undef = v := by
  rw [Array.getD_eq_getD_getElem?, ha.get t v h]; rfl
theorem FQ.ret0 {fn : Func} {Φ : Value → List Assn → Prop} (ks : List Nat) {Bs : List Assn} (hr : fn.results = #[]) (hn : nodupB ks = true) (hB : lks L ks Bs) (hΦ : Φ (.tuple #[]) Bs) : TQ w0 R n (FQ P w0 R fn Φ) .ret env L :=
  FQ.of (.inl rfl) ks (fun a w _ _ => results_none hr _ _ _) hn hΦ hB
theorem FQ.end0 {fn : Func} {Φ : Value → List Assn → Prop} (ks : List Nat) {Bs : List Assn} (hr : fn.results = #[]) (hn : nodupB ks = true) (hB : lks L ks Bs) (hΦ : Φ (.tuple #[]) Bs) : TQ w0 R n (FQ P w0 R fn Φ) .normal env L :=
  FQ.of (.inr rfl) ks (fun a w _ _ => results_none hr _ _ _) hn hΦ hB
theorem FQ.ret1 {fn : Func} {Φ : Value → List Assn → Prop} {t : Nat} {v : Value} (ks : List Nat) {Bs : List Assn} (hr : fn.results = #[.tmp t]) (hv : lk env t = some v) (hn : nodupB ks = true) (hB : lks L ks Bs) (hΦ : Φ v Bs) : TQ w0 R n (FQ P w0 R fn Φ) .ret env L :=
  FQ.of (.inl rfl) ks (fun a w ha _ => by rw [results_tmp hr, getD_of ha hv]) hn hΦ hB
theorem FQ.ret2 {fn : Func} {Φ : Value → List Assn → Prop} {t u : Nat} {v x : Value} (ks : List Nat) {Bs : List Assn} (hr : fn.results = #[.tmp t, .tmp u]) (hv : lk env t = some v) (hx : lk env u = some x) (hn : nodupB ks = true) (hB : lks L ks Bs)
    (hΦ : Φ (.tuple #[v, x]) Bs) : TQ w0 R n (FQ P w0 R fn Φ) .ret env L :=
  FQ.of (.inl rfl) ks (fun a w ha _ => by rw [results_tmp2 hr, getD_of ha hv, getD_of ha hx]) hn hΦ hB
theorem FQ.ret3 {fn : Func} {Φ : Value → List Assn → Prop} {t u s : Nat} {v x y : Value} (ks : List Nat) {Bs : List Assn} (hr : fn.results = #[.tmp t, .tmp u, .tmp s]) (hv : lk env t = some v) (hx : lk env u = some x) (hy : lk env s = some y) (hn : nodupB ks = true) (hB : lks L ks Bs)
    (hΦ : Φ (.tuple #[v, x, y]) Bs) : TQ w0 R n (FQ P w0 R fn Φ) .ret env L :=
  FQ.of (.inl rfl) ks (fun a w ha _ => by simp [results, hr, ha.get t v hv, ha.get u x hx, ha.get s y hy]) hn hΦ hB

/-! ### regions -/
def text (l : List Oper) : List (Bool × Oper) := l.map fun o => (false, o)
theorem wpL_text' {ops : Array Oper} {S : World → Prop} (l : List Oper) : ∀ a w, wpL P ops Q S (text l) a w → wpList P ops Q l a w := by
  induction l with
  | nil => exact fun a w h => h
  | cons o r ih =>
    intro a w h
    simp only [text, List.map_cons, wpL] at h
    unfold wpList
    split
    · rename_i hw; rw [if_pos hw] at h
      exact .inl (Oper.wp_mono (fun a' w' h' => ih a' w' h'.2) h)
    · rename_i hw; rw [if_neg hw] at h; exact ih _ _ h
theorem TC.region {id : Nat} {l : List Oper} (h : TL P w0 R n [] [] l.toArray Q (text l) env L) : TC P w0 R n (.region id l.toArray false) Q env L :=
  fun a w ha hs => wp_region_lit (wpL_text' l a w (h a w ha hs (SS.of hs trivial)))
def regOk (l : List Oper) (ord : List (Nat × Bool)) : Bool :=
  Region.noSelect l.toArray && Nat.ble ord.length l.length && okOrd l.toArray ord (Array.replicate l.length false)
theorem TC.draw {id : Nat} {l : List Oper} (ord : List (Nat × Bool)) (ks : List Nat) (hm : P.follows .mixedOrders = true) (hok : regOk l ord = true) [PanicOk Q]
    (h : TL P w0 R n ks L l.toArray Q (pick l ord) env L) : TC P w0 R n (.region id l.toArray true) Q env L := by
  intro a w ha hs
  simp only [regOk, Bool.and_eq_true] at hok
  obtain ⟨⟨h1, h2⟩, h3⟩ := hok
  have hs' := hs.drawn (w.drawn + 1)
  refine wp_region_held hm (S := SS w0 ks L) (wpL_order h1 ord _ _ _ _ ?_ (by simpa using h3) (SS.of hs' (Keep.refl L ks)) ?_)
  · simpa [Nat.ble_eq] using h2
  · simpa using h a _ ha hs' (SS.of hs' (Keep.refl L ks))

variable {ks : List Nat} {L0 : List (Nat × Assn)} {ops : Array Oper} {rest : List (Bool × Oper)}
theorem TL.done (h : TQ w0 R n Q .normal env L) : TL P w0 R n ks L0 ops Q [] env L := fun a w ha hs _ => h a w ha hs

/-- what a guard says -/
def guardV (ops : Array Oper) (env : List (Nat × Value)) : Option (Nat × Bool) → Option Bool
  | none => some true
  | some (j, want) => match (ops.toList[j]?).bind (·.dst) with
    | some t => match lk env t with
      | some (.bool b) => some (b == want)
      | some _ => some false
      | none => none
    | none => none
theorem guardV_spec {o : Oper} {a : Act} {b : Bool} (ha : Agrees n env a) (h : guardV ops env o.guard = some b) : Region.wanted o (yielded ops a.tmps) = b := by
  unfold Region.wanted
  cases hg : o.guard with
  | none => rw [hg] at h; simpa [guardV] using h
  | some p =>
    obtain ⟨j, want⟩ := p
    rw [hg] at h
    simp only [guardV] at h
    cases ht : (ops.toList[j]?).bind (·.dst) with
    | none => rw [ht] at h; cases h
    | some t =>
      rw [ht] at h
      dsimp only at h
      have ht' : (ops[j]?).bind (·.dst) = some t := by simpa using ht
      dsimp only
      cases hl : lk env t with
      | none => rw [hl] at h; cases h
      | some v =>
        have hv := ha.get t v hl
        rw [hl] at h
        simp only [yielded, ht', Option.bind_some, hv]
        cases v <;> simp_all

/-- an operation that is not wanted -/
theorem TL.off {fl : Bool} {o : Oper} (hg : guardV ops env o.guard = some false) (hd : okD n o.dst = true) (h : TL P w0 R n ks L0 ops Q rest (setE env o.dst undef) L) :
    TL P w0 R n ks L0 ops Q ((fl, o) :: rest) env L := by
  intro a w ha hs hS
  have hw := guardV_spec ha hg
  cases fl with
  | true => exact ⟨undef, .inr ⟨hw, rfl⟩, h _ w (ha.put hd _) hs hS⟩
  | false => simp only [wpL, hw]; exact h _ w (ha.put hd _) hs hS

/-- an operation that yields a value and leaves the world -/
theorem TL.val {fl : Bool} {o : Oper} {v : Value} (hg : guardV ops env o.guard = some true) (hd : okD n o.dst = true)
    (hrun : ∀ a w, Agrees n env a → (fl = false → Sat w0 L R w) → (fl = true → SS w0 ks L0 w) → (execOp a.eval o).run P w = .ok (.value v) w)
    (h : TL P w0 R n ks L0 ops Q rest (setE env o.dst v) L) : TL P w0 R n ks L0 ops Q ((fl, o) :: rest) env L := by
  intro a w ha hs hS
  have hw := guardV_spec ha hg
  cases fl with
  | true => exact ⟨v, .inl ⟨hw, fun w' hS' => hrun a w' ha (fun e => by cases e) (fun _ => hS')⟩, h _ w (ha.put hd _) hs hS⟩
  | false =>
    simp only [wpL, hw, if_true, Oper.wp, hrun a w ha (fun _ => hs) (fun e => by cases e), Oper.upon]
    exact ⟨hS, h _ w (ha.put hd _) hs hS⟩
/-- .. whatever the world -/
theorem TL.pure {fl : Bool} {o : Oper} {v : Value} (hg : guardV ops env o.guard = some true) (hd : okD n o.dst = true)
    (hrun : ∀ a w, Agrees n env a → (execOp a.eval o).run P w = .ok (.value v) w)
    (h : TL P w0 R n ks L0 ops Q rest (setE env o.dst v) L) : TL P w0 R n ks L0 ops Q ((fl, o) :: rest) env L :=
  TL.val hg hd (fun a w ha _ _ => hrun a w ha) h
/-- an operation that turns the world -/
theorem TL.act {o : Oper} (hg : guardV ops env o.guard = some true) (hd : okD n o.dst = true)
    (hrun : ∀ a w, Agrees n env a → Sat w0 L R w → ∃ v w' L', ((execOp a.eval o).run P w = .ok (.value v) w' ∨ (v = undef ∧ (execOp a.eval o).run P w = .ok .skip w')) ∧ Sat w0 L' R w' ∧ Keep L0 L' ks ∧
      TL P w0 R n ks L0 ops Q rest (setE env o.dst v) L') : TL P w0 R n ks L0 ops Q ((false, o) :: rest) env L := by
  intro a w ha hs hS
  have hw := guardV_spec ha hg
  obtain ⟨v, w', L', hr, hs', hk, h⟩ := hrun a w ha hs
  have hS' := SS.of hs' hk
  rcases hr with hr | ⟨rfl, hr⟩
  · simp only [wpL, hw, if_true, Oper.wp, hr, Oper.upon]
    exact ⟨hS', h _ w' (ha.put hd _) hs' hS'⟩
  · simp only [wpL, hw, if_true, Oper.wp, hr, Oper.upon]
    exact ⟨hS', h _ w' (ha.put hd _) hs' hS'⟩
/-- an operation that enters a function -/
theorem TL.enter {o : Oper} {f : FuncId} {args : List Value} {As : List Assn} {Φ : Value → List Assn → Prop} (ids ids' : List Nat) (hg : guardV ops env o.guard = some true) (hd : okD n o.dst = true)
    (hrun : ∀ a w, Agrees n env a → Sat w0 L R w → (execOp a.eval o).run P w = .ok (.enter f args.toArray) w) (hc : Fn P f args As Φ)
    (hn : nodupB ids' = true) (hp : prefB ids ids' = true) (hAs : lks L ids As)
    (h : ∀ v Bs, Φ v Bs → ids'.length = Bs.length ∧ Keep L0 (labs ids' Bs L) ks ∧ TL P w0 R n ks L0 ops Q rest (setE env o.dst v) (labs ids' Bs L)) :
    TL P w0 R n ks L0 ops Q ((false, o) :: rest) env L := by
  intro a w ha hs hS
  have hw := guardV_spec ha hg
  have hnd := nodupB_spec hn
  have hids : ids.Nodup := by
    have sp : ∀ {x y : List Nat}, prefB x y = true → y.Nodup → x.Nodup := by
      intro x
      induction x with
      | nil => intro y _ _; exact List.nodup_nil
      | cons k r ih =>
        intro y hxy hy
        cases y with
        | nil => simp [prefB] at hxy
        | cons b s =>
          simp only [prefB, Bool.and_eq_true] at hxy
          have e := Nat.eq_of_beq_eq_true hxy.1
          subst e
          obtain ⟨h1, h2⟩ := List.nodup_cons.1 hy
          exact List.nodup_cons.2 ⟨fun hm => h1 (prefB_spec hxy.2 k hm), ih hxy.2 h2⟩
    exact sp hp hnd
  have hgive := hs.give hids hAs
  simp only [wpL, hw, if_true, Oper.wp, hrun a w ha hs, Oper.upon]
  refine Calls.mono (hc w0 _ w hgive) ?_
  rintro e w' ⟨v, Bs, rfl, hΦ, hs'⟩
  obtain ⟨hl, hk, ht⟩ := h v Bs hΦ
  have hs2 := Sat.take hs' hnd (prefB_spec hp) hl
  have hS2 := SS.of hs2 hk
  exact ⟨hS2, ht _ w' (ha.put hd _) hs2 hS2⟩
end
end Go.Eng

set_option linter.unusedVariables false
set_option linter.unusedSimpArgs false
namespace Go.Eng

/-! ## facts of types, as Bools -/
def isAggD : TypeDesc → Bool
  | .struct _ | .array _ _ => true
  | _ => false
/-- one cell -/
def scalB (P : Program) (T : TypeId) : Bool :=
  match P.underlying T, P.info? T with
  | some d, some i => !isAggD d && Nat.beq i.size 1
  | _, _ => false
/-- a struct or an array of n cells -/
def aggB (P : Program) (T : TypeId) (n : Nat) : Bool :=
  match P.underlying T, P.info? T with
  | some d, some i => isAggD d && Nat.beq i.size n
  | _, _ => false
/-- field f of a struct: its offset (no field without cells) -/
def fldB (P : Program) (T : TypeId) (f off : Nat) : Bool :=
  match P.underlying T with
  | some (.struct fs) => match fs[f]? with
    | some fd => Nat.beq fd.offset off && (match P.info? fd.type with | some i => !Nat.beq i.size 0 | none => false)
    | none => false
  | _ => false
/-- a field as a value: its type, its offset -/
def fldTB (P : Program) (T : TypeId) (f off t : Nat) : Bool :=
  match P.underlying T with
  | some (.struct fs) => match fs[f]? with
    | some fd => Nat.beq fd.offset off && Nat.beq fd.type t
    | none => false
  | _ => false
/-- a slice type, its element's type and size -/
def sliceB (P : Program) (T E size : Nat) : Bool :=
  match P.underlying T, P.info? E with
  | some (.slice e), some i => Nat.beq e E && Nat.beq i.size size
  | _, _ => false
def arrayB (P : Program) (T len E size : Nat) : Bool :=
  match P.underlying T, P.info? E with
  | some (.array m e), some i => Nat.beq m len && Nat.beq e E && Nat.beq i.size size
  | _, _ => false
def intB (P : Program) (T : TypeId) (k : IntKind) : Bool :=
  match P.underlying T with
  | some (.int j) => decide (j = k)
  | _ => false
def boolB (P : Program) (T : TypeId) : Bool :=
  match P.underlying T with
  | some .bool => true
  | _ => false
def ptrB (P : Program) (T : TypeId) : Bool :=
  match P.underlying T with
  | some (.pointer e) => match P.info? e with | some i => !Nat.beq i.size 0 | none => false
  | _ => false
def ifaceB (P : Program) (T : TypeId) : Bool :=
  match P.underlying T with
  | some (.interface _) => true
  | _ => false

/-- a value of one cell -/
def one : Value → Bool
  | .agg _ | .tuple _ => false
  | _ => true

section
variable {P : Program}
theorem scalB_spec {T : TypeId} (h : scalB P T = true) : ∃ d i, P.underlying T = some d ∧ isAggD d = false ∧ P.info? T = some i ∧ i.size = 1 := by
  unfold scalB at h
  split at h
  · rename_i d i hd hi
    simp only [Bool.and_eq_true, Bool.not_eq_true'] at h
    exact ⟨d, i, hd, h.1, hi, Nat.eq_of_beq_eq_true h.2⟩
  · cases h
theorem aggB_spec {T : TypeId} {n : Nat} (h : aggB P T n = true) : ∃ d i, P.underlying T = some d ∧ isAggD d = true ∧ P.info? T = some i ∧ i.size = n := by
  unfold aggB at h
  split at h
  · rename_i d i hd hi
    simp only [Bool.and_eq_true] at h
    exact ⟨d, i, hd, h.1, hi, Nat.eq_of_beq_eq_true h.2⟩
  · cases h
theorem fldB_spec {T : TypeId} {f off : Nat} (h : fldB P T f off = true) : ∃ fs fd i, P.underlying T = some (.struct fs) ∧ fs[f]? = some fd ∧ fd.offset = off ∧ P.info? fd.type = some i ∧ i.size ≠ 0 := by
  unfold fldB at h
  split at h
  · rename_i fs hd
    split at h
    · rename_i fd hf
      simp only [Bool.and_eq_true] at h
      obtain ⟨h1, h2⟩ := h
      split at h2
      · rename_i i hi
        refine ⟨fs, fd, i, hd, hf, Nat.eq_of_beq_eq_true h1, hi, fun e => ?_⟩
        rw [e] at h2; cases h2
      · cases h2
    · cases h
  · cases h
theorem fldTB_spec {T : TypeId} {f off t : Nat} (h : fldTB P T f off t = true) : ∃ fs fd, P.underlying T = some (.struct fs) ∧ fs[f]? = some fd ∧ fd.offset = off ∧ fd.type = t := by
  unfold fldTB at h
  split at h
  · rename_i fs hd
    split at h
    · rename_i fd hf
      simp only [Bool.and_eq_true] at h
      exact ⟨fs, fd, hd, hf, Nat.eq_of_beq_eq_true h.1, Nat.eq_of_beq_eq_true h.2⟩
    · cases h
  · cases h
theorem sliceB_spec {T E size : Nat} (h : sliceB P T E size = true) : ∃ i, P.underlying T = some (.slice E) ∧ P.info? E = some i ∧ i.size = size := by
  unfold sliceB at h
  split at h
  · rename_i e i hd hi
    simp only [Bool.and_eq_true] at h
    have := Nat.eq_of_beq_eq_true h.1; subst this
    exact ⟨i, hd, hi, Nat.eq_of_beq_eq_true h.2⟩
  · cases h
theorem arrayB_spec {T len E size : Nat} (h : arrayB P T len E size = true) : ∃ i, P.underlying T = some (.array len E) ∧ P.info? E = some i ∧ i.size = size := by
  unfold arrayB at h
  split at h
  · rename_i m e i hd hi
    simp only [Bool.and_eq_true] at h
    have := Nat.eq_of_beq_eq_true h.1.1; subst this
    have := Nat.eq_of_beq_eq_true h.1.2; subst this
    exact ⟨i, hd, hi, Nat.eq_of_beq_eq_true h.2⟩
  · cases h
theorem intB_spec {T : TypeId} {k : IntKind} (h : intB P T k = true) : P.underlying T = some (.int k) := by
  unfold intB at h
  split at h
  · rename_i j hd; have := of_decide_eq_true h; subst this; exact hd
  · cases h
theorem boolB_spec {T : TypeId} (h : boolB P T = true) : P.underlying T = some .bool := by
  unfold boolB at h
  split at h
  · assumption
  · cases h
theorem ifaceB_spec {T : TypeId} (h : ifaceB P T = true) : ∃ ms, P.underlying T = some (.interface ms) := by
  unfold ifaceB at h
  split at h
  · exact ⟨_, by assumption⟩
  · cases h
theorem ptrB_spec {T : TypeId} (h : ptrB P T = true) : ∃ e i, P.underlying T = some (.pointer e) ∧ P.info? e = some i ∧ i.size ≠ 0 := by
  unfold ptrB at h
  split at h
  · rename_i e he
    split at h
    · rename_i i hi; exact ⟨e, i, he, hi, fun e => by rw [e] at h; cases h⟩
    · cases h
  · cases h

@[simp] theorem run_pure {α : Type} (a : α) (w : World) : (Pure.pure a : Sem α).run P w = .ok a w := rfl
theorem run_bind {α β : Type} (s : Sem α) (f : α → Sem β) (w : World) :
    (s >>= f).run P w = match s.run P w with
      | .ok a w' => (f a).run P w'
      | .halt h w' => .halt h w' := by
  show (Sem.bind s f).run P w = _
  induction s generalizing w with
  | pure a => rfl
  | load m a k ih =>
    simp only [Sem.bind, Sem.run]
    cases w.cell? a with
    | some v => exact ih v w
    | none => dsimp only; cases w.farLoad P a (m == .atomic) with
      | ok r => obtain ⟨v, t⟩ := r; exact ih v w
      | error h => rfl
  | store m a v k ih =>
    have gen : ∀ (hv : ∀ cs, v ≠ .agg cs) (hv' : ∀ cs, v ≠ .tuple cs), (Sem.bind (.store m a v k) f).run P w = match (Sem.store m a v k).run P w with | .ok a w' => (f a).run P w' | .halt h w' => .halt h w' := by
      intro hv hv'
      simp only [Sem.bind]
      cases v <;> first
        | exact absurd rfl (hv _)
        | exact absurd rfl (hv' _)
        | (simp only [Sem.run]
           cases w.cell? a with
           | some u => dsimp only; split; · rfl
                       · exact ih _
           | none => dsimp only; cases w.farStore P a _ (m == .atomic) with
             | ok r => obtain ⟨w', t⟩ := r; exact ih w'
             | error h => rfl)
    cases v
    case agg => rfl
    case tuple => rfl
    all_goals exact gen (by intro _ h; cases h) (by intro _ h; cases h)
  | new o k ih => exact ih _ _
  | shape r k ih => exact ih _ _
  | freeze a n k ih => exact ih _
  | frozen a k ih => exact ih _ _
  | getObj r k ih =>
    simp only [Sem.bind, Sem.run]
    split
    · rfl
    · exact ih _ _
    · rfl
  | setObj r o k ih =>
    simp only [Sem.bind, Sem.run]
    split
    · rfl
    · exact ih _
    · rfl
  | choose q k ih =>
    simp only [Sem.bind, Sem.run]
    split
    · exact ih _ _
    · exact ih _ _
  | sys c k ih => exact ih _ _
  | program k ih => exact ih _ _
  | mark m k ih => exact ih _
  | halt h => rfl

theorem run_underlying {T : TypeId} {d : TypeDesc} (h : P.underlying T = some d) (w : World) : (underlying T).run P w = .ok d w := by
  simp [underlying, run_bind, program, Sem.run, h]
theorem run_typeInfo {T : TypeId} {i : TypeInfo} (h : P.info? T = some i) (w : World) : (typeInfo T).run P w = .ok i w := by
  simp [typeInfo, run_bind, program, Sem.run, h]
theorem run_sizeOf {T : TypeId} {i : TypeInfo} (h : P.info? T = some i) (w : World) : (sizeOf T).run P w = .ok i.size w := by
  simp [sizeOf, run_bind, run_typeInfo h]
theorem run_isAgg {T : TypeId} {d : TypeDesc} (h : P.underlying T = some d) (w : World) : (isAgg T).run P w = .ok (isAggD d) w := by
  simp only [isAgg, run_bind, run_underlying h]
  cases d <;> rfl
theorem run_load {a : Addr} {v : Value} {w : World} (h : w.cell? a = some v) : (load a).run P w = .ok v w := by
  simp [load, Sem.run, h]
theorem run_store {a : Addr} {v u : Value} {w : World} (h : w.cell? a = some u) (hf : w.frozen? a = false) (hv : one v = true) : (store a v).run P w = .ok () (w.setCell a v) := by
  cases v
  case agg => cases hv
  case tuple => cases hv
  all_goals simp [store, Sem.run, h, hf]
theorem one_cells {v : Value} (hv : one v = true) : v.cells = #[v] := by
  cases v
  case agg => cases hv
  all_goals rfl

/-- an element of a list (it reduces) -/
def nth {α : Type _} : List α → Nat → Option α
  | [], _ => none
  | v :: _, 0 => some v
  | _ :: r, n + 1 => nth r n
theorem nth_eq {α : Type _} : ∀ (l : List α) (n : Nat), nth l n = l[n]?
  | [], _ => by simp [nth]
  | v :: r, 0 => by simp [nth]
  | v :: r, n + 1 => by simp [nth, nth_eq r n]
theorem nthA {cs : Array Value} {off : Nat} {v : Value} (h : nth cs.toList off = some v) : cs[off]? = some v := by rw [nth_eq] at h; simpa using h
/-- a row of cells of a known block -/
def lkCs (cs : Array Value) : Nat → Nat → Option (List Value)
  | _, 0 => some []
  | off, n + 1 => match nth cs.toList off, lkCs cs (off + 1) n with
    | some v, some r => some (v :: r)
    | _, _ => none
end
end Go.Eng

set_option linter.unusedVariables false
set_option linter.unusedSimpArgs false
namespace Go.Eng
section
variable {P : Program} {w0 : World} {R : Assn} {n : Nat} {Q : Exit → Act → World → Prop} {env : List (Nat × Value)} {L : List (Nat × Assn)}
variable {ks : List Nat} {L0 : List (Nat × Assn)} {ops : Array Oper} {rest : List (Bool × Oper)}
variable {fl : Bool} {d : Option Tmp} {x y z : Operand} {ty T z' : TypeId} {ps : String} {af : Array Edge} {g : Option (Nat × Bool)} {v u : Value}

theorem TL.mv (v : Value) (hx : evO env x = some v) (hg : guardV ops env g = some true) (hd : okD n d = true) (h : TL P w0 R n ks L0 ops Q rest (setE env d v) L) :
    TL P w0 R n ks L0 ops Q ((fl, ⟨d, .move x, ty, ps, af, g⟩) :: rest) env L :=
  TL.pure hg hd (fun a w ha => by simp [execOp, ha.eval hx]) h
theorem TL.asg (v : Value) (hx : evO env x = some v) (hg : guardV ops env g = some true) (hd : okD n d = true) (h : TL P w0 R n ks L0 ops Q rest (setE env d v) L) :
    TL P w0 R n ks L0 ops Q ((fl, ⟨d, .assign x, ty, ps, af, g⟩) :: rest) env L :=
  TL.pure hg hd (fun a w ha => by simp [execOp, ha.eval hx]) h
theorem TL.pickT (v : Value) (hx : evO env x = some (.bool true)) (hy : evO env y = some v) (hg : guardV ops env g = some true) (hd : okD n d = true) (h : TL P w0 R n ks L0 ops Q rest (setE env d v) L) :
    TL P w0 R n ks L0 ops Q ((fl, ⟨d, .pick x y z, ty, ps, af, g⟩) :: rest) env L :=
  TL.pure hg hd (fun a w ha => by simp [execOp, ha.eval hx, ha.eval hy, run_bind, asBool]) h
theorem TL.pickF (v : Value) (hx : evO env x = some (.bool false)) (hz : evO env z = some v) (hg : guardV ops env g = some true) (hd : okD n d = true) (h : TL P w0 R n ks L0 ops Q rest (setE env d v) L) :
    TL P w0 R n ks L0 ops Q ((fl, ⟨d, .pick x y z, ty, ps, af, g⟩) :: rest) env L :=
  TL.pure hg hd (fun a w ha => by simp [execOp, ha.eval hx, ha.eval hz, run_bind, asBool]) h

/-! ### new variables -/
theorem run_box {w : World} (T : TypeId) (v : Value) : (Instr.box T v).run P w = .ok (.pointer (some ⟨w.heap.size, 0, none⟩)) { w with heap := w.heap.push (.cells v.cells T) } := by
  simp [Instr.box, newVar, newRow, newObj, run_bind, Sem.run]
theorem TL.boxA (k : Nat) {cs : Array Value} (hx : evO env x = some (.agg cs)) (hg : guardV ops env g = some true) (hd : okD n d = true) (hk : ∀ b, Keep L0 ((k, pt b (.cells cs T)) :: L) ks)
    (h : ∀ b, TL P w0 R n ks L0 ops Q rest (setE env d (.pointer (some ⟨b, 0, none⟩))) ((k, pt b (.cells cs T)) :: L)) :
    TL P w0 R n ks L0 ops Q ((false, ⟨d, .box T x, ty, ps, af, g⟩) :: rest) env L :=
  TL.act hg hd fun a w ha hs => ⟨_, _, _, .inl (by simp [execOp, ha.eval hx, run_bind, run_box, Value.cells]), hs.alloc k _, hk _, h _⟩
theorem TL.box1 (k : Nat) (v : Value) (hx : evO env x = some v) (h1 : one v = true) (hg : guardV ops env g = some true) (hd : okD n d = true) (hk : ∀ b, Keep L0 ((k, pt b (.cells #[v] T)) :: L) ks)
    (h : ∀ b, TL P w0 R n ks L0 ops Q rest (setE env d (.pointer (some ⟨b, 0, none⟩))) ((k, pt b (.cells #[v] T)) :: L)) :
    TL P w0 R n ks L0 ops Q ((false, ⟨d, .box T x, ty, ps, af, g⟩) :: rest) env L :=
  TL.act hg hd fun a w ha hs => ⟨_, _, _, .inl (by simp [execOp, ha.eval hx, run_bind, run_box, one_cells h1]), hs.alloc k _, hk _, h _⟩

def zeroV (P : Program) (T : TypeId) : Option Value := (P.info? T).bind (·.zero)
theorem run_zeroValue {w : World} (h : zeroV P T = some v) : (zeroValue T).run P w = .ok v w := by
  unfold zeroV at h
  cases hi : P.info? T with
  | none => rw [hi] at h; cases h
  | some i => rw [hi] at h; simp at h; simp [zeroValue, run_bind, run_typeInfo hi, h]
theorem TL.alloc (k : Nat) {cs : Array Value} (hz : zeroV P T = some v) (hc : v.cells = cs) (hg : guardV ops env g = some true) (hd : okD n d = true) (hk : ∀ b, Keep L0 ((k, pt b (.cells cs T)) :: L) ks)
    (h : ∀ b, TL P w0 R n ks L0 ops Q rest (setE env d (.pointer (some ⟨b, 0, none⟩))) ((k, pt b (.cells cs T)) :: L)) :
    TL P w0 R n ks L0 ops Q ((false, ⟨d, .alloc T, ty, ps, af, g⟩) :: rest) env L :=
  TL.act hg hd fun a w ha hs => ⟨_, _, _, .inl (by simp [execOp, run_bind, Instr.alloc, run_zeroValue hz, newVar, newRow, newObj, Sem.run, hc]), hs.alloc k _, hk _, h _⟩

/-! ### loads and stores -/
theorem loadCells_run {w : World} {b off : Nat} {cs : Array Value} {T' : TypeId} {fz : Nat × Nat} (hb : w.heap[b]? = some (.cells cs T' fz)) :
    ∀ (m i : Nat) (acc vs : List Value), lkCs cs (off + i) m = some vs → (loadCellsFrom ⟨b, off, none⟩ i m acc.toArray).run P w = .ok (acc ++ vs).toArray w := by
  intro m
  induction m with
  | zero => intro i acc vs h; simp [lkCs] at h; subst h; simp [loadCellsFrom]
  | succ m ih =>
    intro i acc vs h
    simp only [lkCs] at h
    cases hc' : nth cs.toList (off + i) with
    | none => rw [hc'] at h; cases h
    | some v =>
      rw [hc'] at h
      have hc := nthA hc'
      cases hr : lkCs cs (off + i + 1) m with
      | none => rw [hr] at h; cases h
      | some r =>
        rw [hr] at h
        cases h
        have hadd : (⟨b, off, none⟩ : Addr).add i = ⟨b, off + i, none⟩ := by
          unfold Addr.add; split
          · rename_i e; subst e; rfl
          · rfl
        have hcell : w.cell? ⟨b, off + i, none⟩ = some v := by simp [World.cell?, hb, hc]
        simp only [loadCellsFrom, run_bind, hadd, run_load hcell]
        have := ih (i + 1) (acc ++ [v]) r (by rw [← Nat.add_assoc]; exact hr)
        simpa using this

theorem TL.ld (k : Nat) {b off : Nat} {cs : Array Value} {T' : TypeId} {fz : Nat × Nat} (v : Value) (hx : evO env x = some (.pointer (some ⟨b, off, none⟩)))
    (hL : lk (bif fl then sel L0 ks else L) k = some (pt b (.cells cs T' fz))) (hv' : nth cs.toList off = some v) (hT : scalB P T = true) (hg : guardV ops env g = some true) (hd : okD n d = true)
    (h : TL P w0 R n ks L0 ops Q rest (setE env d v) L) : TL P w0 R n ks L0 ops Q ((fl, ⟨d, .load T x, ty, ps, af, g⟩) :: rest) env L := by
  have hv := nthA hv'
  refine TL.val (v := v) hg hd (fun a w ha h1 h2 => ?_) h
  have hb : w.heap[b]? = some (.cells cs T' fz) := by
    cases fl with
    | true => exact (h2 rfl).read hL
    | false => exact (h1 rfl).read hL
  have hcell : w.cell? ⟨b, off, none⟩ = some v := by simp [World.cell?, hb, hv]
  obtain ⟨dd, i, h3, h4, h5, h6⟩ := scalB_spec hT
  simp [execOp, run_bind, Instr.loadAt, Instr.sureAddr, ha.eval hx, loadVar, run_isAgg h3, h4, load, Sem.run, hcell]
theorem TL.ldA (k m : Nat) {b off : Nat} {cs : Array Value} {T' : TypeId} {fz : Nat × Nat} (vs : List Value) (hx : evO env x = some (.pointer (some ⟨b, off, none⟩)))
    (hL : lk (bif fl then sel L0 ks else L) k = some (pt b (.cells cs T' fz))) (hv : lkCs cs off m = some vs) (hT : aggB P T m = true) (hg : guardV ops env g = some true) (hd : okD n d = true)
    (h : TL P w0 R n ks L0 ops Q rest (setE env d (.agg vs.toArray)) L) : TL P w0 R n ks L0 ops Q ((fl, ⟨d, .load T x, ty, ps, af, g⟩) :: rest) env L := by
  refine TL.val (v := .agg vs.toArray) hg hd (fun a w ha h1 h2 => ?_) h
  have hb : w.heap[b]? = some (.cells cs T' fz) := by
    cases fl with
    | true => exact (h2 rfl).read hL
    | false => exact (h1 rfl).read hL
  obtain ⟨dd, i, h3, h4, h5, h6⟩ := aggB_spec hT
  have hl := loadCells_run (P := P) (off := off) hb m 0 [] vs (by simpa using hv)
  simp only [List.nil_append] at hl
  simp [execOp, run_bind, Instr.loadAt, Instr.sureAddr, ha.eval hx, loadVar, run_isAgg h3, h4, run_sizeOf h5, h6, loadCells, hl]

theorem frozen_none {w : World} {b off : Nat} {cs : Array Value} {T' : TypeId} (hb : w.heap[b]? = some (.cells cs T')) : w.frozen? ⟨b, off, none⟩ = false := by
  simp [World.frozen?, hb]
theorem TL.st (k : Nat) {b off : Nat} {cs : Array Value} {T' : TypeId} (cs' : Array Value) (v : Value) (hx : evO env x = some (.pointer (some ⟨b, off, none⟩))) (hy : evO env y = some v) (h1 : one v = true)
    (hL : lk L k = some (pt b (.cells cs T'))) (hb : Nat.blt off cs.size = true) (hc : cs.setIfInBounds off v = cs') (hT : scalB P T = true) (hg : guardV ops env g = some true) (hd : okD n d = true)
    (hk : Keep L0 ((k, pt b (.cells cs' T')) :: L) ks)
    (h : TL P w0 R n ks L0 ops Q rest (setE env d undef) ((k, pt b (.cells cs' T')) :: L)) : TL P w0 R n ks L0 ops Q ((false, ⟨d, .store T x y, ty, ps, af, g⟩) :: rest) env L := by
  subst hc
  refine TL.act hg hd fun a w ha hs => ?_
  have hread := hs.read hL
  have hlt : off < cs.size := by simpa [Nat.blt_eq] using hb
  have hcell : w.cell? ⟨b, off, none⟩ = some cs[off] := by simp [World.cell?, hread, hlt]
  obtain ⟨dd, i, h3, h4, h5, h6⟩ := scalB_spec hT
  have hadd : (⟨b, off, none⟩ : Addr).add 0 = ⟨b, off, none⟩ := rfl
  refine ⟨undef, _, _, .inr ⟨rfl, ?_⟩, hs.setCell hL off v, hk, h⟩
  simp [execOp, run_bind, Instr.storeAt, Instr.sureAddr, ha.eval hx, ha.eval hy, storeVar, run_sizeOf h5, h6, one_cells h1, storeCells, hadd, run_store hcell (frozen_none hread) h1]

/-- several cells are written -/
def setCs (cs : Array Value) (off : Nat) : List Value → Array Value
  | [] => cs
  | v :: r => setCs (cs.setIfInBounds off v) (off + 1) r
theorem setCs_size {cs : Array Value} {off : Nat} {vs : List Value} : (setCs cs off vs).size = cs.size := by
  induction vs generalizing cs off with
  | nil => rfl
  | cons v r ih => rw [setCs, ih]; simp
theorem storeCells_run {w0 : World} {R : Assn} {b off k : Nat} {T' : TypeId} : ∀ (vs : List Value) (i : Nat) (w : World) (cs : Array Value) (L : List (Nat × Assn)), Sat w0 L R w → lk L k = some (pt b (.cells cs T')) → (∀ v ∈ vs, one v = true) →
    off + i + vs.length ≤ cs.size → ∃ w', (storeCells ⟨b, off, none⟩ vs i).run P w = .ok () w' ∧ Sat w0 ((k, pt b (.cells (setCs cs (off + i) vs) T')) :: L) R w' := by
  intro vs
  induction vs with
  | nil => intro i w cs L hs hL _ _; exact ⟨w, rfl, hs.conseq hL (fun _ h => h)⟩
  | cons v r ih =>
    intro i w cs L hs hL h1 hlen
    have hread := hs.read hL
    have hlt : off + i < cs.size := by simp at hlen; omega
    have hcell : w.cell? ⟨b, off + i, none⟩ = some cs[off + i] := by simp [World.cell?, hread, hlt]
    have hadd : (⟨b, off, none⟩ : Addr).add i = ⟨b, off + i, none⟩ := by
      unfold Addr.add; split
      · rename_i e; subst e; rfl
      · rfl
    have hs1 := hs.setCell hL (off + i) v
    obtain ⟨w', hr, hs2⟩ := ih (i + 1) _ _ _ hs1 lk_cons_eq (fun u hu => h1 u (List.mem_cons_of_mem _ hu)) (by simp at hlen ⊢; omega)
    refine ⟨w', ?_, hs2.weaken ?_⟩
    · simp only [storeCells, run_bind, hadd, run_store hcell (frozen_none hread) (h1 v (List.mem_cons_self ..))]
      exact hr
    · intro j A hA
      rw [lk_cons] at hA ⊢
      by_cases e : k = j
      · subst e; simp at hA ⊢; rw [← hA, setCs, Nat.add_assoc]
      · rw [if_neg e] at hA ⊢; rw [lk_cons_ne e]; exact hA
def ones : List Value → Bool
  | [] => true
  | v :: r => one v && ones r
theorem ones_spec : ∀ {vs : List Value}, ones vs = true → ∀ v ∈ vs, one v = true
  | [], _, v, hv => by cases hv
  | u :: r, h, v, hv => by
    simp only [ones, Bool.and_eq_true] at h
    rcases List.mem_cons.1 hv with rfl | hv
    · exact h.1
    · exact ones_spec h.2 v hv
theorem TL.stA (k m : Nat) {b off : Nat} {cs : Array Value} {T' : TypeId} (cs' : Array Value) (vs : List Value) (hx : evO env x = some (.pointer (some ⟨b, off, none⟩))) (hy : evO env y = some (.agg vs.toArray)) (h1 : ones vs = true) (hm : vs.length = m)
    (hL : lk L k = some (pt b (.cells cs T'))) (hb : Nat.ble (off + m) cs.size = true) (hc : setCs cs off vs = cs') (hT : aggB P T m = true) (hg : guardV ops env g = some true) (hd : okD n d = true)
    (hk : Keep L0 ((k, pt b (.cells cs' T')) :: L) ks)
    (h : TL P w0 R n ks L0 ops Q rest (setE env d undef) ((k, pt b (.cells cs' T')) :: L)) : TL P w0 R n ks L0 ops Q ((false, ⟨d, .store T x y, ty, ps, af, g⟩) :: rest) env L := by
  subst hc
  refine TL.act hg hd fun a w ha hs => ?_
  obtain ⟨dd, i, h3, h4, h5, h6⟩ := aggB_spec hT
  have hle : off + m ≤ cs.size := by simpa [Nat.ble_eq] using hb
  obtain ⟨w', hr, hs'⟩ := storeCells_run (P := P) (off := off) vs 0 w cs L hs hL (ones_spec h1) (by simp; omega)
  refine ⟨undef, w', _, .inr ⟨rfl, ?_⟩, hs', hk, h⟩
  simp [execOp, run_bind, Instr.storeAt, Instr.sureAddr, ha.eval hx, ha.eval hy, storeVar, run_sizeOf h5, h6, Value.cells, hm, hr]

/-! ### addresses -/
theorem add_spot (b o f : Nat) : (⟨b, o, none⟩ : Addr).add f = ⟨b, o + f, none⟩ := by
  unfold Addr.add; split
  · rename_i e; subst e; rfl
  · rfl
theorem TL.fa (off : Nat) {f b o : Nat} {S : TypeId} (hx : evO env x = some (.pointer (some ⟨b, o, none⟩))) (hF : fldB P S f off = true) (hg : guardV ops env g = some true) (hd : okD n d = true)
    (h : TL P w0 R n ks L0 ops Q rest (setE env d (.pointer (some ⟨b, o + off, none⟩))) L) : TL P w0 R n ks L0 ops Q ((fl, ⟨d, .fieldAddr S x f, ty, ps, af, g⟩) :: rest) env L := by
  obtain ⟨fs, fd, i, h1, h2, h3, h4, h5⟩ := fldB_spec hF
  refine TL.pure hg hd (fun a w ha => ?_) h
  simp [execOp, run_bind, Instr.fieldAt, run_underlying h1, h2, ha.eval hx, Instr.sureAddr, fieldPlace, run_sizeOf h4, h5, add_spot, h3]
theorem TL.fv (off : Nat) (t : TypeId) {f : Nat} {S : TypeId} {cs : Array Value} (v : Value) (hx : evO env x = some (.agg cs)) (hF : fldTB P S f off t = true) (hT : scalB P t = true) (hv' : nth cs.toList off = some v) (hg : guardV ops env g = some true) (hd : okD n d = true)
    (h : TL P w0 R n ks L0 ops Q rest (setE env d v) L) : TL P w0 R n ks L0 ops Q ((fl, ⟨d, .field S x f, ty, ps, af, g⟩) :: rest) env L := by
  have hv := nthA hv'
  obtain ⟨fs, fd, h1, h2, h3, h4⟩ := fldTB_spec hF
  obtain ⟨dd, i, h5, h6, h7, h8⟩ := scalB_spec hT
  refine TL.pure hg hd (fun a w ha => ?_) h
  subst h4
  simp [execOp, run_bind, Instr.field, run_underlying h1, h2, ha.eval hx, asAgg, part, run_isAgg h5, h6, h3, hv]
theorem TL.ia {b o len cap E size : Nat} {k : IntKind} {i : Int} (o' : Nat) (hx : evO env x = some (.slice (some ⟨b, o, none⟩) len cap)) (hy : evO env y = some (.int k i)) (hS : sliceB P T E size = true) (h0 : 0 ≤ i) (h1 : i < len)
    (ho : o + i.toNat * size = o') (hg : guardV ops env g = some true) (hd : okD n d = true)
    (h : TL P w0 R n ks L0 ops Q rest (setE env d (.pointer (some ⟨b, o', none⟩))) L) : TL P w0 R n ks L0 ops Q ((fl, ⟨d, .indexAddr T x y, ty, ps, af, g⟩) :: rest) env L := by
  obtain ⟨ii, h2, h3, h4⟩ := sliceB_spec hS
  subst ho
  refine TL.pure hg hd (fun a w ha => ?_) h
  simp [execOp, run_bind, Instr.indexAt, run_underlying h2, ha.eval hx, ha.eval hy, asIntOf, run_sizeOf h3, h4, h0, h1, add_spot]
/-- an element of an array that lies in memory -/
theorem TL.iaA {b o len E size : Nat} {k : IntKind} {i : Int} (o' : Nat) (hx : evO env x = some (.pointer (some ⟨b, o, none⟩))) (hy : evO env y = some (.int k i)) (hS : arrayB P T len E size = true) (h0 : 0 ≤ i) (h1 : i < len)
    (ho : o + i.toNat * size = o') (hg : guardV ops env g = some true) (hd : okD n d = true)
    (h : TL P w0 R n ks L0 ops Q rest (setE env d (.pointer (some ⟨b, o', none⟩))) L) : TL P w0 R n ks L0 ops Q ((fl, ⟨d, .indexAddr T x y, ty, ps, af, g⟩) :: rest) env L := by
  obtain ⟨ii, h2, h3, h4⟩ := arrayB_spec hS
  subst ho
  refine TL.pure hg hd (fun a w ha => ?_) h
  simp [execOp, run_bind, Instr.indexAt, run_underlying h2, ha.eval hx, ha.eval hy, asIntOf, run_sizeOf h3, h4, h0, h1, add_spot, Instr.sureAddr]
/-- an element of an array by value -/
theorem TL.ixA {len E : Nat} {k : IntKind} {i : Int} {cs : Array Value} (v : Value) (hx : evO env x = some (.agg cs)) (hy : evO env y = some (.int k i)) (hS : arrayB P T len E 1 = true) (hE : scalB P E = true) (h0 : 0 ≤ i) (h1 : i < len)
    (hv' : nth cs.toList i.toNat = some v) (hg : guardV ops env g = some true) (hd : okD n d = true)
    (h : TL P w0 R n ks L0 ops Q rest (setE env d v) L) : TL P w0 R n ks L0 ops Q ((fl, ⟨d, .index T x y, ty, ps, af, g⟩) :: rest) env L := by
  have hv := nthA hv'
  obtain ⟨ii, h2, h3, h4⟩ := arrayB_spec hS
  obtain ⟨dd, i', h5, h6, h7, h8⟩ := scalB_spec hE
  refine TL.pure hg hd (fun a w ha => ?_) h
  simp [execOp, run_bind, Instr.index, run_underlying h2, ha.eval hx, ha.eval hy, asIntOf, run_sizeOf h3, h4, h0, h1, part, run_isAgg h5, h6, hv]
theorem TL.nc {a' : Addr} (hx : evO env x = some (.pointer (some a'))) (hg : guardV ops env g = some true) (hd : okD n d = true)
    (h : TL P w0 R n ks L0 ops Q rest (setE env d (.pointer (some a'))) L) : TL P w0 R n ks L0 ops Q ((fl, ⟨d, .nilCheck x, ty, ps, af, g⟩) :: rest) env L :=
  TL.pure hg hd (fun a w ha => by simp [execOp, ha.eval hx]) h
theorem TL.ncI {t : TypeId} (hx : evO env x = some (.iface t v)) (hg : guardV ops env g = some true) (hd : okD n d = true)
    (h : TL P w0 R n ks L0 ops Q rest (setE env d (.iface t v)) L) : TL P w0 R n ks L0 ops Q ((fl, ⟨d, .nilCheck x, ty, ps, af, g⟩) :: rest) env L :=
  TL.pure hg hd (fun a w ha => by simp [execOp, ha.eval hx]) h
theorem TL.ncF {f : FuncId} {c1 c2 : Array Value} (hx : evO env x = some (.func (.func f) c1 c2)) (hg : guardV ops env g = some true) (hd : okD n d = true)
    (h : TL P w0 R n ks L0 ops Q rest (setE env d (.func (.func f) c1 c2)) L) : TL P w0 R n ks L0 ops Q ((fl, ⟨d, .nilCheck x, ty, ps, af, g⟩) :: rest) env L :=
  TL.pure hg hd (fun a w ha => by simp [execOp, ha.eval hx]) h
theorem TL.ext {i : Nat} {vs : Array Value} (v : Value) (hx : evO env x = some (.tuple vs)) (hv' : nth vs.toList i = some v) (hg : guardV ops env g = some true) (hd : okD n d = true)
    (h : TL P w0 R n ks L0 ops Q rest (setE env d v) L) : TL P w0 R n ks L0 ops Q ((fl, ⟨d, .extract x i, ty, ps, af, g⟩) :: rest) env L :=
  TL.pure hg hd (fun a w ha => by have hv := nthA hv'; simp [execOp, run_bind, ha.eval hx, Instr.extract, hv]) h
theorem TL.mi {D : TypeDesc} (hx : evO env x = some v) (hT : P.underlying T = some D) (hD : ∀ ms, D ≠ .interface ms) (hg : guardV ops env g = some true) (hd : okD n d = true)
    (h : TL P w0 R n ks L0 ops Q rest (setE env d (.iface T v)) L) : TL P w0 R n ks L0 ops Q ((fl, ⟨d, .makeInterface T x, ty, ps, af, g⟩) :: rest) env L :=
  TL.pure hg hd (fun a w ha => by
    simp only [execOp, run_bind, ha.eval hx, Instr.makeInterface, run_underlying hT]
    cases D <;> first | rfl | exact absurd rfl (hD _)) h
theorem TL.mf {fn : Go.Fn} {xs ys : List Operand} (vs us : List Value) (hx : evs env xs vs) (hy : evs env ys us) (hg : guardV ops env g = some true) (hd : okD n d = true)
    (h : TL P w0 R n ks L0 ops Q rest (setE env d (.func fn vs.toArray us.toArray)) L) : TL P w0 R n ks L0 ops Q ((fl, ⟨d, .makeFunc fn xs.toArray ys.toArray, ty, ps, af, g⟩) :: rest) env L :=
  TL.pure hg hd (fun a w ha => by simp [execOp, run_bind, ha.evals hx, ha.evals hy, Instr.makeFunc]) h

/-! ### numbers -/
section
variable {k : IntKind} {a b : Int}
theorem guard_int {op : BinOp} {w : World} {j : IntKind} : (eqGuard op T x y (.int k a) (.int j b)).run P w = .ok () w := by
  unfold eqGuard
  split <;> rfl
theorem wr64 {t : Int} (h : -9223372036854775808 ≤ t ∧ t < 9223372036854775808) : IntKind.i64.wrap t = t := by
  unfold IntKind.wrap IntKind.bits IntKind.signed; simp only [Bool.true_and, decide_eq_true_eq]; split <;> omega
theorem wru64 {t : Int} (h : 0 ≤ t ∧ t < 18446744073709551616) : IntKind.u64.wrap t = t := by
  unfold IntKind.wrap IntKind.bits IntKind.signed; simp only [Bool.false_and, Bool.false_eq_true, if_false]; omega
theorem wru32 {t : Int} (h : 0 ≤ t ∧ t < 4294967296) : IntKind.u32.wrap t = t := by
  unfold IntKind.wrap IntKind.bits IntKind.signed; simp only [Bool.false_and, Bool.false_eq_true, if_false]; omega
theorem wru8 {t : Int} (h : 0 ≤ t ∧ t < 256) : IntKind.u8.wrap t = t := by
  unfold IntKind.wrap IntKind.bits IntKind.signed; simp only [Bool.false_and, Bool.false_eq_true, if_false]; omega
theorem TL.add (c : Int) (hx : evO env x = some (.int k a)) (hy : evO env y = some (.int k b)) (hc : k.wrap (a + b) = c) (hg : guardV ops env g = some true) (hd : okD n d = true)
    (h : TL P w0 R n ks L0 ops Q rest (setE env d (.int k c)) L) : TL P w0 R n ks L0 ops Q ((fl, ⟨d, .binOp .add T x y z', ty, ps, af, g⟩) :: rest) env L :=
  TL.pure hg hd (fun a' w ha => by simp [execOp, ha.eval hx, ha.eval hy, guard_int, binOp, Op.intArith, hc]) h
theorem TL.sub (c : Int) (hx : evO env x = some (.int k a)) (hy : evO env y = some (.int k b)) (hc : k.wrap (a - b) = c) (hg : guardV ops env g = some true) (hd : okD n d = true)
    (h : TL P w0 R n ks L0 ops Q rest (setE env d (.int k c)) L) : TL P w0 R n ks L0 ops Q ((fl, ⟨d, .binOp .sub T x y z', ty, ps, af, g⟩) :: rest) env L :=
  TL.pure hg hd (fun a' w ha => by simp [execOp, ha.eval hx, ha.eval hy, guard_int, binOp, Op.intArith, hc]) h
theorem TL.mul (c : Int) (hx : evO env x = some (.int k a)) (hy : evO env y = some (.int k b)) (hc : k.wrap (a * b) = c) (hg : guardV ops env g = some true) (hd : okD n d = true)
    (h : TL P w0 R n ks L0 ops Q rest (setE env d (.int k c)) L) : TL P w0 R n ks L0 ops Q ((fl, ⟨d, .binOp .mul T x y z', ty, ps, af, g⟩) :: rest) env L :=
  TL.pure hg hd (fun a' w ha => by simp [execOp, ha.eval hx, ha.eval hy, guard_int, binOp, Op.intArith, hc]) h
theorem TL.quo (c : Int) (hx : evO env x = some (.int k a)) (hy : evO env y = some (.int k b)) (hb : b ≠ 0) (hc : k.wrap (a.tdiv b) = c) (hg : guardV ops env g = some true) (hd : okD n d = true)
    (h : TL P w0 R n ks L0 ops Q rest (setE env d (.int k c)) L) : TL P w0 R n ks L0 ops Q ((fl, ⟨d, .binOp .quo T x y z', ty, ps, af, g⟩) :: rest) env L :=
  TL.pure hg hd (fun a' w ha => by simp [execOp, ha.eval hx, ha.eval hy, guard_int, binOp, Op.intDiv, hb, hc]) h
theorem TL.rem (c : Int) (hx : evO env x = some (.int k a)) (hy : evO env y = some (.int k b)) (hb : b ≠ 0) (hc : a.tmod b = c) (hg : guardV ops env g = some true) (hd : okD n d = true)
    (h : TL P w0 R n ks L0 ops Q rest (setE env d (.int k c)) L) : TL P w0 R n ks L0 ops Q ((fl, ⟨d, .binOp .rem T x y z', ty, ps, af, g⟩) :: rest) env L :=
  TL.pure hg hd (fun a' w ha => by simp [execOp, ha.eval hx, ha.eval hy, guard_int, binOp, Op.intDiv, hb, hc]) h
def bitsV (op : BinOp) (k : IntKind) (a b : Int) : Int :=
  match op with
  | .and => k.wrap (BitVec.ofInt k.bits a &&& BitVec.ofInt k.bits b).toNat
  | .or => k.wrap (BitVec.ofInt k.bits a ||| BitVec.ofInt k.bits b).toNat
  | .xor => k.wrap (BitVec.ofInt k.bits a ^^^ BitVec.ofInt k.bits b).toNat
  | _ => k.wrap (BitVec.ofInt k.bits a &&& ~~~BitVec.ofInt k.bits b).toNat
theorem TL.and (c : Int) (hx : evO env x = some (.int k a)) (hy : evO env y = some (.int k b)) (hc : bitsV .and k a b = c) (hg : guardV ops env g = some true) (hd : okD n d = true)
    (h : TL P w0 R n ks L0 ops Q rest (setE env d (.int k c)) L) : TL P w0 R n ks L0 ops Q ((fl, ⟨d, .binOp .and T x y z', ty, ps, af, g⟩) :: rest) env L := by
  subst hc; exact TL.pure hg hd (fun a' w ha => by simp [execOp, ha.eval hx, ha.eval hy, guard_int, binOp, Op.intBits, bitsV]) h
theorem TL.or (c : Int) (hx : evO env x = some (.int k a)) (hy : evO env y = some (.int k b)) (hc : bitsV .or k a b = c) (hg : guardV ops env g = some true) (hd : okD n d = true)
    (h : TL P w0 R n ks L0 ops Q rest (setE env d (.int k c)) L) : TL P w0 R n ks L0 ops Q ((fl, ⟨d, .binOp .or T x y z', ty, ps, af, g⟩) :: rest) env L := by
  subst hc; exact TL.pure hg hd (fun a' w ha => by simp [execOp, ha.eval hx, ha.eval hy, guard_int, binOp, Op.intBits, bitsV]) h
theorem TL.xor (c : Int) (hx : evO env x = some (.int k a)) (hy : evO env y = some (.int k b)) (hc : bitsV .xor k a b = c) (hg : guardV ops env g = some true) (hd : okD n d = true)
    (h : TL P w0 R n ks L0 ops Q rest (setE env d (.int k c)) L) : TL P w0 R n ks L0 ops Q ((fl, ⟨d, .binOp .xor T x y z', ty, ps, af, g⟩) :: rest) env L := by
  subst hc; exact TL.pure hg hd (fun a' w ha => by simp [execOp, ha.eval hx, ha.eval hy, guard_int, binOp, Op.intBits, bitsV]) h
theorem TL.andNot (c : Int) (hx : evO env x = some (.int k a)) (hy : evO env y = some (.int k b)) (hc : bitsV .andNot k a b = c) (hg : guardV ops env g = some true) (hd : okD n d = true)
    (h : TL P w0 R n ks L0 ops Q rest (setE env d (.int k c)) L) : TL P w0 R n ks L0 ops Q ((fl, ⟨d, .binOp .andNot T x y z', ty, ps, af, g⟩) :: rest) env L := by
  subst hc; exact TL.pure hg hd (fun a' w ha => by simp [execOp, ha.eval hx, ha.eval hy, guard_int, binOp, Op.intBits, bitsV]) h
theorem TL.shl (c : Int) {j : IntKind} (hx : evO env x = some (.int k a)) (hy : evO env y = some (.int j b)) (hb : 0 ≤ b) (hc : k.wrap (a * 2 ^ (min b.toNat k.bits)) = c) (hg : guardV ops env g = some true) (hd : okD n d = true)
    (h : TL P w0 R n ks L0 ops Q rest (setE env d (.int k c)) L) : TL P w0 R n ks L0 ops Q ((fl, ⟨d, .binOp .shl T x y z', ty, ps, af, g⟩) :: rest) env L :=
  TL.pure hg hd (fun a' w ha => by
    have : ¬ b < 0 := by omega
    simp [execOp, ha.eval hx, ha.eval hy, guard_int, binOp, Op.shift, this, hc]) h
theorem TL.shr (c : Int) {j : IntKind} (hx : evO env x = some (.int k a)) (hy : evO env y = some (.int j b)) (hb : 0 ≤ b) (hc : a.fdiv (2 ^ (min b.toNat k.bits)) = c) (hg : guardV ops env g = some true) (hd : okD n d = true)
    (h : TL P w0 R n ks L0 ops Q rest (setE env d (.int k c)) L) : TL P w0 R n ks L0 ops Q ((fl, ⟨d, .binOp .shr T x y z', ty, ps, af, g⟩) :: rest) env L :=
  TL.pure hg hd (fun a' w ha => by
    have : ¬ b < 0 := by omega
    simp [execOp, ha.eval hx, ha.eval hy, guard_int, binOp, Op.shift, this, hc]) h
/-- the comparisons: what they say -/
def cmpP (op : BinOp) (a b : Int) : Prop :=
  match op with
  | .eql => a = b
  | .neq => a ≠ b
  | .lss => a < b
  | .leq => a ≤ b
  | .gtr => b < a
  | _ => b ≤ a
instance {op : BinOp} {a b : Int} : Decidable (cmpP op a b) := by unfold cmpP; split <;> infer_instance
def isCmp : BinOp → Bool
  | .eql | .neq | .lss | .leq | .gtr | .geq => true
  | _ => false
theorem run_cmp {op : BinOp} {w : World} (h : isCmp op = true) : (binOp op T (.int k a) (.int k b)).run P w = .ok (.bool (decide (cmpP op a b))) w := by
  cases op <;> first
    | (cases h; done)
    | (simp only [binOp, ne_eq, not_true, if_false, Op.intCmp, run_pure]
       refine congrArg (fun c => Result.ok (Value.bool c) w) ?_
       rw [Bool.eq_iff_iff]
       constructor <;> intro h
       · exact decide_eq_true (by simpa [cmpP] using h)
       · have h2 := of_decide_eq_true h; simpa [cmpP] using h2)
theorem TL.cmpV {op : BinOp} (hx : evO env x = some (.int k a)) (hy : evO env y = some (.int k b)) (ho : isCmp op = true) (hg : guardV ops env g = some true) (hd : okD n d = true)
    (h : TL P w0 R n ks L0 ops Q rest (setE env d (.bool (decide (cmpP op a b)))) L) : TL P w0 R n ks L0 ops Q ((fl, ⟨d, .binOp op T x y z', ty, ps, af, g⟩) :: rest) env L :=
  TL.pure hg hd (fun a' w ha => by simp [execOp, ha.eval hx, ha.eval hy, guard_int, run_cmp ho]) h
/-- a comparison, each way for itself -/
theorem TL.cmp {op : BinOp} (hx : evO env x = some (.int k a)) (hy : evO env y = some (.int k b)) (ho : isCmp op = true) (hg : guardV ops env g = some true) (hd : okD n d = true)
    (ht : cmpP op a b → TL P w0 R n ks L0 ops Q rest (setE env d (.bool true)) L) (hf : ¬ cmpP op a b → TL P w0 R n ks L0 ops Q rest (setE env d (.bool false)) L) :
    TL P w0 R n ks L0 ops Q ((fl, ⟨d, .binOp op T x y z', ty, ps, af, g⟩) :: rest) env L :=
  TL.cmpV hx hy ho hg hd (by
    by_cases hp : cmpP op a b
    · rw [decide_eq_true hp]; exact ht hp
    · rw [decide_eq_false hp]; exact hf hp)
theorem TL.cmpT {op : BinOp} (hx : evO env x = some (.int k a)) (hy : evO env y = some (.int k b)) (ho : isCmp op = true) (hp : cmpP op a b) (hg : guardV ops env g = some true) (hd : okD n d = true)
    (ht : TL P w0 R n ks L0 ops Q rest (setE env d (.bool true)) L) : TL P w0 R n ks L0 ops Q ((fl, ⟨d, .binOp op T x y z', ty, ps, af, g⟩) :: rest) env L :=
  TL.cmpV hx hy ho hg hd (by rw [decide_eq_true hp]; exact ht)
theorem TL.cmpF {op : BinOp} (hx : evO env x = some (.int k a)) (hy : evO env y = some (.int k b)) (ho : isCmp op = true) (hp : ¬ cmpP op a b) (hg : guardV ops env g = some true) (hd : okD n d = true)
    (ht : TL P w0 R n ks L0 ops Q rest (setE env d (.bool false)) L) : TL P w0 R n ks L0 ops Q ((fl, ⟨d, .binOp op T x y z', ty, ps, af, g⟩) :: rest) env L :=
  TL.cmpV hx hy ho hg hd (by rw [decide_eq_false hp]; exact ht)
theorem TL.not (b c : Bool) (hx : evO env x = some (.bool b)) (hc : (!b) = c) (hg : guardV ops env g = some true) (hd : okD n d = true)
    (h : TL P w0 R n ks L0 ops Q rest (setE env d (.bool c)) L) : TL P w0 R n ks L0 ops Q ((fl, ⟨d, .unOp .not T x, ty, ps, af, g⟩) :: rest) env L :=
  TL.pure hg hd (fun a' w ha => by simp [execOp, ha.eval hx, Op.unary, hc]) h
theorem TL.neg (c : Int) (hx : evO env x = some (.int k a)) (hc : k.wrap (0 - a) = c) (hg : guardV ops env g = some true) (hd : okD n d = true)
    (h : TL P w0 R n ks L0 ops Q rest (setE env d (.int k c)) L) : TL P w0 R n ks L0 ops Q ((fl, ⟨d, .unOp .neg T x, ty, ps, af, g⟩) :: rest) env L :=
  TL.pure hg hd (fun a' w ha => by simp only [execOp, ha.eval hx, Op.unary, Op.intArith, hc]; rfl) h
theorem TL.conv (c : Int) {S : TypeId} {j : IntKind} (hx : evO env x = some (.int k a)) (hS : (P.underlying S).isSome = true) (hT : intB P T j = true) (hc : j.wrap a = c) (hg : guardV ops env g = some true) (hd : okD n d = true)
    (h : TL P w0 R n ks L0 ops Q rest (setE env d (.int j c)) L) : TL P w0 R n ks L0 ops Q ((fl, ⟨d, .convert S T x, ty, ps, af, g⟩) :: rest) env L :=
  by
  obtain ⟨D, hD⟩ := Option.isSome_iff_exists.1 hS
  exact TL.pure hg hd (fun a' w ha => by simp [execOp, ha.eval hx, convert, run_underlying hD, run_underlying (intB_spec hT), Conv.intToInt, hc]) h
/-- a Bool that is not known, each way for itself -/
theorem TL.cases {b : Bool} {t : Nat} {env' : List (Nat × Value)} (he : env = (t, .bool b) :: env')
    (ht : b = true → TL P w0 R n ks L0 ops Q rest ((t, .bool true) :: env') L) (hf : b = false → TL P w0 R n ks L0 ops Q rest ((t, .bool false) :: env') L) : TL P w0 R n ks L0 ops Q rest env L := by
  subst he
  cases b
  · exact hf rfl
  · exact ht rfl
end

/-! ### calls -/
def callB (P : Program) (f : FuncId) : Bool :=
  match P.funcs[f]? with
  | some fn => fn.name != "runtime.NumGoroutine" && fn.body.isSome
  | none => false
theorem run_callFunc {f : FuncId} {args : Array Value} {w : World} (h : callB P f = true) : (callFunc f args).run P w = .ok (.enter f args) w := by
  unfold callB at h
  split at h
  · rename_i fn hf
    simp only [Bool.and_eq_true, bne_iff_ne, ne_eq] at h
    obtain ⟨c, hc⟩ := Option.isSome_iff_exists.1 h.2
    simp [callFunc, program, Sem.run, hf, h.1, hc]
  · cases h
theorem TL.call {f : FuncId} {xs : List Operand} {at' : Array TypeId} {vs : List Value} {As : List Assn} {Φ : Value → List Assn → Prop} (ids ids' : List Nat) (hc : Fn P f vs As Φ) (hvs : evs env xs vs) (hAs : lks L ids As)
    (hf : callB P f = true) (hn : nodupB ids' = true) (hp : prefB ids ids' = true) (hg : guardV ops env g = some true) (hd : okD n d = true)
    (h : ∀ v Bs, Φ v Bs → ids'.length = Bs.length ∧ Keep L0 (labs ids' Bs L) ks ∧ TL P w0 R n ks L0 ops Q rest (setE env d v) (labs ids' Bs L)) :
    TL P w0 R n ks L0 ops Q ((false, ⟨d, .call ⟨.value (.func f), xs.toArray, at'⟩, ty, ps, af, g⟩) :: rest) env L :=
  TL.enter ids ids' hg hd (fun a w ha _ => by
    simp [execOp, resolve, Deferred.ofValue, Act.eval, invoke, ha.evals hvs, run_callFunc hf]) hc hn hp hAs h
theorem TL.callD {f : FuncId} {xs : List Operand} {at' : Array TypeId} {vs : List Value} {As Bs : List Assn} {r : Value} (ids ids' : List Nat) (hc : FnD P f vs As r Bs) (hvs : evs env xs vs) (hAs : lks L ids As)
    (hf : callB P f = true) (hn : nodupB ids' = true) (hp : prefB ids ids' = true) (hl : ids'.length = Bs.length) (hg : guardV ops env g = some true) (hd : okD n d = true)
    (hk : Keep L0 (labs ids' Bs L) ks) (h : TL P w0 R n ks L0 ops Q rest (setE env d r) (labs ids' Bs L)) :
    TL P w0 R n ks L0 ops Q ((false, ⟨d, .call ⟨.value (.func f), xs.toArray, at'⟩, ty, ps, af, g⟩) :: rest) env L :=
  TL.call ids ids' hc hvs hAs hf hn hp hg hd (by rintro v Bs' ⟨rfl, rfl⟩; exact ⟨hl, hk, h⟩)
theorem TL.lenS {a : Option Addr} {m c : Nat} {E size : Nat} (hx : evO env x = some (.slice a m c)) (hS : sliceB P T E size = true) (hg : guardV ops env g = some true) (hd : okD n d = true)
    (h : TL P w0 R n ks L0 ops Q rest (setE env d (.int .i64 m)) L) : TL P w0 R n ks L0 ops Q ((fl, ⟨d, .call ⟨.builtin .len, #[x], #[T]⟩, ty, ps, af, g⟩) :: rest) env L := by
  obtain ⟨i, h1, h2, h3⟩ := sliceB_spec hS
  exact TL.pure hg hd (fun a' w ha => by simp [execOp, resolve, invoke, builtin, Builtin.len_, ha.eval hx, run_underlying h1, goInt]) h
theorem TL.min2 {k : IntKind} {a b : Int} {at' : Array TypeId} (hx : evO env x = some (.int k a)) (hy : evO env y = some (.int k b)) (hg : guardV ops env g = some true) (hd : okD n d = true)
    (h : TL P w0 R n ks L0 ops Q rest (setE env d (.int k (min a b))) L) : TL P w0 R n ks L0 ops Q ((fl, ⟨d, .call ⟨.builtin .min, #[x, y], at'⟩, ty, ps, af, g⟩) :: rest) env L :=
  TL.pure hg hd (fun a' w ha => by
    have : (if b < a then b else a) = min a b := by simp only [Int.min_def]; split <;> split <;> omega
    simp [execOp, resolve, invoke, builtin, Builtin.min_, Builtin.min2, ha.eval hx, ha.eval hy, this]) h
theorem TL.max2 {k : IntKind} {a b : Int} {at' : Array TypeId} (hx : evO env x = some (.int k a)) (hy : evO env y = some (.int k b)) (hg : guardV ops env g = some true) (hd : okD n d = true)
    (h : TL P w0 R n ks L0 ops Q rest (setE env d (.int k (max a b))) L) : TL P w0 R n ks L0 ops Q ((fl, ⟨d, .call ⟨.builtin .max, #[x, y], at'⟩, ty, ps, af, g⟩) :: rest) env L :=
  TL.pure hg hd (fun a' w ha => by
    have : (if a < b then b else a) = max a b := by simp only [Int.max_def]; split <;> split <;> omega
    simp [execOp, resolve, invoke, builtin, Builtin.max_, Builtin.max2, ha.eval hx, ha.eval hy, this]) h
end
end Go.Eng

set_option linter.unusedVariables false
set_option linter.unusedSimpArgs false
namespace Go.Eng

/-! ## results that lie in memory -/
section
variable {P : Program} {w0 : World} {R : Assn} {n : Nat} {Q : Exit → Act → World → Prop} {env : List (Nat × Value)} {L : List (Nat × Assn)}
instance {fn : Func} {Φ : Value → List Assn → Prop} : PanicOk (FQ P w0 R fn Φ) := ⟨fun c a d v w h => by cases d <;> exact h⟩
def rvs (P : Program) (env : List (Nat × Value)) (L : List (Nat × Assn)) : List ResultVar → List Value → Prop
  | [], [] => True
  | .tmp t :: r, v :: vs => lk env t = some v ∧ rvs P env L r vs
  | .cell t T :: r, v :: vs => (∃ b off cs T' fz k, lk env t = some (.pointer (some ⟨b, off, none⟩)) ∧ lk L k = some (pt b (.cells cs T' fz)) ∧
      ((scalB P T = true ∧ nth cs.toList off = some v) ∨ ∃ m us, aggB P T m = true ∧ lkCs cs off m = some us ∧ v = .agg us.toArray)) ∧ rvs P env L r vs
  | _, _ => False
theorem loadVar_scal {w : World} {b off : Nat} {cs : Array Value} {T T' : TypeId} {fz : Nat × Nat} {v : Value} (hb : w.heap[b]? = some (.cells cs T' fz)) (hT : scalB P T = true) (hv : cs[off]? = some v) :
    (loadVar T ⟨b, off, none⟩).run P w = .ok v w := by
  have hcell : w.cell? ⟨b, off, none⟩ = some v := by simp [World.cell?, hb, hv]
  obtain ⟨dd, i, h3, h4, h5, h6⟩ := scalB_spec hT
  simp [loadVar, run_isAgg h3, h4, load, Sem.run, hcell]
theorem loadVar_agg {w : World} {b off m : Nat} {cs : Array Value} {T T' : TypeId} {fz : Nat × Nat} {vs : List Value} (hb : w.heap[b]? = some (.cells cs T' fz)) (hT : aggB P T m = true) (hv : lkCs cs off m = some vs) :
    (loadVar T ⟨b, off, none⟩).run P w = .ok (.agg vs.toArray) w := by
  obtain ⟨dd, i, h3, h4, h5, h6⟩ := aggB_spec hT
  have hl := loadCells_run (P := P) (off := off) hb m 0 [] vs (by simpa using hv)
  simp only [List.nil_append] at hl
  simp [loadVar, run_isAgg h3, h4, run_sizeOf h5, h6, loadCells, hl]
def resO (tmps : Array Value) : ResultVar → Sem Value
  | .tmp t => Pure.pure (tmps.getD t undef)
  | .cell ad t => do loadVar t (← asAddr (tmps.getD ad undef))
theorem rvs_run {a : Act} {w : World} (ha : Agrees n env a) (hs : Sat w0 L R w) : ∀ {rs : List ResultVar} {vs : List Value}, rvs P env L rs vs →
    (rs.mapM (resO a.tmps)).run P w = .ok vs w
  | [], [], _ => rfl
  | .tmp t :: r, v :: vs, h => by
    have ih := rvs_run ha hs h.2
    have e : (resO a.tmps (.tmp t)).run P w = .ok v w := by rw [resO, getD_of ha h.1]; rfl
    rw [List.mapM_cons, run_bind, e]
    dsimp only
    rw [run_bind, ih]
    rfl
  | .cell t T :: r, v :: vs, h => by
    have ih := rvs_run ha hs h.2
    obtain ⟨⟨b, off, cs, T', fz, k, h1, h2, h3⟩, _⟩ := h
    have hb := hs.read h2
    have hl : (loadVar T ⟨b, off, none⟩).run P w = .ok v w := by
      rcases h3 with ⟨h4, h5⟩ | ⟨m, us, h4, h5, rfl⟩
      · exact loadVar_scal hb h4 (nthA h5)
      · exact loadVar_agg hb h4 h5
    have e : (resO a.tmps (.cell t T)).run P w = .ok v w := by
      rw [resO, run_bind, getD_of ha h1]
      exact hl
    rw [List.mapM_cons, run_bind, e]
    dsimp only
    rw [run_bind, ih]
    rfl
  | [], _ :: _, h => h.elim
  | .tmp _ :: _, [], h => h.elim
  | .cell _ _ :: _, [], h => h.elim
def resV : List Value → Value
  | [v] => v
  | vs => .tuple vs.toArray
theorem run_map {α β : Type} (f : α → β) (s : Sem α) (w : World) : (f <$> s).run P w = match s.run P w with
      | .ok a w' => .ok (f a) w'
      | .halt h w' => .halt h w' := run_bind s (fun a => Sem.pure (f a)) w
theorem FQ.retG {fn : Func} {Φ : Value → List Assn → Prop} {rs : List ResultVar} (vs : List Value) {v : Value} (ids : List Nat) {Bs : List Assn} (hr : fn.results = rs.toArray) (hv : rvs P env L rs vs) (hvv : resV vs = v) (hn : nodupB ids = true) (hB : lks L ids Bs)
    (hΦ : Φ v Bs) : TQ w0 R n (FQ P w0 R fn Φ) .ret env L := by
  subst hvv
  refine FQ.of (.inl rfl) ids (fun a w ha hs => ?_) hn hΦ hB
  have h1 := rvs_run ha hs hv
  have h2 : results fn a.tmps = (rs.toArray.mapM (resO a.tmps)) >>= fun vs => Pure.pure (if h : vs.size = 1 then vs[0] else .tuple vs) := by
    rw [results, hr]; rfl
  rw [h2, run_bind, List.mapM_toArray, run_map, h1]
  cases vs with
  | nil => rfl
  | cons x r =>
    cases r with
    | nil => rfl
    | cons y r => simp [resV]

/-! ## loops that keep what they do not turn -/
def selE (env : List (Nat × Value)) : List Nat → List (Nat × Value)
  | [] => []
  | t :: ts => match lk env t with
    | some v => (t, v) :: selE env ts
    | none => selE env ts
def KeepE (env0 env : List (Nat × Value)) : List Nat → Prop
  | [] => True
  | t :: ts => lk env t = lk env0 t ∧ KeepE env0 env ts
theorem lk_selE {env : List (Nat × Value)} : ∀ {ts : List Nat} {t : Nat} {v : Value}, lk (selE env ts) t = some v → t ∈ ts ∧ lk env t = some v
  | [], t, v, h => by simp [selE, lk] at h
  | j :: ts, t, v, h => by
    simp only [selE] at h
    cases hj : lk env j with
    | none => rw [hj] at h; have := lk_selE h; exact ⟨List.mem_cons_of_mem _ this.1, this.2⟩
    | some u =>
      rw [hj] at h
      simp only [lk_cons] at h
      by_cases e : j = t
      · subst e; rw [if_pos rfl] at h; cases h; exact ⟨List.mem_cons_self .., hj⟩
      · rw [if_neg e] at h; have := lk_selE h; exact ⟨List.mem_cons_of_mem _ this.1, this.2⟩
theorem KeepE.spec {env0 env : List (Nat × Value)} : ∀ {ts : List Nat}, KeepE env0 env ts → ∀ t ∈ ts, lk env t = lk env0 t
  | [], _, t, ht => by cases ht
  | j :: ts, h, t, ht => by
    rcases List.mem_cons.1 ht with rfl | ht
    · exact h.1
    · exact KeepE.spec h.2 t ht
theorem lk_append {α : Type _} {a b : List (Nat × α)} {t : Nat} : lk (a ++ b) t = (lk a t).or (lk b t) := by
  induction a with
  | nil => simp [lk]
  | cons p r ih =>
    obtain ⟨k, v⟩ := p
    rw [List.cons_append, lk_cons, lk_cons]
    by_cases h : k = t
    · simp [h]
    · simp [h, ih]
theorem subE_append {env E : List (Nat × Value)} {ts : List Nat} (h1 : subE env E) {env0 : List (Nat × Value)} (h2 : KeepE env0 env ts) : ∀ t v, lk (E ++ selE env0 ts) t = some v → lk env t = some v := by
  intro t v h
  rw [lk_append] at h
  cases hE : lk E t with
  | some u => rw [hE] at h; simp at h; subst h; exact subE_spec h1 t _ hE
  | none =>
    rw [hE] at h; simp at h
    obtain ⟨hm, he⟩ := lk_selE h
    rw [h2.spec t hm]; exact he
theorem subL_append {L M : List (Nat × Assn)} {ls : List Nat} (h1 : subE L M) {L0 : List (Nat × Assn)} (h2 : Keep L0 L ls) : ∀ t v, lk (M ++ sel L0 ls) t = some v → lk L t = some v := by
  intro t v h
  rw [lk_append] at h
  cases hE : lk M t with
  | some u => rw [hE] at h; simp at h; subst h; exact subE_spec h1 t _ hE
  | none =>
    rw [hE] at h; simp at h
    obtain ⟨hm, he⟩ := lk_sel h
    rw [h2.spec t hm]; exact he
theorem KeepE.refl (env : List (Nat × Value)) : ∀ ts, KeepE env env ts
  | [] => trivial
  | _ :: ts => ⟨rfl, KeepE.refl env ts⟩

def RoundK (w0 : World) (R : Assn) (n : Nat) {X : Type} (env : List (Nat × Value)) (L : List (Nat × Assn)) (ts ls : List Nat) (E : X → List (Nat × Value)) (M : X → List (Nat × Assn)) (I : X → Prop) (μ : X → Nat) (m : Nat) : Act → World → Prop :=
  fun a w => ∃ x', I x' ∧ μ x' < m ∧ Agrees n (E x' ++ selE env ts) a ∧ Sat w0 (M x' ++ sel L ls) R w
theorem TC.loopK {X : Type} {c : Code} (ts ls : List Nat) (E : X → List (Nat × Value)) (M : X → List (Nat × Assn)) (I : X → Prop) (μ : X → Nat) (x0 : X) (hI : I x0) (he : subE env (E x0)) (hL : subE L (M x0))
    (round : ∀ x, I x → TC P w0 R n c (Exit.then (RoundK w0 R n env L ts ls E M I μ (μ x)) Q) (E x ++ selE env ts) (M x ++ sel L ls)) : TC P w0 R n (.loop c) Q env L := by
  intro a w ha hs
  have ha' : Agrees n (E x0 ++ selE env ts) a := ha.sub (subE_append he (KeepE.refl env ts))
  have hs' : Sat w0 (M x0 ++ sel L ls) R w := hs.weaken (subL_append hL (Keep.refl L ls))
  intro b k cs
  have key : ∀ m x a w, μ x = m → I x → Agrees n (E x ++ selE env ts) a → Sat w0 (M x ++ sel L ls) R w → ∃ e a' w', Q e a' w' ∧ Arrives P (lone (b.at a (.code c :: .inLoop c :: k)) cs w) b k cs e a' w' := by
    intro m
    induction m using Nat.strongRecOn with
    | _ m ih =>
      intro x a w hm hIx ha hs
      obtain ⟨e, a₁, w₁, hq, harr⟩ := round x hIx a w ha hs b (.inLoop c :: k) cs
      cases e with
      | normal =>
        obtain ⟨x', hI', hlt, ha', hs'⟩ := hq
        obtain ⟨e₂, a₂, w₂, hq₂, harr₂⟩ := ih (μ x') (hm ▸ hlt) x' a₁ w₁ rfl hI' ha' hs'
        exact ⟨e₂, a₂, w₂, hq₂, .of_steps (Steps.trans harr (.one step_inLoop)) harr₂⟩
      | exit id => exact ⟨_, a₁, w₁, hq, .pass (x := .inLoop c) rfl (fun _ _ => .inl (by simp)) harr⟩
      | goto l => exact ⟨_, a₁, w₁, hq, .pass (x := .inLoop c) rfl (fun _ _ => .inl (by simp)) harr⟩
      | ret => exact ⟨_, a₁, w₁, hq, .pass (x := .inLoop c) rfl (fun _ _ => .inl (by simp)) harr⟩
      | panic ch => exact ⟨_, a₁, w₁, hq, .pass (x := .inLoop c) rfl (fun _ _ => .inl (by simp)) harr⟩
      | outgrown => exact ⟨_, a₁, w₁, hq, .pass (x := .inLoop c) rfl (fun _ _ => .inl (by simp)) harr⟩
  obtain ⟨e, a', w', hq, harr⟩ := key _ x0 a w rfl hI ha' hs'
  exact ⟨e, a', w', hq, .of_steps (.one step_loop) harr⟩
theorem TQ.roundK {X : Type} {env0 : List (Nat × Value)} {L0 : List (Nat × Assn)} {ts ls : List Nat} {E : X → List (Nat × Value)} {M : X → List (Nat × Assn)} {I : X → Prop} {μ : X → Nat} {m : Nat} (x' : X) (hI : I x' ∧ μ x' < m) (he : subE env (E x')) (hL : subE L (M x'))
    (hk : KeepE env0 env ts) (hkL : Keep L0 L ls) : TQ w0 R n (Exit.then (RoundK w0 R n env0 L0 ts ls E M I μ m) Q) .normal env L :=
  fun _ _ ha hs => ⟨x', hI.1, hI.2, ha.sub (subE_append he hk), hs.weaken (subL_append hL hkL)⟩

variable {ks : List Nat} {L0 : List (Nat × Assn)} {ops : Array Oper} {rest : List (Bool × Oper)}
variable {fl : Bool} {d : Option Tmp} {x y z : Operand} {ty T z' : TypeId} {ps : String} {af : Array Edge} {g : Option (Nat × Bool)} {v u : Value}
section
variable {k : IntKind} {a b : Int}
theorem TL.eql (hx : evO env x = some (.int k a)) (hy : evO env y = some (.int k b)) (hg : guardV ops env g = some true) (hd : okD n d = true)
    (ht : a = b → TL P w0 R n ks L0 ops Q rest (setE env d (.bool true)) L) (hf : ¬ (a = b) → TL P w0 R n ks L0 ops Q rest (setE env d (.bool false)) L) :
    TL P w0 R n ks L0 ops Q ((fl, ⟨d, .binOp .eql T x y z', ty, ps, af, g⟩) :: rest) env L := TL.cmp hx hy rfl hg hd ht hf
theorem TL.eqlV (hx : evO env x = some (.int k a)) (hy : evO env y = some (.int k b)) (hg : guardV ops env g = some true) (hd : okD n d = true)
    (h : TL P w0 R n ks L0 ops Q rest (setE env d (.bool (decide (a = b)))) L) : TL P w0 R n ks L0 ops Q ((fl, ⟨d, .binOp .eql T x y z', ty, ps, af, g⟩) :: rest) env L :=
  TL.cmpV hx hy rfl hg hd (by
    have : decide (cmpP .eql a b) = decide (a = b) := by rw [Bool.eq_iff_iff, decide_eq_true_iff, decide_eq_true_iff]; exact Iff.rfl
    rw [this]; exact h)
theorem TL.neq (hx : evO env x = some (.int k a)) (hy : evO env y = some (.int k b)) (hg : guardV ops env g = some true) (hd : okD n d = true)
    (ht : a ≠ b → TL P w0 R n ks L0 ops Q rest (setE env d (.bool true)) L) (hf : ¬ (a ≠ b) → TL P w0 R n ks L0 ops Q rest (setE env d (.bool false)) L) :
    TL P w0 R n ks L0 ops Q ((fl, ⟨d, .binOp .neq T x y z', ty, ps, af, g⟩) :: rest) env L := TL.cmp hx hy rfl hg hd ht hf
theorem TL.neqV (hx : evO env x = some (.int k a)) (hy : evO env y = some (.int k b)) (hg : guardV ops env g = some true) (hd : okD n d = true)
    (h : TL P w0 R n ks L0 ops Q rest (setE env d (.bool (decide (a ≠ b)))) L) : TL P w0 R n ks L0 ops Q ((fl, ⟨d, .binOp .neq T x y z', ty, ps, af, g⟩) :: rest) env L :=
  TL.cmpV hx hy rfl hg hd (by
    have : decide (cmpP .neq a b) = decide (a ≠ b) := by rw [Bool.eq_iff_iff, decide_eq_true_iff, decide_eq_true_iff]; exact Iff.rfl
    rw [this]; exact h)
theorem TL.lss (hx : evO env x = some (.int k a)) (hy : evO env y = some (.int k b)) (hg : guardV ops env g = some true) (hd : okD n d = true)
    (ht : a < b → TL P w0 R n ks L0 ops Q rest (setE env d (.bool true)) L) (hf : ¬ (a < b) → TL P w0 R n ks L0 ops Q rest (setE env d (.bool false)) L) :
    TL P w0 R n ks L0 ops Q ((fl, ⟨d, .binOp .lss T x y z', ty, ps, af, g⟩) :: rest) env L := TL.cmp hx hy rfl hg hd ht hf
theorem TL.lssV (hx : evO env x = some (.int k a)) (hy : evO env y = some (.int k b)) (hg : guardV ops env g = some true) (hd : okD n d = true)
    (h : TL P w0 R n ks L0 ops Q rest (setE env d (.bool (decide (a < b)))) L) : TL P w0 R n ks L0 ops Q ((fl, ⟨d, .binOp .lss T x y z', ty, ps, af, g⟩) :: rest) env L :=
  TL.cmpV hx hy rfl hg hd (by
    have : decide (cmpP .lss a b) = decide (a < b) := by rw [Bool.eq_iff_iff, decide_eq_true_iff, decide_eq_true_iff]; exact Iff.rfl
    rw [this]; exact h)
theorem TL.leq (hx : evO env x = some (.int k a)) (hy : evO env y = some (.int k b)) (hg : guardV ops env g = some true) (hd : okD n d = true)
    (ht : a ≤ b → TL P w0 R n ks L0 ops Q rest (setE env d (.bool true)) L) (hf : ¬ (a ≤ b) → TL P w0 R n ks L0 ops Q rest (setE env d (.bool false)) L) :
    TL P w0 R n ks L0 ops Q ((fl, ⟨d, .binOp .leq T x y z', ty, ps, af, g⟩) :: rest) env L := TL.cmp hx hy rfl hg hd ht hf
theorem TL.leqV (hx : evO env x = some (.int k a)) (hy : evO env y = some (.int k b)) (hg : guardV ops env g = some true) (hd : okD n d = true)
    (h : TL P w0 R n ks L0 ops Q rest (setE env d (.bool (decide (a ≤ b)))) L) : TL P w0 R n ks L0 ops Q ((fl, ⟨d, .binOp .leq T x y z', ty, ps, af, g⟩) :: rest) env L :=
  TL.cmpV hx hy rfl hg hd (by
    have : decide (cmpP .leq a b) = decide (a ≤ b) := by rw [Bool.eq_iff_iff, decide_eq_true_iff, decide_eq_true_iff]; exact Iff.rfl
    rw [this]; exact h)
theorem TL.gtr (hx : evO env x = some (.int k a)) (hy : evO env y = some (.int k b)) (hg : guardV ops env g = some true) (hd : okD n d = true)
    (ht : b < a → TL P w0 R n ks L0 ops Q rest (setE env d (.bool true)) L) (hf : ¬ (b < a) → TL P w0 R n ks L0 ops Q rest (setE env d (.bool false)) L) :
    TL P w0 R n ks L0 ops Q ((fl, ⟨d, .binOp .gtr T x y z', ty, ps, af, g⟩) :: rest) env L := TL.cmp hx hy rfl hg hd ht hf
theorem TL.gtrV (hx : evO env x = some (.int k a)) (hy : evO env y = some (.int k b)) (hg : guardV ops env g = some true) (hd : okD n d = true)
    (h : TL P w0 R n ks L0 ops Q rest (setE env d (.bool (decide (b < a)))) L) : TL P w0 R n ks L0 ops Q ((fl, ⟨d, .binOp .gtr T x y z', ty, ps, af, g⟩) :: rest) env L :=
  TL.cmpV hx hy rfl hg hd (by
    have : decide (cmpP .gtr a b) = decide (b < a) := by rw [Bool.eq_iff_iff, decide_eq_true_iff, decide_eq_true_iff]; exact Iff.rfl
    rw [this]; exact h)
theorem TL.geq (hx : evO env x = some (.int k a)) (hy : evO env y = some (.int k b)) (hg : guardV ops env g = some true) (hd : okD n d = true)
    (ht : b ≤ a → TL P w0 R n ks L0 ops Q rest (setE env d (.bool true)) L) (hf : ¬ (b ≤ a) → TL P w0 R n ks L0 ops Q rest (setE env d (.bool false)) L) :
    TL P w0 R n ks L0 ops Q ((fl, ⟨d, .binOp .geq T x y z', ty, ps, af, g⟩) :: rest) env L := TL.cmp hx hy rfl hg hd ht hf
theorem TL.geqV (hx : evO env x = some (.int k a)) (hy : evO env y = some (.int k b)) (hg : guardV ops env g = some true) (hd : okD n d = true)
    (h : TL P w0 R n ks L0 ops Q rest (setE env d (.bool (decide (b ≤ a)))) L) : TL P w0 R n ks L0 ops Q ((fl, ⟨d, .binOp .geq T x y z', ty, ps, af, g⟩) :: rest) env L :=
  TL.cmpV hx hy rfl hg hd (by
    have : decide (cmpP .geq a b) = decide (b ≤ a) := by rw [Bool.eq_iff_iff, decide_eq_true_iff, decide_eq_true_iff]; exact Iff.rfl
    rw [this]; exact h)
theorem TL.eqlT (hx : evO env x = some (.int k a)) (hy : evO env y = some (.int k b)) (hp : a = b) (hg : guardV ops env g = some true) (hd : okD n d = true)
    (ht : TL P w0 R n ks L0 ops Q rest (setE env d (.bool true)) L) : TL P w0 R n ks L0 ops Q ((fl, ⟨d, .binOp .eql T x y z', ty, ps, af, g⟩) :: rest) env L := TL.cmpT hx hy rfl hp hg hd ht
theorem TL.eqlF (hx : evO env x = some (.int k a)) (hy : evO env y = some (.int k b)) (hp : ¬ (a = b)) (hg : guardV ops env g = some true) (hd : okD n d = true)
    (ht : TL P w0 R n ks L0 ops Q rest (setE env d (.bool false)) L) : TL P w0 R n ks L0 ops Q ((fl, ⟨d, .binOp .eql T x y z', ty, ps, af, g⟩) :: rest) env L := TL.cmpF hx hy rfl hp hg hd ht
theorem TL.neqT (hx : evO env x = some (.int k a)) (hy : evO env y = some (.int k b)) (hp : a ≠ b) (hg : guardV ops env g = some true) (hd : okD n d = true)
    (ht : TL P w0 R n ks L0 ops Q rest (setE env d (.bool true)) L) : TL P w0 R n ks L0 ops Q ((fl, ⟨d, .binOp .neq T x y z', ty, ps, af, g⟩) :: rest) env L := TL.cmpT hx hy rfl hp hg hd ht
theorem TL.neqF (hx : evO env x = some (.int k a)) (hy : evO env y = some (.int k b)) (hp : ¬ (a ≠ b)) (hg : guardV ops env g = some true) (hd : okD n d = true)
    (ht : TL P w0 R n ks L0 ops Q rest (setE env d (.bool false)) L) : TL P w0 R n ks L0 ops Q ((fl, ⟨d, .binOp .neq T x y z', ty, ps, af, g⟩) :: rest) env L := TL.cmpF hx hy rfl hp hg hd ht
theorem TL.lssT (hx : evO env x = some (.int k a)) (hy : evO env y = some (.int k b)) (hp : a < b) (hg : guardV ops env g = some true) (hd : okD n d = true)
    (ht : TL P w0 R n ks L0 ops Q rest (setE env d (.bool true)) L) : TL P w0 R n ks L0 ops Q ((fl, ⟨d, .binOp .lss T x y z', ty, ps, af, g⟩) :: rest) env L := TL.cmpT hx hy rfl hp hg hd ht
theorem TL.lssF (hx : evO env x = some (.int k a)) (hy : evO env y = some (.int k b)) (hp : ¬ (a < b)) (hg : guardV ops env g = some true) (hd : okD n d = true)
    (ht : TL P w0 R n ks L0 ops Q rest (setE env d (.bool false)) L) : TL P w0 R n ks L0 ops Q ((fl, ⟨d, .binOp .lss T x y z', ty, ps, af, g⟩) :: rest) env L := TL.cmpF hx hy rfl hp hg hd ht
theorem TL.leqT (hx : evO env x = some (.int k a)) (hy : evO env y = some (.int k b)) (hp : a ≤ b) (hg : guardV ops env g = some true) (hd : okD n d = true)
    (ht : TL P w0 R n ks L0 ops Q rest (setE env d (.bool true)) L) : TL P w0 R n ks L0 ops Q ((fl, ⟨d, .binOp .leq T x y z', ty, ps, af, g⟩) :: rest) env L := TL.cmpT hx hy rfl hp hg hd ht
theorem TL.leqF (hx : evO env x = some (.int k a)) (hy : evO env y = some (.int k b)) (hp : ¬ (a ≤ b)) (hg : guardV ops env g = some true) (hd : okD n d = true)
    (ht : TL P w0 R n ks L0 ops Q rest (setE env d (.bool false)) L) : TL P w0 R n ks L0 ops Q ((fl, ⟨d, .binOp .leq T x y z', ty, ps, af, g⟩) :: rest) env L := TL.cmpF hx hy rfl hp hg hd ht
theorem TL.gtrT (hx : evO env x = some (.int k a)) (hy : evO env y = some (.int k b)) (hp : b < a) (hg : guardV ops env g = some true) (hd : okD n d = true)
    (ht : TL P w0 R n ks L0 ops Q rest (setE env d (.bool true)) L) : TL P w0 R n ks L0 ops Q ((fl, ⟨d, .binOp .gtr T x y z', ty, ps, af, g⟩) :: rest) env L := TL.cmpT hx hy rfl hp hg hd ht
theorem TL.gtrF (hx : evO env x = some (.int k a)) (hy : evO env y = some (.int k b)) (hp : ¬ (b < a)) (hg : guardV ops env g = some true) (hd : okD n d = true)
    (ht : TL P w0 R n ks L0 ops Q rest (setE env d (.bool false)) L) : TL P w0 R n ks L0 ops Q ((fl, ⟨d, .binOp .gtr T x y z', ty, ps, af, g⟩) :: rest) env L := TL.cmpF hx hy rfl hp hg hd ht
theorem TL.geqT (hx : evO env x = some (.int k a)) (hy : evO env y = some (.int k b)) (hp : b ≤ a) (hg : guardV ops env g = some true) (hd : okD n d = true)
    (ht : TL P w0 R n ks L0 ops Q rest (setE env d (.bool true)) L) : TL P w0 R n ks L0 ops Q ((fl, ⟨d, .binOp .geq T x y z', ty, ps, af, g⟩) :: rest) env L := TL.cmpT hx hy rfl hp hg hd ht
theorem TL.geqF (hx : evO env x = some (.int k a)) (hy : evO env y = some (.int k b)) (hp : ¬ (b ≤ a)) (hg : guardV ops env g = some true) (hd : okD n d = true)
    (ht : TL P w0 R n ks L0 ops Q rest (setE env d (.bool false)) L) : TL P w0 R n ks L0 ops Q ((fl, ⟨d, .binOp .geq T x y z', ty, ps, af, g⟩) :: rest) env L := TL.cmpF hx hy rfl hp hg hd ht
theorem TL.casesP {p : Prop} [Decidable p] {t : Nat} {env' : List (Nat × Value)} (he : env = (t, .bool (decide p)) :: env')
    (ht : p → TL P w0 R n ks L0 ops Q rest ((t, .bool true) :: env') L) (hf : ¬ p → TL P w0 R n ks L0 ops Q rest ((t, .bool false) :: env') L) : TL P w0 R n ks L0 ops Q rest env L :=
  TL.cases he (fun h => ht (of_decide_eq_true h)) (fun h => hf (of_decide_eq_false h))
theorem run_eqBool {a b : Bool} {w : World} (hT : boolB P T = true) (m : Nat) : (Op.equalIn (m + 1) T (.bool a) (.bool b)).run P w = .ok (a == b) w := by
  rw [Op.equalIn, run_bind, run_underlying (boolB_spec hT)]; rfl
theorem TL.eqlB {a b : Bool} (hx : evO env x = some (.bool a)) (hy : evO env y = some (.bool b)) (hT : boolB P T = true) (hg : guardV ops env g = some true) (hd : okD n d = true)
    (h : TL P w0 R n ks L0 ops Q rest (setE env d (.bool (a == b))) L) : TL P w0 R n ks L0 ops Q ((fl, ⟨d, .binOp .eql T x y z', ty, ps, af, g⟩) :: rest) env L :=
  TL.pure hg hd (fun a' w ha => by
    have e1 : (eqGuard .eql T x y (.bool a) (.bool b)).run P w = .ok () w := by unfold eqGuard; rfl
    have e2 : (binOp .eql T (.bool a) (.bool b)).run P w = .ok (.bool (a == b)) w := by
      have : binOp .eql T (.bool a) (.bool b) = (do Pure.pure (.bool (← Op.equalIn (9999 + 1) T (.bool a) (.bool b)))) := rfl
      rw [this, run_bind, run_eqBool hT]; rfl
    simp only [execOp, ha.eval hx, ha.eval hy, run_bind, e1, e2]; rfl) h
theorem TL.neqB {a b : Bool} (hx : evO env x = some (.bool a)) (hy : evO env y = some (.bool b)) (hT : boolB P T = true) (hg : guardV ops env g = some true) (hd : okD n d = true)
    (h : TL P w0 R n ks L0 ops Q rest (setE env d (.bool (!(a == b)))) L) : TL P w0 R n ks L0 ops Q ((fl, ⟨d, .binOp .neq T x y z', ty, ps, af, g⟩) :: rest) env L :=
  TL.pure hg hd (fun a' w ha => by
    have e1 : (eqGuard .neq T x y (.bool a) (.bool b)).run P w = .ok () w := by unfold eqGuard; rfl
    have e2 : (binOp .neq T (.bool a) (.bool b)).run P w = .ok (.bool (!(a == b))) w := by
      have : binOp .neq T (.bool a) (.bool b) = (do Pure.pure (.bool (!(← Op.equalIn (9999 + 1) T (.bool a) (.bool b))))) := rfl
      rw [this, run_bind, run_eqBool hT]; rfl
    simp only [execOp, ha.eval hx, ha.eval hy, run_bind, e1, e2]; rfl) h
end

/-! ## struct literals -/
def valCells : Value → List Value
  | .agg cs => cs.toList
  | v => [v]
theorem valCells_eq (v : Value) : v.cells.toList = valCells v := by cases v <;> rfl
def putL : List Value → Nat → List Value → List Value
  | cs, _, [] => cs
  | cs, off, v :: r => putL (cs.set off v) (off + 1) r
def bldL (pl : Nat → Option (Nat × Nat)) : List Value → List (Nat × Value) → Option (List Value)
  | cells, [] => some cells
  | cells, (i, v) :: r => match pl i with
    | some (off, size) => bif Nat.beq (valCells v).length size && Nat.ble (off + size) cells.length then bldL pl (putL cells off (valCells v)) r else none
    | none => none
theorem putL_length : ∀ (vs cs : List Value) (off : Nat), (putL cs off vs).length = cs.length
  | [], cs, off => rfl
  | v :: r, cs, off => by rw [putL, putL_length r]; simp
theorem fold_putL : ∀ (vs : List Value) (off j : Nat) (cs : Array Value), (vs.zipIdx j).foldl (fun cs (x : Value × Nat) => cs.setIfInBounds (off + x.2) x.1) cs = (putL cs.toList (off + j) vs).toArray
  | [], off, j, cs => by simp [putL]
  | v :: r, off, j, cs => by
    rw [List.zipIdx_cons, List.foldl_cons, fold_putL r]
    simp [putL, Nat.add_assoc]
theorem fill_bldL (pl : Nat → Option (Nat × Nat)) : ∀ (parts : List (Nat × Value)) (cells cs : List Value), bldL pl cells parts = some cs → Instr.fill pl cells.toArray parts = some cs.toArray
  | [], cells, cs, h => by simp [bldL] at h; simp [Instr.fill, h]
  | (i, v) :: r, cells, cs, h => by
    simp only [bldL] at h
    cases hp : pl i with
    | none => rw [hp] at h; cases h
    | some os =>
      obtain ⟨off, size⟩ := os
      rw [hp] at h
      dsimp only at h
      cases hc : (Nat.beq (valCells v).length size && Nat.ble (off + size) cells.length) with
      | false => rw [hc] at h; cases h
      | true =>
        rw [hc] at h
        simp only [cond_true] at h
        simp only [Bool.and_eq_true] at hc
        have h1 := Nat.eq_of_beq_eq_true hc.1
        have h2 := Nat.le_of_ble_eq_true hc.2
        have hsz : v.cells.size = size := by rw [← h1, ← valCells_eq]; simp
        have ih := fill_bldL pl r _ _ h
        simp only [Instr.fill, hp]
        have hcond : (v.cells.size != size || decide (off + v.cells.size > cells.toArray.size)) = false := by
          simp [hsz]; omega
        simp only [hsz, ne_eq, not_true, decide_false, Bool.false_or, decide_eq_true_eq]
        rw [if_neg (by simp; omega)]
        have hf : v.cells.zipIdx.foldl (fun cs x => cs.setIfInBounds (off + x.2) x.1) cells.toArray = (putL cells off (valCells v)).toArray := by
          rw [← Array.foldl_toList, Array.toList_zipIdx, valCells_eq]
          have := fold_putL (valCells v) off 0 cells.toArray
          simpa using this
        exact (congrArg (fun a => Instr.fill pl a r) hf).trans ih
/-- the places of a struct's fields -/
def placesB (P : Program) (T : TypeId) (pl : List (Nat × Nat)) : Bool :=
  match P.underlying T with
  | some (.struct fs) => go fs.toList pl
  | _ => false
where go : List Field → List (Nat × Nat) → Bool
  | [], [] => true
  | f :: r, (off, size) :: s => Nat.beq f.offset off && (match P.info? f.type with | some i => Nat.beq i.size size | none => false) && go r s
  | _, _ => false
theorem places_run {w : World} : ∀ (fs : List Field) (pl : List (Nat × Nat)), placesB.go P fs pl = true → (fs.mapM (m := Sem) fun f => do Pure.pure (f.offset, ← sizeOf f.type)).run P w = .ok pl w
  | [], [], _ => rfl
  | f :: r, (off, size) :: s, h => by
    simp only [placesB.go, Bool.and_eq_true] at h
    obtain ⟨⟨h1, h2⟩, h3⟩ := h
    have e1 := Nat.eq_of_beq_eq_true h1
    split at h2
    · rename_i i hi
      have e2 := Nat.eq_of_beq_eq_true h2
      simp only [List.mapM_cons, run_bind, run_sizeOf hi, run_pure, places_run r s h3, e1, e2]
    · cases h2
  | [], _ :: _, h => by cases h
  | _ :: _, [], h => by cases h
theorem TL.bld {pl : List (Nat × Nat)} {parts : List (Nat × Operand)} {zv : Value} (zs vs cs : List Value) (hz : zeroV P T = some zv) (hp : placesB P T pl = true) (hx : evs env (parts.map (·.2)) vs)
    (hc : zv.cells = zs.toArray ∧ bldL (fun i => pl[i]?) zs ((parts.map (·.1)).zip vs) = some cs) (hg : guardV ops env g = some true) (hd : okD n d = true)
    (h : TL P w0 R n ks L0 ops Q rest (setE env d (.agg cs.toArray)) L) : TL P w0 R n ks L0 ops Q ((fl, ⟨d, .build T parts.toArray, ty, ps, af, g⟩) :: rest) env L := by
  refine TL.pure hg hd (fun a w ha => ?_) h
  have hev := ha.evals hx
  have hparts : (parts.toArray.map fun (p : Nat × Operand) => (p.1, a.eval p.2)).toList = (parts.map (·.1)).zip vs := by
    rw [← hev]; simp [List.zip_map']
  unfold placesB at hp
  split at hp
  · rename_i fs hfs
    have hpl := places_run (w := w) _ _ hp
    have hm : (fs.mapM (m := Sem) fun f => do Pure.pure (f.offset, ← sizeOf f.type)).run P w = .ok pl.toArray w := by
      have : fs = fs.toList.toArray := rfl
      rw [this, List.mapM_toArray, run_map, hpl]
    have hfill := fill_bldL _ _ _ _ hc.2
    have hpf : (fun (i : Nat) => pl.toArray[i]?) = fun i => pl[i]? := by funext i; simp
    simp only [execOp, run_bind, Instr.build, run_zeroValue hz, run_underlying hfs, hm]
    rw [hparts]
    simp only [hpf, hc.1, hfill]
    rfl
  · cases hp
theorem TL.bldA {len E size : Nat} {parts : List (Nat × Operand)} {zv : Value} (zs vs cs : List Value) (hz : zeroV P T = some zv) (hp : arrayB P T len E size = true) (hx : evs env (parts.map (·.2)) vs)
    (hc : zv.cells = zs.toArray ∧ bldL (fun i => some (i * size, size)) zs ((parts.map (·.1)).zip vs) = some cs) (hg : guardV ops env g = some true) (hd : okD n d = true)
    (h : TL P w0 R n ks L0 ops Q rest (setE env d (.agg cs.toArray)) L) : TL P w0 R n ks L0 ops Q ((fl, ⟨d, .build T parts.toArray, ty, ps, af, g⟩) :: rest) env L := by
  refine TL.pure hg hd (fun a w ha => ?_) h
  have hev := ha.evals hx
  have hparts : (parts.toArray.map fun (p : Nat × Operand) => (p.1, a.eval p.2)).toList = (parts.map (·.1)).zip vs := by
    rw [← hev]; simp [List.zip_map']
  obtain ⟨i, h1, h2, h3⟩ := arrayB_spec hp
  have hfill := fill_bldL _ _ _ _ hc.2
  simp only [execOp, run_bind, Instr.build, run_zeroValue hz, run_underlying h1, run_sizeOf h2, h3]
  rw [hparts]
  simp only [hc.1, hfill]
  rfl
theorem TL.fvA (off t m : Nat) {f : Nat} {S : TypeId} {cs : Array Value} (vs : List Value) (hx : evO env x = some (.agg cs)) (hF : fldTB P S f off t = true) (hT : aggB P t m = true) (hv : lkCs cs off m = some vs) (hg : guardV ops env g = some true) (hd : okD n d = true)
    (h : TL P w0 R n ks L0 ops Q rest (setE env d (.agg vs.toArray)) L) : TL P w0 R n ks L0 ops Q ((fl, ⟨d, .field S x f, ty, ps, af, g⟩) :: rest) env L := by
  obtain ⟨fs, fd, h1, h2, h3, h4⟩ := fldTB_spec hF
  obtain ⟨dd, i, h5, h6, h7, h8⟩ := aggB_spec hT
  refine TL.pure hg hd (fun a w ha => ?_) h
  subst h4
  have hx' : ∀ (m off : Nat) (vs : List Value), lkCs cs off m = some vs → cs.extract off (off + m) = vs.toArray := by
    intro m
    induction m with
    | zero => intro off vs h; simp [lkCs] at h; subst h; apply Array.ext'; simp [List.extract_eq_take_drop]
    | succ m ih =>
      intro off vs h
      simp only [lkCs] at h
      cases hc' : nth cs.toList off with
      | none => rw [hc'] at h; cases h
      | some v =>
        rw [hc'] at h
        have hc := nthA hc'
        cases hr : lkCs cs (off + 1) m with
        | none => rw [hr] at h; cases h
        | some r =>
          rw [hr] at h; cases h
          have := ih (off + 1) r hr
          obtain ⟨hlt, he⟩ := Array.getElem?_eq_some_iff.1 hc
          have e1 : off + (m + 1) = off + 1 + m := by omega
          rw [e1]
          apply Array.ext'
          have ht := congrArg Array.toList this
          simp only [Array.toList_extract, List.extract_eq_take_drop] at ht ⊢
          have e2 : off + 1 + m - off = m + 1 := by omega
          have e3 : off + 1 + m - (off + 1) = m := by omega
          rw [e2]; rw [e3] at ht
          rw [List.drop_eq_getElem_cons (by simpa using hlt), List.take_succ_cons, ht]
          simp [he]
  have := hx' m off vs hv
  simp [execOp, Instr.field, run_underlying h1, h2, ha.eval hx, asAgg, part, run_isAgg h5, h6, h3, run_sizeOf h7, h8, this]
def notIface (P : Program) (T : TypeId) : Bool :=
  match P.underlying T with
  | some (.interface _) => false
  | some _ => true
  | none => false
theorem TL.miN (hx : evO env x = some v) (hT : notIface P T = true) (hg : guardV ops env g = some true) (hd : okD n d = true)
    (h : TL P w0 R n ks L0 ops Q rest (setE env d (.iface T v)) L) : TL P w0 R n ks L0 ops Q ((fl, ⟨d, .makeInterface T x, ty, ps, af, g⟩) :: rest) env L := by
  unfold notIface at hT
  split at hT
  · cases hT
  · rename_i D hne hD
    exact TL.mi hx hD (fun ms e => hne ms e) hg hd h
  · cases hT

/-! ## methods of interface values -/
def Meth (P : Program) (recv : Value) (name : String) (f : FuncId) (recv' : Value) : Prop :=
  ∀ (args : Array Value) (w : World), (callMethod recv name args).run P w = .ok (.enter f (#[recv'] ++ args)) w
theorem TL.inv {f : FuncId} {recv recv' : Value} {m : String} {xs : List Operand} {at' : Array TypeId} {vs : List Value} {As : List Assn} {Φ : Value → List Assn → Prop} (ids ids' : List Nat) (hm : Meth P recv m f recv') (hx : evO env x = some recv) (hc : Fn P f (recv' :: vs) As Φ)
    (hvs : evs env xs vs) (hAs : lks L ids As) (hn : nodupB ids' = true) (hp : prefB ids ids' = true) (hg : guardV ops env g = some true) (hd : okD n d = true)
    (h : ∀ v Bs, Φ v Bs → ids'.length = Bs.length ∧ Keep L0 (labs ids' Bs L) ks ∧ TL P w0 R n ks L0 ops Q rest (setE env d v) (labs ids' Bs L)) :
    TL P w0 R n ks L0 ops Q ((false, ⟨d, .call ⟨.invoke x m, xs.toArray, at'⟩, ty, ps, af, g⟩) :: rest) env L :=
  TL.enter ids ids' hg hd (fun a w ha _ => by
    have := hm vs.toArray w
    simp only [execOp, run_bind, resolve, List.map_toArray, ha.eval hx, ha.evals hvs, run_pure, invoke]
    simpa using this) hc hn hp hAs h
/-- a byte of a string -/
theorem TL.ixS {k : IntKind} {i : Int} {s : ByteArray} (c : Int) (hx : evO env x = some (.string s)) (hy : evO env y = some (.int k i)) (hT : P.underlying T = some .string) (h0 : 0 ≤ i)
    (hv : (s[i.toNat]?).map (fun b => (b.toNat : Int)) = some c) (hg : guardV ops env g = some true) (hd : okD n d = true)
    (h : TL P w0 R n ks L0 ops Q rest (setE env d (.int .u8 c)) L) : TL P w0 R n ks L0 ops Q ((fl, ⟨d, .index T x y, ty, ps, af, g⟩) :: rest) env L := by
  refine TL.pure hg hd (fun a w ha => ?_) h
  cases hs : s[i.toNat]? with
  | none => rw [hs] at hv; cases hv
  | some b =>
    rw [hs] at hv
    simp at hv
    simp [execOp, Instr.index, run_underlying hT, ha.eval hx, ha.eval hy, asIntOf, h0, hs, hv]
theorem bT {p : Prop} [Decidable p] (h : p) : Value.bool true = .bool (decide p) := by rw [decide_eq_true h]
theorem bF {p : Prop} [Decidable p] (h : ¬ p) : Value.bool false = .bool (decide p) := by rw [decide_eq_false h]
theorem iE {k : IntKind} {a b : Int} (h : a = b) : Value.int k a = .int k b := by rw [h]
theorem mul_bd {a b A B : Int} (h0 : 0 ≤ a) (h1 : a ≤ A) (h2 : 0 ≤ b) (h3 : b ≤ B) : 0 ≤ a * b ∧ a * b ≤ A * B :=
  ⟨Int.mul_nonneg h0 h2, Int.mul_le_mul h1 h3 h2 (Int.le_trans h0 h1)⟩
end
end Go.Eng

set_option linter.unusedVariables false
set_option linter.unusedSimpArgs false
namespace Go.Eng
open Go.RowKit
/-- all of a memory that was there -/
def whole (W : World) : Assn := fun h => ∀ k o, W.heap[k]? = some o → h k = some o
theorem Sat.whole (W : World) : Sat W (lab 0 []) (whole W) W :=
  ⟨rfl, rfl, rfl, fun _ _ => none, hf W, ⟨fun k A h => (by simp [lab, lk] at h), fun k o h => h, fun k c o h => (by cases h), fun k o h => h, fun i j _ c => .inl rfl, fun i c => .inl rfl⟩⟩
theorem Sat.below {W W' : World} {L : List (Nat × Assn)} (h : Sat W L (Eng.whole W) W') : Below W.heap.size W W' := by
  obtain ⟨f, g, s⟩ := h.sep
  have hb : ∀ k o, W.heap[k]? = some o → W'.heap[k]? = some o := fun k o hk => s.gsub k o (s.frame k o hk)
  refine ⟨h.os, h.tape, h.output, ?_, fun k hk => ?_⟩
  · rcases Nat.lt_or_ge W'.heap.size W.heap.size with hlt | hge
    · have := hb W'.heap.size _ (Array.getElem?_eq_getElem hlt)
      simp at this
    · exact hge
  · rw [Array.getElem?_eq_getElem hk]; exact hb k _ (Array.getElem?_eq_getElem hk)
theorem Fn.calls {P : Program} {f : FuncId} {args : List Value} {Φ : Value → List Assn → Prop} (h : Fn P f args [] Φ) (W : World) :
    Calls P f args.toArray W fun e W' => ∃ v Bs, e = .returned v ∧ Φ v Bs ∧ Below W.heap.size W W' :=
  (h W (Eng.whole W) W (Sat.whole W)).mono fun _ _ ⟨v, Bs, he, hp, hs⟩ => ⟨v, Bs, he, hp, hs.below⟩
end Go.Eng

