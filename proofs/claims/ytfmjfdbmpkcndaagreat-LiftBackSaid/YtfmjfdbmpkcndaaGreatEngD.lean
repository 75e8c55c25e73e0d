import Derived.Test.YtfmjfdbmpkcndaaGreatEngC
set_option linter.unusedVariables false
set_option linter.unusedSimpArgs false
set_option linter.unusedSectionVars false
namespace Go.Tm
open MemLike Eng
set_option linter.unusedSectionVars false
set_option linter.unusedVariables false
theorem conn_cons {s : Int} {P : Int → Prop} {eu ev : Int → Int} {x y : Int} : Conn (fun q => q = s ∨ P q) eu ev x y ↔ Conn P eu ev x y ∨ (Conn P eu ev x (eu s) ∧ Conn P eu ev (ev s) y) ∨ (Conn P eu ev x (ev s) ∧ Conn P eu ev (eu s) y) := by
  constructor
  · intro h
    induction h with
    | refl => exact .inl (.refl _)
    | @step w z hw q hq he ih =>
      rcases hq with rfl | hq
      · rcases he with ⟨rfl, rfl⟩ | ⟨rfl, rfl⟩
        · rcases ih with h | ⟨h1, h2⟩ | ⟨h1, h2⟩
          · exact .inr (.inl ⟨h, .refl _⟩)
          · exact .inr (.inl ⟨h1, .refl _⟩)
          · exact .inl h1
        · rcases ih with h | ⟨h1, h2⟩ | ⟨h1, h2⟩
          · exact .inr (.inr ⟨h, .refl _⟩)
          · exact .inl h1
          · exact .inr (.inr ⟨h1, .refl _⟩)
      · have st : ∀ {a}, Conn P eu ev a w → Conn P eu ev a z := fun c => .step c q hq he
        rcases ih with h | ⟨h1, h2⟩ | ⟨h1, h2⟩
        · exact .inl (st h)
        · exact .inr (.inl ⟨h1, st h2⟩)
        · exact .inr (.inr ⟨h1, st h2⟩)
  · have up : ∀ {a b}, Conn P eu ev a b → Conn (fun q => q = s ∨ P q) eu ev a b := fun c => c.mono fun q hq => .inr hq
    have e : Conn (fun q => q = s ∨ P q) eu ev (eu s) (ev s) := .step (.refl _) s (.inl rfl) (.inl ⟨rfl, rfl⟩)
    rintro (h | ⟨h1, h2⟩ | ⟨h1, h2⟩)
    · exact up h
    · exact ((up h1).trans e).trans (up h2)
    · exact ((up h1).trans e.symm).trans (up h2)
theorem countP_dis {α : Type} {p q r : α → Bool} : ∀ {l : List α}, (∀ x ∈ l, r x = (p x || q x)) → (∀ x ∈ l, p x = true → q x = false) → l.countP r = l.countP p + l.countP q
  | [], _, _ => rfl
  | x :: l, h, hd => by
    have ih := countP_dis (l := l) (fun y hy => h y (by simp [hy])) (fun y hy => hd y (by simp [hy]))
    have h1 := h x (by simp); have h2 := hd x (by simp)
    simp only [List.countP_cons, ih, h1]
    cases hp : p x <;> cases hq : q x <;> simp_all <;> omega
theorem countP_none {α : Type} {p : α → Bool} : ∀ {l : List α}, (∀ x ∈ l, p x = false) → l.countP p = 0
  | [], _ => rfl
  | x :: l, h => by rw [List.countP_cons, countP_none fun y hy => h y (by simp [hy]), h x (by simp)]; rfl
theorem countP_eq_ {α : Type} {p q : α → Bool} {l : List α} (h : ∀ x ∈ l, p x = q x) : l.countP p = l.countP q := List.countP_congr fun x hx => by rw [h x hx]
theorem dec_or {a b c : Prop} [Decidable a] [Decidable b] [Decidable c] (h : a ↔ b ∨ c) : decide a = (decide b || decide c) := by
  by_cases hb : b <;> by_cases hc : c <;> simp [h, hb, hc]
theorem dec_iff {a b : Prop} [Decidable a] [Decidable b] (h : a ↔ b) : decide a = decide b := by
  by_cases hb : b <;> simp [h, hb]
def NoCy (eu ev : Int → Int) : List Int → Prop
  | [] => True
  | s :: es => ¬ Conn (· ∈ es) eu ev (eu s) (ev s) ∧ NoCy eu ev es
section
open Classical
noncomputable def nvL (V : Nat) (eu ev : Int → Int) (es : List Int) (u : Int) : Nat := (List.range V).countP fun w : Nat => decide (Conn (· ∈ es) eu ev u w)
noncomputable def neL (eu ev : Int → Int) (es : List Int) (u : Int) : Nat := es.countP fun q => decide (Conn (· ∈ es) eu ev u (eu q))
theorem conn_nil {eu ev : Int → Int} {x y : Int} (h : Conn (· ∈ ([] : List Int)) eu ev x y) : x = y := by
  induction h with
  | refl => rfl
  | step _ s hs => cases hs
theorem conn_mem {s : Int} {es : List Int} {eu ev : Int → Int} {x y : Int} : Conn (· ∈ s :: es) eu ev x y ↔ Conn (· ∈ es) eu ev x y ∨ (Conn (· ∈ es) eu ev x (eu s) ∧ Conn (· ∈ es) eu ev (ev s) y) ∨ (Conn (· ∈ es) eu ev x (ev s) ∧ Conn (· ∈ es) eu ev (eu s) y) := by
  rw [← conn_cons]
  exact ⟨fun c => c.mono fun q hq => List.mem_cons.1 hq, fun c => c.mono fun q hq => List.mem_cons.2 hq⟩
theorem euler {V : Nat} {eu ev : Int → Int} : ∀ (es : List Int), NoCy eu ev es → (∀ s ∈ es, (0 ≤ eu s ∧ eu s < V) ∧ 0 ≤ ev s ∧ ev s < V) → ∀ u : Int, 0 ≤ u → u < V → nvL V eu ev es u = 1 + neL eu ev es u
  | [], _, _, u, h0, h1 => by
    unfold nvL neL
    have := countP_one (p := fun _ : Nat => false) (q := fun w : Nat => decide (Conn (· ∈ ([] : List Int)) eu ev u w)) (r := List.range V) (s := u.toNat) (fun x hx hne => decide_eq_false fun c => hne (by have := conn_nil c; omega)) (List.mem_range.2 (by omega)) rfl (decide_eq_true (by rw [show ((u.toNat : Nat) : Int) = u by omega]; exact .refl _)) List.nodup_range
    rw [this, countP_none fun _ _ => rfl]; rfl
  | s :: es, ⟨hs, hc⟩, hr, u, h0, h1 => by
    have ih := euler es hc (fun q hq => hr q (by simp [hq]))
    obtain ⟨ra, rb⟩ := hr s (by simp)
    have ab : ∀ {x}, Conn (· ∈ es) eu ev x (eu s) → ¬ Conn (· ∈ es) eu ev x (ev s) := fun c c' => hs (c.symm.trans c')
    unfold nvL neL
    rw [List.countP_cons]
    by_cases ua : Conn (· ∈ es) eu ev u (eu s)
    · have ub := ab ua
      have k : ∀ y, Conn (· ∈ s :: es) eu ev u y ↔ Conn (· ∈ es) eu ev u y ∨ Conn (· ∈ es) eu ev (ev s) y := fun y => by
        rw [conn_mem]
        exact ⟨fun h => by rcases h with h | h | h; exact .inl h; exact .inr h.2; exact absurd h.1 ub, fun h => h.elim .inl fun h => .inr (.inl ⟨ua, h⟩)⟩
      have d : ∀ y, Conn (· ∈ es) eu ev u y → ¬ Conn (· ∈ es) eu ev (ev s) y := fun y c c' => ub (c.trans c'.symm)
      rw [countP_dis (p := fun w : Nat => decide (Conn (· ∈ es) eu ev u w)) (q := fun w : Nat => decide (Conn (· ∈ es) eu ev (ev s) w)) (fun x _ => dec_or (k _)) (fun x _ h => decide_eq_false (d _ (of_decide_eq_true h))),
        countP_dis (p := fun q => decide (Conn (· ∈ es) eu ev u (eu q))) (q := fun q => decide (Conn (· ∈ es) eu ev (ev s) (eu q))) (l := es) (fun x _ => dec_or (k _)) (fun x _ h => decide_eq_false (d _ (of_decide_eq_true h))), if_pos (decide_eq_true ((k _).2 (.inl ua)))]
      have i1 := ih u h0 h1; have i2 := ih (ev s) rb.1 rb.2
      unfold nvL neL at i1 i2
      omega
    · by_cases ub : Conn (· ∈ es) eu ev u (ev s)
      · have k : ∀ y, Conn (· ∈ s :: es) eu ev u y ↔ Conn (· ∈ es) eu ev u y ∨ Conn (· ∈ es) eu ev (eu s) y := fun y => by
          rw [conn_mem]
          exact ⟨fun h => by rcases h with h | h | h; exact .inl h; exact absurd h.1 ua; exact .inr h.2, fun h => h.elim .inl fun h => .inr (.inr ⟨ub, h⟩)⟩
        have d : ∀ y, Conn (· ∈ es) eu ev u y → ¬ Conn (· ∈ es) eu ev (eu s) y := fun y c c' => ua (c.trans c'.symm)
        rw [countP_dis (p := fun w : Nat => decide (Conn (· ∈ es) eu ev u w)) (q := fun w : Nat => decide (Conn (· ∈ es) eu ev (eu s) w)) (fun x _ => dec_or (k _)) (fun x _ h => decide_eq_false (d _ (of_decide_eq_true h))),
          countP_dis (p := fun q => decide (Conn (· ∈ es) eu ev u (eu q))) (q := fun q => decide (Conn (· ∈ es) eu ev (eu s) (eu q))) (l := es) (fun x _ => dec_or (k _)) (fun x _ h => decide_eq_false (d _ (of_decide_eq_true h))), if_pos (decide_eq_true ((k _).2 (.inr (.refl _))))]
        have i1 := ih u h0 h1; have i2 := ih (eu s) ra.1 ra.2
        unfold nvL neL at i1 i2
        omega
      · have k : ∀ y, Conn (· ∈ s :: es) eu ev u y ↔ Conn (· ∈ es) eu ev u y := fun y => by
          rw [conn_mem]
          exact ⟨fun h => by rcases h with h | h | h; exact h; exact absurd h.1 ua; exact absurd h.1 ub, .inl⟩
        rw [countP_eq_ (q := fun w : Nat => decide (Conn (· ∈ es) eu ev u w)) (fun x _ => dec_iff (k _)), countP_eq_ (q := fun q => decide (Conn (· ∈ es) eu ev u (eu q))) (l := es) (fun x _ => dec_iff (k _)), if_neg (by rw [decide_eq_true_iff, k]; exact ua)]
        have i1 := ih u h0 h1
        unfold nvL neL at i1
        omega
theorem noCy_of {P : Int → Prop} {eu ev : Int → Int} (hb : ∀ s, P s → ¬ Conn (fun q => P q ∧ q ≠ s) eu ev (eu s) (ev s)) : ∀ (es : List Int), es.Nodup → (∀ s ∈ es, P s) → NoCy eu ev es
  | [], _, _ => trivial
  | s :: es, hn, hp => by
    obtain ⟨n1, n2⟩ := List.nodup_cons.1 hn
    exact ⟨fun c => hb s (hp s (by simp)) (c.mono fun q hq => ⟨hp q (by simp [hq]), fun e => n1 (e ▸ hq)⟩), noCy_of hb es n2 fun q hq => hp q (by simp [hq])⟩
noncomputable def ne (l : Lay) (g : G) (i u : Int) : Nat := (List.range l.S).countP fun q : Nat => decide (Pg g i q ∧ Jn g i u (g.u q))
section
variable {l : Lay} (hl : l.Ok) {σ : M} {mk pr : Int → Int} {F : Int → T} {g : G} {L : Int → Int → List Int} {d : Array EdR}
include hl
theorem nv_ne (hI : InvR l pr σ F mk g L) {i : Int} (hi : 0 ≤ i ∧ i < l.lev) {u : Int} (hu : 0 ≤ u ∧ u < l.V) : nv l g i u = 1 + ne l g i u := by
  have hT := hI.tours i hi
  let es : List Int := ((List.range l.S).filter fun q : Nat => decide (Pg g i q)).map fun q : Nat => (q : Int)
  have hes : ∀ q, q ∈ es ↔ Pg g i q := fun q => by
    constructor
    · intro h
      obtain ⟨m, hm, rfl⟩ := List.mem_map.1 h
      exact of_decide_eq_true (List.mem_filter.1 hm).2
    · intro h
      have hr := (hI.edges.rng q h.1).1
      refine List.mem_map.2 ⟨q.toNat, List.mem_filter.2 ⟨List.mem_range.2 (by omega), ?_⟩, by omega⟩
      rw [show ((q.toNat : Nat) : Int) = q by omega]; exact decide_eq_true h
  have hnd : es.Nodup := List.pairwise_map.2 (((List.nodup_range (n := l.S)).filter _).imp fun h e => h (by omega))
  have key := euler (V := l.V) es (noCy_of (P := Pg g i) (fun s hs => hT.bridge hl hi hI.lm.forest hs) es hnd fun s hs => (hes s).1 hs) (fun s hs => by have := (hI.edges.rng s ((hes s).1 hs).1).2.1; omega) u hu.1 hu.2
  have hc : ∀ {x y}, Conn (· ∈ es) g.u g.v x y ↔ Jn g i x y := Conn.iff hl hes
  unfold nvL neL at key
  unfold nv ne
  rw [countP_eq_ (q := fun w : Nat => decide (Conn (· ∈ es) g.u g.v u w)) (fun x _ => dec_iff hc.symm), key]
  congr 1
  show (List.map _ _).countP _ = _
  rw [List.countP_map, List.countP_filter]
  exact countP_eq_ fun q _ => by
    simp only [Function.comp, hc]
    by_cases h1 : Pg g i q <;> by_cases h2 : Jn g i u (g.u q) <;> simp [h1, h2]
end
end
section
variable {l : Lay} (hl : l.Ok) {σ : M} {mk pr : Int → Int} {F : Int → T} {g : G} {L : Int → Int → List Int} {d : Array EdR}
def vsL (l : Lay) (r : List Int) : List Int := (r.filter fun x => !(l.node x).1.arc).map fun x => (l.node x).1.vertex
def acN (l : Lay) (r : List Int) : Nat := r.countP fun x => (l.node x).1.arc
theorem vsL_len (r : List Int) : ((vsL l r).length : Int) = vts l r ∧ acN l r + (vsL l r).length = r.length := by
  induction r with
  | nil => exact ⟨rfl, rfl⟩
  | cons x r ih =>
    unfold vsL acN at *
    rw [vts, List.filter_cons, List.countP_cons]
    cases h : (l.node x).1.arc <;> simp at ih ⊢ <;> omega
theorem vsL_take {r : List Int} {k : Nat} (h : k < r.length) : vsL l (r.take (k + 1)) = vsL l (r.take k) ++ (if (l.node r[k]!).1.arc then [] else [(l.node r[k]!).1.vertex]) := by
  rw [List.take_succ_eq_append_getElem h, getElem!_pos _ k h]
  unfold vsL
  rw [List.filter_append, List.map_append]
  cases hh : (l.node r[k]).1.arc <;> simp [hh]
theorem acN_take {r : List Int} {k : Nat} (h : k < r.length) : acN l (r.take (k + 1)) = acN l (r.take k) + (if (l.node r[k]!).1.arc then 1 else 0) := by
  rw [List.take_succ_eq_append_getElem h, getElem!_pos _ k h]
  unfold acN
  rw [List.countP_append]
  cases hh : (l.node r[k]).1.arc <;> simp [hh]
include hl
theorem vsL_mem {i : Int} {r : List Int} (hr : ∀ x ∈ r, l.nd x ∧ (l.node x).1.level = i) {w : Int} (h : w ∈ vsL l r) : l.okV i w ∧ l.vertex i w ∈ r := by
  obtain ⟨x, hx, rfl⟩ := List.mem_map.1 h
  obtain ⟨h1, h2⟩ := List.mem_filter.1 hx
  obtain ⟨n1, n2⟩ := hr x h1
  rcases nd_cases hl n1 with ⟨j, w, hw, rfl⟩ | ⟨s, j, d, hs, rfl⟩
  · rw [(vertex_spec hl hw).2.1] at n2 ⊢
    have : j = i := n2
    subst this; exact ⟨hw, h1⟩
  · rw [(arc_spec hl hs).2] at h2; simp at h2
theorem acs_cnt {i : Int} (hi : 0 ≤ i ∧ i < l.lev) : ∀ (r : List Int), r.Nodup → (∀ x ∈ r, l.nd x ∧ (l.node x).1.level = i) → acN l r = (List.range l.S).countP (fun s : Nat => decide (l.arc s i 0 ∈ r)) + (List.range l.S).countP fun s : Nat => decide (l.arc s i 1 ∈ r) := by
  intro r
  induction r with
  | nil => intro _ _; simp [acN]
  | cons x r ih =>
    intro hnd hx
    obtain ⟨n1, n2⟩ := List.nodup_cons.1 hnd
    obtain ⟨nx, lx⟩ := hx x (by simp)
    have ih' := ih n2 fun y hy => hx y (by simp [hy])
    have okA : ∀ w : Nat, w ∈ List.range l.S → ∀ d, 0 ≤ d ∧ d < 2 → l.okA w i d := fun w hw d hd => ⟨by have := List.mem_range.1 hw; omega, hi, hd⟩
    have hcons : acN l (x :: r) = acN l r + if (l.node x).1.arc then 1 else 0 := by unfold acN; rw [List.countP_cons]
    have same : ∀ d, 0 ≤ d ∧ d < 2 → (∀ s : Nat, s ∈ List.range l.S → l.arc s i d ≠ x) → (List.range l.S).countP (fun s : Nat => decide (l.arc s i d ∈ x :: r)) = (List.range l.S).countP fun s : Nat => decide (l.arc s i d ∈ r) := fun d hd h => countP_eq_ fun s hs => by have := h s hs; simp [this]
    have more : ∀ d, 0 ≤ d ∧ d < 2 → ∀ s, l.okA s i d → l.arc s i d = x → (List.range l.S).countP (fun s : Nat => decide (l.arc s i d ∈ x :: r)) = (List.range l.S).countP (fun s : Nat => decide (l.arc s i d ∈ r)) + 1 := fun d hd s hs he => by
      have es : ((s.toNat : Nat) : Int) = s := by have := hs.1; omega
      exact countP_one (s := s.toNat) (fun y hy hne => by
        have : l.arc y i d ≠ x := fun h2 => hne (by have := ((arc_inj hl (okA y hy d hd) hs).1 (h2.trans he.symm)).1; omega)
        simp [this]) (List.mem_range.2 (by have := hs.1; omega)) (by rw [es, he]; simpa using n1) (by rw [es, he]; simp) List.nodup_range
    rw [hcons, ih']
    rcases nd_cases hl nx with ⟨j, w, hw, rfl⟩ | ⟨s, j, d, hs, rfl⟩
    · rw [(vertex_spec hl hw).2.1, same 0 (by omega) fun s hs he => vertex_arc hl hw (okA s hs 0 (by omega)) he.symm, same 1 (by omega) fun s hs he => vertex_arc hl hw (okA s hs 1 (by omega)) he.symm]; rfl
    · rw [(arc_spec hl hs).2] at lx ⊢
      have hji : j = i := lx
      subst hji
      have hd : d = 0 ∨ d = 1 := by have := hs.2.2; omega
      rcases hd with rfl | rfl
      · rw [more 0 (by omega) s hs rfl, same 1 (by omega) fun t ht he => by have := ((arc_inj hl (okA t ht 1 (by omega)) hs).1 he).2.2; omega]
        show _ + 1 = _; omega
      · rw [more 1 (by omega) s hs rfl, same 0 (by omega) fun t ht he => by have := ((arc_inj hl (okA t ht 0 (by omega)) hs).1 he).2.2; omega]
        show _ + 1 = _; omega
theorem row_lev (hI : InvR l pr σ F mk g L) {i x : Int} (hi : 0 ≤ i ∧ i < l.lev) (hx : l.nd x) (hv : (l.node x).1.level = i) : ∀ y ∈ (F x).list, l.nd y ∧ (l.node y).1.level = i := fun y hy => ⟨(hI.lm.forest.rep x hx).nd y hy, (hI.tours i hi).lev x hx hv y hy⟩
theorem row_count (hI : InvR l pr σ F mk g L) {i u : Int} (hi : 0 ≤ i ∧ i < l.lev) (hu : 0 ≤ u ∧ u < l.V) : (vsL l (F (l.vertex i u)).list).length = nv l g i u ∧ acN l (F (l.vertex i u)).list = 2 * ne l g i u := by
  have ou : l.okV i u := ⟨hi, hu⟩
  have hF := hI.lm.forest; have hT := hI.tours i hi
  obtain ⟨nx, ex, _⟩ := vertex_spec hl ou
  have hr := row_lev hl hI hi nx (by rw [ex])
  have hnd := hF.nodup _ nx
  constructor
  · have h1 := (vsL_len (l := l) (F (l.vertex i u)).list).1
    rw [vts_cnt hl hi _ hnd hr] at h1
    have h2 : (List.range l.V).countP (fun w : Nat => decide (l.vertex i w ∈ (F (l.vertex i u)).list)) = nv l g i u := by
      classical
      unfold nv
      exact countP_eq_ fun w hw => dec_iff (by
        have ow : l.okV i w := ⟨hi, by have := List.mem_range.1 hw; omega⟩
        rw [hF.mem_iff hl (vertex_spec hl ow).1 nx, eq_comm]
        exact hT.row_iff hl hi ou ow)
    omega
  · rw [acs_cnt hl hi _ hnd hr]
    have key : ∀ d, 0 ≤ d ∧ d < 2 → (List.range l.S).countP (fun s : Nat => decide (l.arc s i d ∈ (F (l.vertex i u)).list)) = ne l g i u := fun d hd => by
      classical
      unfold ne
      exact countP_eq_ fun s hs => dec_iff (by
        have oa : l.okA s i d := ⟨by have := List.mem_range.1 hs; omega, hi, hd⟩
        have na := (arc_spec hl oa).1
        rw [hF.mem_iff hl na nx]
        by_cases hp : Pg g i s
        · obtain ⟨a1, a2, a3⟩ := hT.arcs s hp
          have hr2 := (hI.edges.rng s hp.1).2.1
          have e : F (l.arc s i d) = F (l.vertex i (g.u s)) := by
            have : d = 0 ∨ d = 1 := by omega
            rcases this with rfl | rfl
            · exact a2.symm
            · rw [a1, a2]
          rw [e, eq_comm]
          have := hT.row_iff hl hi ou (v := g.u s) ⟨hi, by omega⟩
          exact ⟨fun h => ⟨hp, this.1 h⟩, fun h => this.2 h.2⟩
        · refine ⟨fun h => ?_, fun h => absurd h.1 hp⟩
          have h1 := hT.single s d oa hp
          have h2 := hF.mem _ nx
          rw [← h, h1] at h2
          exact absurd (List.mem_singleton.1 h2) (vertex_arc hl ou oa))
    rw [key 0 (by omega), key 1 (by omega)]; omega
structure Part (l : Lay) (g : G) (i s : Int) (B O : List Int) (c : Int) : Prop where
  hc : c = 0 ∨ c = 1
  bi : ∀ w, l.okV i w → l.vertex i w ∈ B → Conn (fun q => Pg g i q ∧ q ≠ s) g.u g.v w (if c = 0 then g.u s else g.v s)
  bo : ∀ w, l.okV i w → l.vertex i w ∈ O → Conn (fun q => Pg g i q ∧ q ≠ s) g.u g.v w (if c = 0 then g.v s else g.u s)
  ne : ¬ Conn (fun q => Pg g i q ∧ q ≠ s) g.u g.v (g.u s) (g.v s)
  hi : ∃ w, l.okV i w ∧ l.vertex i w ∈ B
  ho : ∃ w, l.okV i w ∧ l.vertex i w ∈ O
theorem part_of (hI : InvR l pr σ F mk g L) {i s : Int} (hi : 0 ≤ i ∧ i < l.lev) (hP : Pg g i s) :
    ∃ A e1 B e2 C c, (F (l.arc s i 0)).list = A ++ e1 :: (B ++ e2 :: C) ∧ ((e1 = l.arc s i 0 ∧ e2 = l.arc s i 1) ∨ (e1 = l.arc s i 1 ∧ e2 = l.arc s i 0)) ∧ Part l g i s B (A ++ C) c := by
  have hh := hP.1
  obtain ⟨hu, hv, h0, h1⟩ := hI.okuv hl hh hi
  have hT := hI.tours i hi
  have hF := hI.lm.forest
  have n0 := (arc_spec hl h0).1
  have n1 := (arc_spec hl h1).1
  have n01 : l.arc s i 0 ≠ l.arc s i 1 := fun he => by have := ((arc_inj hl h0 h1).1 he).2.2; omega
  have m0 := hF.mem _ n0
  have m1 : l.arc s i 1 ∈ (F (l.arc s i 0)).list := by rw [← (hT.arcs s hP).1]; exact hF.mem _ n1
  obtain ⟨e1, e2, A, B, C, he, hL⟩ : ∃ e1 e2 A Bm C, ((e1 = l.arc s i 0 ∧ e2 = l.arc s i 1) ∨ (e1 = l.arc s i 1 ∧ e2 = l.arc s i 0)) ∧ (F (l.arc s i 0)).list = A ++ e1 :: (Bm ++ e2 :: C) := by
    obtain ⟨X, Y, hXY⟩ := List.append_of_mem m0
    rw [hXY] at m1
    rcases List.mem_append.1 m1 with hm | hm
    · obtain ⟨X1, X2, hX⟩ := List.append_of_mem hm
      exact ⟨_, _, X1, X2, Y, .inr ⟨rfl, rfl⟩, by rw [hXY, hX]; simp⟩
    · rcases List.mem_cons.1 hm with hm | hm
      · exact absurd hm.symm n01
      · obtain ⟨Y1, Y2, hY⟩ := List.append_of_mem hm
        exact ⟨_, _, X, Y1, Y2, .inl ⟨rfl, rfl⟩, by rw [hXY, hY]⟩
  obtain ⟨r, σ', F', ti, to, e, li, lo, hF', tti, tto, l0, l1, hn, hfr⟩ := hF.cut hl (P1_ok hl) h0 h1 he hL (k := 561) (by decide)
  obtain ⟨hT', hne⟩ := hT.cut hl hi hF hF' hP he hL li lo tti tto l0 l1 hn
  have inB : ∀ w, l.okV i w → l.vertex i w ∈ B → F' (l.vertex i w) = ti := fun w hw hm => (tti _ (by rw [li]; exact hm)).2
  have inO : ∀ w, l.okV i w → l.vertex i w ∈ A ++ C → F' (l.vertex i w) = to := fun w hw hm => (tto _ (by rw [lo]; exact hm)).2
  have mem : ∀ w, l.okV i w → F (l.vertex i w) = F (l.arc s i 0) → l.vertex i w ∈ B ∨ l.vertex i w ∈ A ++ C := fun w hw hf => by
    have hm := hF.mem _ (vertex_spec hl hw).1
    rw [hf, hL] at hm
    have x0 := vertex_arc hl hw h0; have x1 := vertex_arc hl hw h1
    have xe1 : l.vertex i w ≠ e1 := by rcases he with ⟨a, _⟩ | ⟨a, _⟩ <;> rw [a] <;> assumption
    have xe2 : l.vertex i w ≠ e2 := by rcases he with ⟨_, a⟩ | ⟨_, a⟩ <;> rw [a] <;> assumption
    simp only [List.mem_append, List.mem_cons] at hm ⊢
    rcases hm with h | h | h | h | h
    · exact .inr (.inl h)
    · exact absurd h xe1
    · exact .inl h
    · exact absurd h xe2
    · exact .inr (.inr h)
  have mu := mem _ hu (hT.arcs s hP).2.1
  have mv := mem _ hv (hT.arcs s hP).2.2
  have nc : ¬ Conn (fun q => Pg g i q ∧ q ≠ s) g.u g.v (g.u s) (g.v s) := hT.bridge hl hi hF hP
  have iff := fun {x y} (hx : l.okV i x) (hy : l.okV i y) => hT'.row_iff hl hi hx hy
  refine ⟨A, e1, B, e2, C, ?_⟩
  rcases mu with mu | mu
  · have mv : l.vertex i (g.v s) ∈ A ++ C := mv.resolve_left fun h => hne ((inB _ hu mu).trans (inB _ hv h).symm)
    exact ⟨0, hL, he, .inl rfl, fun w hw hm => by rw [if_pos rfl]; exact (iff hw hu).1 ((inB w hw hm).trans (inB _ hu mu).symm), fun w hw hm => by rw [if_pos rfl]; exact (iff hw hv).1 ((inO w hw hm).trans (inO _ hv mv).symm), nc, ⟨_, hu, mu⟩, ⟨_, hv, mv⟩⟩
  · have mv : l.vertex i (g.v s) ∈ B := mv.resolve_right fun h => hne ((inO _ hu mu).trans (inO _ hv h).symm)
    exact ⟨1, hL, he, .inr rfl, fun w hw hm => by rw [if_neg (by decide)]; exact (iff hw hv).1 ((inB w hw hm).trans (inB _ hv mv).symm), fun w hw hm => by rw [if_neg (by decide)]; exact (iff hw hu).1 ((inO w hw hm).trans (inO _ hu mu).symm), nc, ⟨_, hv, mv⟩, ⟨_, hu, mu⟩⟩
omit hl
def cutW (x y : Int) : Nat → List Int → List Int × List Int
  | _, [] => ([], [])
  | s, z :: r => if z = x ∨ z = y then cutW x y (s + 1) r else if s = 1 then (z :: (cutW x y s r).1, (cutW x y s r).2) else ((cutW x y s r).1, z :: (cutW x y s r).2)
theorem cutW_app {x y : Int} {s : Nat} : ∀ {A R : List Int}, (∀ z ∈ A, z ≠ x ∧ z ≠ y) → cutW x y s (A ++ R) = if s = 1 then (A ++ (cutW x y s R).1, (cutW x y s R).2) else ((cutW x y s R).1, A ++ (cutW x y s R).2)
  | [], R, _ => by simp
  | z :: A, R, h => by
    have hz := h z (by simp)
    have ih := cutW_app (x := x) (y := y) (s := s) (A := A) (R := R) fun w hw => h w (by simp [hw])
    rw [List.cons_append, cutW, if_neg (by omega), ih]
    by_cases e : s = 1 <;> simp [e]
theorem cutW_eq {x y e1 e2 : Int} {A B C : List Int} (hnd : (A ++ e1 :: (B ++ e2 :: C)).Nodup) (he : (e1 = x ∧ e2 = y) ∨ (e1 = y ∧ e2 = x)) : cutW x y 0 (A ++ e1 :: (B ++ e2 :: C)) = (B, A ++ C) := by
  have hA : ∀ z, z ∈ A → z ≠ e1 ∧ z ≠ e2 := fun z hz => ⟨fun h => (List.nodup_append.1 hnd).2.2 z hz e1 (by simp) h, fun h => (List.nodup_append.1 hnd).2.2 z hz e2 (by simp) h⟩
  have hnd2 := (List.nodup_append.1 hnd).2.1
  obtain ⟨n1, hnd3⟩ := List.nodup_cons.1 hnd2
  have hB : ∀ z, z ∈ B → z ≠ e1 ∧ z ≠ e2 := fun z hz => ⟨fun h => n1 (by simp [← h, hz]), fun h => (List.nodup_append.1 hnd3).2.2 z hz e2 (by simp) h⟩
  obtain ⟨n4, hnd4⟩ := List.nodup_cons.1 (List.nodup_append.1 hnd3).2.1
  have hC : ∀ z, z ∈ C → z ≠ e1 ∧ z ≠ e2 := fun z hz => ⟨fun h => n1 (by simp [← h, hz]), fun h => n4 (h ▸ hz)⟩
  have conv : ∀ z, z ≠ e1 ∧ z ≠ e2 → z ≠ x ∧ z ≠ y := fun z hz => by rcases he with ⟨a, b⟩ | ⟨a, b⟩ <;> omega
  have hC0 := cutW_app (x := x) (y := y) (s := 2) (A := C) (R := []) fun z hz => conv z (hC z hz)
  rw [if_neg (by decide), List.append_nil] at hC0
  rw [cutW_app (fun z hz => conv z (hA z hz)), if_neg (by decide), cutW, if_pos (by omega), cutW_app (fun z hz => conv z (hB z hz)), if_pos rfl, cutW, if_pos (by omega), hC0]
  simp [cutW]
theorem NmOk.vtx {l : Lay} (hl : l.Ok) {n : Nm} {x : Int} (h : NmOk l n x) (hk : n.k = 1) : n.b = (l.node x).1.vertex ∧ (l.node x).1.arc = false := by
  rcases h.as with ⟨_, _, h3, rfl⟩ | ⟨h1, _⟩
  · rw [(vertex_spec hl h3).2.1]; exact ⟨rfl, rfl⟩
  · omega
theorem NmOk.arcs {l : Lay} (hl : l.Ok) {n : Nm} {x : Int} (h : NmOk l n x) (hk : ¬ n.k = 1) : n.k = 2 ∧ l.okA n.a n.b n.c ∧ x = l.arc n.a n.b n.c ∧ (l.node x).1.arc = true := by
  rcases h.as with ⟨h1, _⟩ | ⟨h1, h2, h3⟩
  · omega
  · refine ⟨h1, h2, h3.symm, ?_⟩
    rw [← h3, (arc_spec hl h2).2]
theorem side_facts {l : Lay} (hl : l.Ok) {i u v c : Int} {Q : Int → Prop} {eu ev : Int → Int} {X : List Int} {fg : Nat → Int × Int} {gn : Nat} (hj : ∀ x y, joinB fg gn x y = true ↔ Conn Q eu ev x y) (hx : ∀ w, l.okV i w → l.vertex i w ∈ X → Conn Q eu ev w (if c = 0 then u else v)) (ne : ¬ Conn Q eu ev u v)
    (hr : ∀ y ∈ X, l.nd y ∧ (l.node y).1.level = i) {j : Nat} (hj2 : j < X.toArray.size) (ha : (l.node X.toArray[j]!).1.arc = false) : joinB fg gn (l.node X.toArray[j]!).1.vertex u = decide (c = 0) ∧ (c = 0 → joinB fg gn (l.node X.toArray[j]!).1.vertex u = true) ∧ (¬ c = 0 → joinB fg gn (l.node X.toArray[j]!).1.vertex v = true) := by
  have hm : X.toArray[j]! ∈ X := by rw [getElem!_pos _ j hj2]; simp
  obtain ⟨n1, n2⟩ := hr _ hm
  generalize X.toArray[j]! = y at *
  obtain ⟨w, hw, rfl⟩ : ∃ w, l.okV i w ∧ y = l.vertex i w := by
    rcases nd_cases hl n1 with ⟨k, w, hw, rfl⟩ | ⟨s, k, d, hs, rfl⟩
    · rw [(vertex_spec hl hw).2.1] at n2
      have : k = i := n2
      subst this; exact ⟨w, hw, rfl⟩
    · rw [(arc_spec hl hs).2] at ha; cases ha
  have h1 := hx w hw hm
  rw [(vertex_spec hl hw).2.1]
  show joinB fg gn w u = _ ∧ (_ → joinB fg gn w u = true) ∧ (_ → joinB fg gn w v = true)
  by_cases e : c = 0
  · rw [if_pos e] at h1
    have h2 := (hj w u).2 h1
    exact ⟨by rw [h2, decide_eq_true e], fun _ => h2, fun h => absurd e h⟩
  · rw [if_neg e] at h1
    have h2 := (hj w v).2 h1
    refine ⟨?_, fun h => absurd h e, fun _ => h2⟩
    rw [decide_eq_false e, Bool.eq_false_iff]
    exact fun h3 => ne (((hj w u).1 h3).symm.trans h1)
theorem side_ex {l : Lay} (hl : l.Ok) {i : Int} {X : List Int} (h : ∃ w, l.okV i w ∧ l.vertex i w ∈ X) : ∃ j, j < X.toArray.size ∧ (l.node X.toArray[j]!).1.arc = false := by
  obtain ⟨w, hw, hm⟩ := h
  obtain ⟨j, hj, e⟩ := List.mem_iff_getElem.1 hm
  have hj2 : j < X.toArray.size := by simpa using hj
  refine ⟨j, hj2, ?_⟩
  rw [getElem!_pos _ j hj2, show X.toArray[j] = X[j] from by simp, e, (vertex_spec hl hw).2.1]
theorem hasN_mem2 {f : Nat → Int} {n : Nat} {r : List Int} {x : Int} (hf : ∀ j, j < n → f j = r[j]!) (hn : n = r.length) (hx : x ∈ r) : hasN f x n = true := by
  obtain ⟨j, hj, e⟩ := List.mem_iff_getElem.1 hx
  exact hasN_iff.2 ⟨j, by omega, by rw [hf j (by omega), getElem!_pos r j hj, e]⟩
structure CutI (x y : Int) (r : List Int) (k s : Nat) (I O : List Int) : Prop where
  eq : cutW x y 0 r = (I ++ (cutW x y s (r.drop k)).1, O ++ (cutW x y s (r.drop k)).2)
  hi : I.length ≤ k
  ho : O.length ≤ k
  hs : s ≤ k
theorem CutI.start {x y : Int} {r : List Int} : CutI x y r 0 0 [] [] := ⟨by simp, Nat.le_refl _, Nat.le_refl _, Nat.le_refl _⟩
theorem CutI.arc {x y : Int} {r : List Int} {k s : Nat} {I O : List Int} (h : CutI x y r k s I O) (hk : k < r.length) (hz : r[k]! = x ∨ r[k]! = y) : CutI x y r (k + 1) (s + 1) I O := by
  have e := h.eq
  rw [List.drop_eq_getElem_cons hk, ← getElem!_pos r k hk, cutW, if_pos hz] at e
  exact ⟨e, by have := h.hi; omega, by have := h.ho; omega, by have := h.hs; omega⟩
theorem CutI.inner {x y : Int} {r : List Int} {k s : Nat} {I O : List Int} (h : CutI x y r k s I O) (hk : k < r.length) (hx : ¬ r[k]! = x) (hy : ¬ r[k]! = y) (hs : (s : Int) = 1) : CutI x y r (k + 1) s (I ++ [r[k]!]) O := by
  have e := h.eq
  rw [List.drop_eq_getElem_cons hk, ← getElem!_pos r k hk, cutW, if_neg (by omega), if_pos (by omega)] at e
  exact ⟨by rw [e]; simp, by have := h.hi; simp; omega, by have := h.ho; omega, by have := h.hs; omega⟩
theorem CutI.outer {x y : Int} {r : List Int} {k s : Nat} {I O : List Int} (h : CutI x y r k s I O) (hk : k < r.length) (hx : ¬ r[k]! = x) (hy : ¬ r[k]! = y) (hs : ¬ (s : Int) = 1) : CutI x y r (k + 1) s I (O ++ [r[k]!]) := by
  have e := h.eq
  rw [List.drop_eq_getElem_cons hk, ← getElem!_pos r k hk, cutW, if_neg (by omega), if_neg (by omega)] at e
  exact ⟨by rw [e]; simp, by have := h.hi; omega, by have := h.ho; simp; omega, by have := h.hs; omega⟩
theorem CutI.end {x y : Int} {r : List Int} {k s : Nat} {I O : List Int} (h : CutI x y r k s I O) (hk : ¬ k < r.length) : cutW x y 0 r = (I, O) := by
  have e := h.eq
  rw [List.drop_of_length_le (by omega)] at e
  simpa [cutW] using e
theorem around_lone {l : Lay} (hl : l.Ok) {σ : M} {mk pr : Int → Int} {F : Int → T} {g : G} {L : Int → Int → List Int} (hI : InvR l pr σ F mk g L) {i x : Int} (hi : 0 ≤ i ∧ i < l.lev) (hx : l.nd x) (hlx : (l.node x).1.level = i) (hv0 : vsL l (F x).list = []) {n : Nm} {z : Nat} (hn : NmOk l n (z : Int)) (hz : (F x).list[0]! = (z : Int))
    {D : Array (Int × Int)} (hDz : D.size = l.S) (hD : ∀ q, q < D.size → D[q]! = grP g (Pg g i) q) : ∃ s : Nat, s < D.size ∧ n.a = (s : Int) ∧ D[s]! = (-1, -1) ∧ (F x).list.length = 1 := by
  have hF := hI.lm.forest; have hT := hI.tours i hi
  have hlev := row_lev hl hI hi hx hlx
  have noV : ∀ y ∈ (F x).list, (l.node y).1.arc = true := fun y hy => by
    cases h : (l.node y).1.arc with
    | true => rfl
    | false =>
      have : (l.node y).1.vertex ∈ vsL l (F x).list := List.mem_map.2 ⟨y, List.mem_filter.2 ⟨hy, by rw [h]; rfl⟩, rfl⟩
      rw [hv0] at this; cases this
  have hxm := hF.mem x hx
  have hpos := List.length_pos_of_mem hxm
  have hzm : (z : Int) ∈ (F x).list := by rw [← hz, getElem!_pos _ 0 hpos]; exact List.getElem_mem _
  have hza := noV _ hzm
  obtain ⟨a1, a2, a3, a4⟩ := hn.arcs hl fun hk => by have := (hn.vtx hl hk).2; rw [hza] at this; cases this
  have hlz := (hlev _ hzm).2
  rw [a3, (arc_spec hl a2).2] at hlz
  have e : n.b = i := hlz
  rw [e] at a2 a3
  have hsr := a2.1
  have hnP : ¬ Pg g i n.a := fun hp => by
    obtain ⟨b1, b2, b3⟩ := hT.arcs _ hp
    have r2 := (hI.edges.rng _ hp.1).2.1
    have hFz := hF.cls x hx _ hzm
    have hfa : F (l.vertex i (g.u n.a)) = F x := by
      rw [b2, ← hFz, a3]
      have : n.c = 0 ∨ n.c = 1 := by have := a2.2.2; omega
      rcases this with h | h <;> rw [h]
      exact b1.symm
    have ov : l.okV i (g.u n.a) := ⟨hi, by omega⟩
    have hm := hF.mem _ (vertex_spec hl ov).1
    rw [hfa] at hm
    have := noV _ hm
    rw [(vertex_spec hl ov).2.1] at this; cases this
  refine ⟨n.a.toNat, by omega, by omega, ?_, ?_⟩
  · rw [hD _ (by omega), show ((n.a.toNat : Nat) : Int) = n.a by omega]; unfold grP; rw [if_neg hnP]
  · have := hT.single _ _ a2 hnP
    rw [← a3, hF.cls x hx _ hzm] at this
    rw [this]; rfl
theorem around_arc {l : Lay} (hl : l.Ok) {σ : M} {mk pr : Int → Int} {F : Int → T} {g : G} {L : Int → Int → List Int} (hI : InvR l pr σ F mk g L) {i x u : Int} (hi : 0 ≤ i ∧ i < l.lev) (hu : l.okV i u) (hFu : F x = F (l.vertex i u)) {n : Nm} {z : Int} (hn : NmOk l n z) (hzm : z ∈ (F x).list) (hk : n.k = 2) (hc : n.c = 0) :
    ∃ s : Nat, (s : Int) < l.S ∧ n.a = (s : Int) ∧ Pg g i (s : Int) ∧ F (l.arc (s : Int) i 0) = F x := by
  have hF := hI.lm.forest; have hT := hI.tours i hi
  have nx := (vertex_spec hl hu).1
  rw [hFu] at hzm ⊢
  have hlev := row_lev hl hI hi nx (by rw [(vertex_spec hl hu).2.1])
  obtain ⟨a1, a2, a3, a4⟩ := hn.arcs hl (by omega)
  have hlz := (hlev _ hzm).2
  rw [a3, (arc_spec hl a2).2] at hlz
  have e : n.b = i := hlz
  rw [e, hc] at a2 a3
  have hsr := a2.1
  have es : ((n.a.toNat : Nat) : Int) = n.a := by omega
  have hFz := hF.cls _ nx _ hzm
  refine ⟨n.a.toNat, by omega, by omega, ?_, by rw [es, ← a3]; exact hFz⟩
  rw [es]
  by_cases hp : Pg g i n.a
  · exact hp
  · have h1 := hT.single _ _ a2 hp
    rw [← a3, hFz] at h1
    have h2 := hF.mem _ nx
    rw [h1, a3] at h2
    exact absurd (List.mem_singleton.1 h2) (vertex_arc hl hu a2)
end
section
variable {l : Lay} (hl : l.Ok) {σ : M} {mk pr : Int → Int} {F : Int → T} {g : G} {L : Int → Int → List Int} {d : Array EdR}
def UsI (d : Array EdR) (k : Nat) (D : Array Int) : Prop := ∀ s, s < D.size → D[s]! = if ∃ q, q < k ∧ d[q]!.slot = (s : Int) then 1 else 0
theorem UsI.start {N : Nat} : UsI d 0 (Array.replicate N 0) := fun s hs => by
  rw [getElem!_pos _ s hs, if_neg fun ⟨q, h, _⟩ => absurd h (Nat.not_lt_zero _)]; simp
theorem UsI.b {k s : Nat} {D : Array Int} (h : UsI d k D) (hs : s < D.size) : 0 ≤ D[s]! ∧ D[s]! ≤ 1 := by rw [h s hs]; split <;> omega
theorem UsI.step (hM : Mt g d) {k s : Nat} {D : Array Int} (h : UsI d k D) (hk : k < d.size) (hs : d[k]!.slot = (s : Int)) (hsD : s < D.size) : UsI d (k + 1) (D.setIfInBounds s (D[s]! + 1)) := fun t ht => by
  rw [get!_set' hsD]
  by_cases e : s = t
  · subst e
    rw [if_pos rfl, h s hsD, if_neg fun ⟨q, h1, h2⟩ => by have := hM.inj q k (by omega) hk (by omega); omega, if_pos ⟨k, by omega, hs⟩]; rfl
  · rw [if_neg e, h t (by simpa using ht)]
    have : (∃ q, q < k ∧ d[q]!.slot = (t : Int)) ↔ ∃ q, q < k + 1 ∧ d[q]!.slot = (t : Int) := ⟨fun ⟨q, h1, h2⟩ => ⟨q, by omega, h2⟩, fun ⟨q, h1, h2⟩ => ⟨q, ltk h1 fun e2 => by subst e2; omega, h2⟩⟩
    simp only [this]
theorem halfN {m : Nat} (h : m ≤ 16) : IntKind.i64.wrap ((m : Int).tdiv 2) = ((m / 2 : Nat) : Int) := by
  have h2 : ((m : Nat) : Int).tdiv 2 = ((m / 2 : Nat) : Int) := by rw [Int.tdiv_eq_ediv_of_nonneg (by omega)]; rfl
  rw [h2, wrapI (by omega)]
theorem half_le {V i m : Nat} (h : m = V / 2 ^ i) : m ≤ V ∧ m / 2 = V / 2 ^ (i + 1) := ⟨h ▸ Nat.div_le_self _ _, by rw [h, Nat.div_div_eq_div_mul, Nat.pow_succ]⟩
include hl
theorem lev_same (hI : InvR l pr σ F mk g L) : ∀ x, l.nd x → ∀ y ∈ (F x).list, (l.node y).1.level = (l.node x).1.level := fun x hx y hy => by
  have : 0 ≤ (l.node x).1.level ∧ (l.node x).1.level < l.lev := by
    rcases nd_cases hl hx with ⟨i, v, hv, rfl⟩ | ⟨s, i, d, hs, rfl⟩
    · rw [(vertex_spec hl hv).2.1]; exact hv.1
    · rw [(arc_spec hl hs).2]; exact hs.2.1
  exact (hI.tours _ this).lev x hx rfl y hy
theorem vs_le (hI : InvR l pr σ F mk g L) {i x : Int} (hi : 0 ≤ i ∧ i < l.lev) (hx : l.nd x) (hlx : (l.node x).1.level = i) {N : Nat} (hN : ∀ u : Int, 0 ≤ u ∧ u < l.V → nv l g i u ≤ N) : (vsL l (F x).list).length ≤ N := by
  cases h : vsL l (F x).list with
  | nil => exact Nat.zero_le _
  | cons u r =>
    obtain ⟨h1, h2⟩ := vsL_mem hl (row_lev hl hI hi hx hlx) (w := u) (by rw [h]; simp)
    have h3 := hI.lm.forest.cls x hx _ h2
    have h4 := (row_count hl hI hi h1.2).1
    rw [h3, h] at h4
    rw [h4]; exact hN u h1.2
end
def Strict (l : Lay) (g : G) : Prop := ∀ i : Nat, (i : Int) < l.lev → (∀ u : Int, 0 ≤ u ∧ u < l.V → nv l g i u ≤ l.V / 2 ^ i) ∧ ∀ s, g.has s = true → g.tr s = false → (i : Int) ≤ g.lv s → Jn g i (g.u s) (g.v s)
end Go.Tm

namespace Go.Tm
open MemLike Eng
set_option linter.unusedSectionVars false
set_option linter.unusedVariables false
theorem ed_fits (x : EdR) : Fits (encE x) [.i .i64, .i .i64, .i .i64, .i .i64, .b] := ⟨.i _ _, .i _ _, .i _ _, .i _ _, .b _, trivial⟩
theorem ed_eq (x y : EdR) : eqVs (encE x) (encE y) = decide (x = y) := by
  obtain ⟨a, b, c, d, e⟩ := x; obtain ⟨a', b', c', d', e'⟩ := y
  simp only [encE, eqVs, eqV, EdR.mk.injEq, Bool.and_true]
  by_cases h1 : a = a' <;> by_cases h2 : b = b' <;> by_cases h3 : c = c' <;> by_cases h4 : d = d' <;> by_cases h5 : e = e' <;> simp [h1, h2, h3, h4, h5]
theorem ed_eqR {P : Program} {T : TypeId} (hT : flatB P T [.i .i64, .i .i64, .i .i64, .i .i64, .b] = true) (x y : EdR) (w : World) : (Op.equalIn 10000 T (.agg (encE x).toArray) (.agg (encE y).toArray)).run P w = .ok (decide (x = y)) w := by
  rw [← ed_eq]; exact run_eqFlat hT (ed_fits x) (ed_fits y) 9998 w
theorem ed_eqT {P : Program} {T : TypeId} (hT : flatB P T [.i .i64, .i .i64, .i .i64, .i .i64, .b] = true) {x y : EdR} (h : x = y) (w : World) : (Op.equalIn 10000 T (.agg (encE x).toArray) (.agg (encE y).toArray)).run P w = .ok true w := by
  have := ed_eqR hT x y w; rwa [decide_eq_true h] at this
def cellsA (σ : M) : Nat → Array Int
  | 0 => #[]
  | i + 1 => cellsA σ i ++ #[get σ (i : Int)]
theorem cellsA_size {σ : M} : ∀ {i : Nat}, (cellsA σ i).size = i
  | 0 => rfl
  | i + 1 => by rw [cellsA]; simp [cellsA_size]
theorem cellsA_get {σ : M} : ∀ {i j : Nat}, j < i → (cellsA σ i)[j]! = get σ (j : Int)
  | i + 1, j, h => by
    rw [cellsA]
    by_cases e : j = i
    · subst e; have := get!_app2 (a := cellsA σ j) (b := #[get σ (j : Int)]) (j := 0) (by simp); rw [cellsA_size] at this; simpa using this
    · rw [get!_app (by rw [cellsA_size]; omega)]; exact cellsA_get (by omega)
theorem Mt.size_eq {g : G} {d e : Array EdR} (h : Mt g d) (h' : Mt g e) : d.size = e.size := by
  have key : ∀ {d e : Array EdR}, Mt g d → Mt g e → d.size ≤ e.size := fun {d e} h h' => by
    have := nodup_sub ((List.range d.size).map fun i => d[i]!.slot) ((List.range e.size).map fun i => e[i]!.slot) (List.pairwise_map.2 (List.nodup_range.imp_of_mem fun {a b} ha hb hne he => hne (h.inj a b (List.mem_range.1 ha) (List.mem_range.1 hb) he))) fun s hs => by
      obtain ⟨i, hi, rfl⟩ := List.mem_map.1 hs
      obtain ⟨j, hj, e1⟩ := h'.cov _ (h.row i (List.mem_range.1 hi)).1
      exact List.mem_map.2 ⟨j, List.mem_range.2 hj, e1⟩
    simpa using this
  exact Nat.le_antisymm (key h h') (key h' h)
theorem Mt.find {g : G} {d e : Array EdR} (h : Mt g d) (h' : Mt g e) {j : Nat} (hj : j < e.size) : ∃ i : Nat, i < d.size ∧ slotN (fun i => d[i]!) e[j]!.slot d.size = (i : Int) ∧ d[i]! = e[j]! := by
  obtain ⟨r1, r2, r3, r4, r5⟩ := h'.row j hj
  rcases slotN_cases (f := fun i => d[i]!) (s := e[j]!.slot) (n := d.size) with ⟨_, h2⟩ | ⟨i, hi, h1, h2⟩
  · obtain ⟨i, hi, hs⟩ := h.cov _ r1
    exact absurd hs (h2 i hi)
  · refine ⟨i, hi, h1, ?_⟩
    obtain ⟨q1, q2, q3, q4, q5⟩ := h.row i hi
    have h2 : d[i]!.slot = e[j]!.slot := h2
    rw [h2] at q2 q3 q4 q5
    have e1 : d[i]!.u = e[j]!.u := q2.symm.trans r2
    have e2 : d[i]!.v = e[j]!.v := q3.symm.trans r3
    have e3 : d[i]!.lv = e[j]!.lv := q4.symm.trans r4
    have e4 : d[i]!.tr = e[j]!.tr := q5.symm.trans r5
    cases hx : d[i]!; cases hy : e[j]!
    rw [hx, hy] at h2 e1 e2 e3 e4
    simp only at h2 e1 e2 e3 e4
    subst h2 e1 e2 e3 e4; rfl
end Go.Tm

namespace Go.Tm
open MemLike Eng
set_option linter.unusedSectionVars false
set_option linter.unusedVariables false
theorem own_rowG {α : Type} [Inhabited α] {enc : α → List Value} {m e g c n : Nat} {a : Option Addr} {d : Array α} (ha : 0 < n → a = some ⟨g, 0, none⟩) (hn : d.size = n) : RowOf (ownA enc m e (.slice a n c) d) enc m g 0 n (fun i => d[i]!) := by
  subst hn; exact own_rowOf ha
def upL (P : Nat → Bool) : Nat → List Int
  | 0 => []
  | j + 1 => if P j then upL P j ++ [(j : Int)] else upL P j
theorem upL_T {P : Nat → Bool} {j : Nat} (h : P j = true) : upL P (j + 1) = upL P j ++ [(j : Int)] := by rw [upL, if_pos h]
theorem upL_F {P : Nat → Bool} {j : Nat} (h : P j = false) : upL P (j + 1) = upL P j := by rw [upL, if_neg (by rw [h]; decide)]
theorem upL_mem {P : Nat → Bool} {x : Int} : ∀ {n : Nat}, x ∈ upL P n ↔ ∃ j : Nat, j < n ∧ P j = true ∧ x = (j : Int)
  | 0 => by simp [upL]
  | n + 1 => by
    cases h : P n with
    | true =>
      rw [upL_T h, List.mem_append, upL_mem]
      constructor
      · rintro (⟨j, h1, h2, h3⟩ | h3)
        · exact ⟨j, by omega, h2, h3⟩
        · exact ⟨n, by omega, h, List.mem_singleton.1 h3⟩
      · rintro ⟨j, h1, h2, h3⟩
        by_cases e : j = n
        · subst e; exact .inr (by simp [h3])
        · exact .inl ⟨j, by omega, h2, h3⟩
    | false =>
      rw [upL_F h, upL_mem]
      exact ⟨fun ⟨j, h1, h2⟩ => ⟨j, by omega, h2⟩, fun ⟨j, h1, h2, h3⟩ => ⟨j, ltk h1 fun e => (by subst e; rw [h] at h2; cases h2), h2, h3⟩⟩
structure UpI (d : Array EdR) (r : List Int) (k : Nat) (D : Array EdR) : Prop where
  size : D.size = d.size
  at_ : ∀ j, j < d.size → D[j]! = if (j : Int) ∈ r.take k then { d[j]! with lv := d[j]!.lv + 1 } else d[j]!
theorem UpI.start {d : Array EdR} {r : List Int} : UpI d r 0 d := ⟨rfl, fun j hj => by rw [List.take_zero, if_neg (by simp)]⟩
theorem UpI.step {d : Array EdR} {r : List Int} {k q : Nat} {D : Array EdR} (h : UpI d r k D) (hk : k < r.length) (hq : r[k]! = (q : Int)) (hnd : r.Nodup) (hqd : q < d.size) : D[q]! = d[q]! ∧ UpI d r (k + 1) (D.setIfInBounds q { D[q]! with lv := D[q]!.lv + 1 }) := by
  have e : r[k] = (q : Int) := by rw [← hq, getElem!_pos r k hk]
  have hno : (q : Int) ∉ r.take k := fun hm => by
    obtain ⟨i, hi, he⟩ := List.mem_iff_getElem.1 hm
    rw [List.getElem_take] at he
    have hi2 : i < k := by have := List.length_take_le k r; omega
    have := (List.getElem_inj (h₀ := by omega) (h₁ := hk) hnd).1 (he.trans e.symm)
    omega
  have h0 : D[q]! = d[q]! := by rw [h.at_ q hqd, if_neg hno]
  refine ⟨h0, by simpa using h.size, fun j hj => ?_⟩
  rw [get!_set' (by rw [h.size]; exact hqd), List.take_succ_eq_append_getElem hk, e]
  by_cases ej : q = j
  · subst ej; rw [if_pos rfl, if_pos (by simp), h0]
  · have : ((j : Int) ∈ r.take k ++ [(q : Int)]) ↔ (j : Int) ∈ r.take k := by simp; omega
    rw [if_neg ej, h.at_ j hj]; simp only [this]
section
variable {l : Lay} (hl : l.Ok) {pr : Int → Int} {σ : M} {g g' : G} {d : Array EdR}
theorem Mt.up (hM : Mt g d) {i : Int} {C : Int → Prop} (h : Raised g g' i C) {P : Nat → Bool} (hC : ∀ j, j < d.size → (P j = true ↔ C d[j]!.slot)) {D : Array EdR} {k : Nat} (hU : UpI d (upL P d.size) k D) (hk : (upL P d.size).length ≤ k) : Mt g' D := by
  have at_ : ∀ j, j < d.size → D[j]! = if P j then { d[j]! with lv := d[j]!.lv + 1 } else d[j]! := fun j hj => by
    rw [hU.at_ j hj, List.take_of_length_le hk]
    have : ((j : Int) ∈ upL P d.size) ↔ P j = true := by
      rw [upL_mem]
      constructor
      · rintro ⟨j', h1, h2, h3⟩
        obtain rfl : j = j' := by omega
        exact h2
      · exact fun h => ⟨j, hj, h, rfl⟩
    by_cases hp : P j = true
    · rw [if_pos (this.2 hp), if_pos hp]
    · rw [if_neg fun h => hp (this.1 h), if_neg hp]
  have sl : ∀ j, j < d.size → D[j]!.slot = d[j]!.slot ∧ D[j]!.u = d[j]!.u ∧ D[j]!.v = d[j]!.v ∧ D[j]!.tr = d[j]!.tr := fun j hj => by
    rw [at_ j hj]; split <;> exact ⟨rfl, rfl, rfl, rfl⟩
  have hz := hU.size
  refine ⟨fun j hj => ?_, fun s hs => ?_, fun a b ha hb he => ?_⟩
  · have hj : j < d.size := by omega
    obtain ⟨s1, s2, s3, s4⟩ := sl j hj
    obtain ⟨r1, r2, r3, r4, r5⟩ := hM.row j hj
    rw [s1, s2, s3, s4, h.has, h.u, h.v, h.tr]
    refine ⟨r1, r2, r3, ?_, r5⟩
    rw [at_ j hj]
    by_cases hp : P j = true
    · rw [if_pos hp]
      obtain ⟨c1, c2, c3⟩ := h.up _ ((hC j hj).1 hp)
      rw [c3]; show _ = d[j]!.lv + 1; omega
    · rw [if_neg hp, h.st _ fun c => hp ((hC j hj).2 c)]; exact r4
  · rw [h.has] at hs
    obtain ⟨j, hj, e⟩ := hM.cov s hs
    exact ⟨j, by omega, by rw [(sl j hj).1]; exact e⟩
  · rw [(sl a (by omega)).1, (sl b (by omega)).1] at he
    exact hM.inj a b (by omega) (by omega) he
end
noncomputable def trP (d : Array EdR) (lv v : Int) (j : Nat) : Bool := d[j]!.tr && decide (d[j]!.lv = lv) && forestB d lv d[j]!.u v
theorem Rel.trees {l : Lay} (hl : l.Ok) {pr : Int → Int} {σ : M} {d : Array EdR} (h : Rel l pr σ d) {lv v : Int} (hv : l.okV lv v) (hi : lv + 1 < l.lev) : ∃ σ', Go.Tm.trees l P1 561 σ lv v = some σ' ∧
    ∀ D k, UpI d (upL (trP d lv v) d.size) k D → (upL (trP d lv v) d.size).length ≤ k → Rel l pr σ' D := by
  obtain ⟨g, hR, hM⟩ := h
  obtain ⟨σ', g', e, hR', hRa⟩ := hR.trees hl (P1_ok hl) hv hi (k := 561) (by decide)
  refine ⟨σ', e, fun D k hU hk => ⟨g', hR', hM.up hRa (fun j hj => ?_) hU hk⟩⟩
  obtain ⟨r1, r2, r3, r4, r5⟩ := hM.row j hj
  unfold trP
  rw [Bool.and_eq_true, Bool.and_eq_true, decide_eq_true_iff, forestB_iff hl hR hM, r5, r4, r2]
  exact ⟨fun ⟨⟨a, b⟩, c⟩ => ⟨r1, a, b, c.symm⟩, fun ⟨_, a, b, c⟩ => ⟨⟨a, b⟩, c.symm⟩⟩
end Go.Tm

namespace Go.Tm
open MemLike Eng
set_option linter.unusedSectionVars false
set_option linter.unusedVariables false
theorem Right.edges {l : Lay} {pr : Int → Int} {σ : M} {g : G} (h : Right l pr σ g) : EdgeOk l σ g := by
  obtain ⟨F, mk, L, hI⟩ := h; exact hI.edges
theorem Mt.size_has {g g' : G} {d e : Array EdR} (h : Mt g d) (h' : Mt g' e) (hh : g'.has = g.has) : d.size = e.size := by
  have key : ∀ {g g' : G} {d e : Array EdR}, Mt g d → Mt g' e → g'.has = g.has → d.size ≤ e.size := fun {g g' d e} h h' hh => by
    have := nodup_sub ((List.range d.size).map fun i => d[i]!.slot) ((List.range e.size).map fun i => e[i]!.slot) (List.pairwise_map.2 (List.nodup_range.imp_of_mem fun {a b} ha hb hne he => hne (h.inj a b (List.mem_range.1 ha) (List.mem_range.1 hb) he))) fun s hs => by
      obtain ⟨i, hi, rfl⟩ := List.mem_map.1 hs
      obtain ⟨j, hj, e1⟩ := h'.cov _ (by rw [hh]; exact (h.row i (List.mem_range.1 hi)).1)
      exact List.mem_map.2 ⟨j, List.mem_range.2 hj, e1⟩
    simpa using this
  exact Nat.le_antisymm (key h h' hh) (key h' h hh.symm)
theorem Mt.slotN {g : G} {d : Array EdR} (h : Mt g d) {s : Int} (hs : g.has s = true) : ∃ q : Nat, q < d.size ∧ slotN (fun i => d[i]!) s d.size = (q : Int) ∧ d[q]!.slot = s := by
  rcases slotN_cases (f := fun i => d[i]!) (s := s) (n := d.size) with ⟨_, h2⟩ | ⟨i, hi, h1, h2⟩
  · obtain ⟨i, hi, he⟩ := h.cov _ hs
    exact absurd he (h2 i hi)
  · exact ⟨i, hi, h1, h2⟩
structure SeekF (d E : Array EdR) (lv v : Int) (r : Int × Bool) (q j : Nat) : Prop where
  a : (d[q]!.tr = true ∨ ¬ d[q]!.lv = lv) → E[j]! = d[q]!
  b : d[q]!.tr = false → d[q]!.lv = lv → ¬ E[j]! = d[q]! → E[j]! = { d[q]! with lv := d[q]!.lv + 1 } ∧ forestB d lv d[q]!.u v = true ∧ forestB d lv d[q]!.v v = true
  c : d[q]!.tr = false → d[q]!.lv = lv → E[j]! = d[q]! → r.2 = false → forestB d lv d[q]!.u v = false ∧ forestB d lv d[q]!.v v = false
  d : d[q]!.tr = false → d[q]!.lv = lv → E[j]! = d[q]! → r.2 = true → E[j]!.slot = r.1 → (forestB d lv d[q]!.u v == forestB d lv d[q]!.v v) = false
structure SeekOk (d E : Array EdR) (lv v : Int) (r : Int × Bool) : Prop where
  size : d.size = E.size
  ed : ∀ j, j < E.size → ∃ q : Nat, q < d.size ∧ Go.Tm.slotN (fun i => d[i]!) E[j]!.slot d.size = (q : Int) ∧ SeekF d E lv v r q j
  t : r.2 = true → ∃ q : Nat, q < E.size ∧ Go.Tm.slotN (fun i => E[i]!) r.1 E.size = (q : Int) ∧ E[q]!.tr = false ∧ E[q]!.lv = lv
  f : r.2 = false → r.1 = 0
theorem Rel.seek {l : Lay} (hl : l.Ok) {pr : Int → Int} {σ : M} {d : Array EdR} (h : Rel l pr σ d) {lv v : Int} (hv : l.okV lv v) (hi : lv + 1 < l.lev) : ∃ r σ' g', Go.Tm.seek l 561 σ lv v = some (r, σ') ∧ Right l pr σ' g' ∧ ∀ E, Mt g' E → SeekOk d E lv v r := by
  obtain ⟨g, hR, hM⟩ := h
  obtain ⟨r, σ', g', C, e, hR', hRa, hC, hFo⟩ := hR.seek hl hv hi (k := 561) (by decide)
  refine ⟨r, σ', g', e, hR', fun E hE => ?_⟩
  have fb : ∀ {x : Int}, forestB d lv x v = true ↔ Jn g lv v x := fun {x} => (forestB_iff hl hR hM).trans ⟨fun c => c.symm, fun c => c.symm⟩
  have jn : ∀ {x y : Int}, Jn g' lv x y ↔ Jn g lv x y := hRa.jn hl (Int.le_refl _)
  refine ⟨hM.size_has hE hRa.has, fun j hj => ?_, fun ht => ?_, fun hf => ?_⟩
  · obtain ⟨r1, r2, r3, r4, r5⟩ := hE.row j hj
    obtain ⟨q, hq, h1, h2⟩ := hM.slotN (s := E[j]!.slot) (by rw [← hRa.has]; exact r1)
    obtain ⟨q1, q2, q3, q4, q5⟩ := hM.row q hq
    rw [hRa.u] at r2; rw [hRa.v] at r3; rw [hRa.tr] at r5
    rw [h2] at q2 q3 q4 q5
    have eq_of : g'.lv E[j]!.slot = g.lv E[j]!.slot → E[j]! = d[q]! := fun hlv => by
      have e1 : d[q]!.u = E[j]!.u := q2.symm.trans r2
      have e2 : d[q]!.v = E[j]!.v := q3.symm.trans r3
      have e3 : d[q]!.lv = E[j]!.lv := by rw [← q4, ← r4, hlv]
      have e4 : d[q]!.tr = E[j]!.tr := q5.symm.trans r5
      cases hx : d[q]!; cases hy : E[j]!
      rw [hx, hy] at h2 e1 e2 e3 e4
      simp only at h2 e1 e2 e3 e4
      subst h2 e1 e2 e3 e4; rfl
    have lv_of : E[j]! = d[q]! → g'.lv E[j]!.slot = g.lv E[j]!.slot := fun he => by rw [r4, q4, he]
    refine ⟨q, hq, h1, fun ha => ?_, fun ht hl1 hne => ?_, fun ht hl1 he hf => ?_, fun ht hl1 he hf hs => ?_⟩
    · refine eq_of (hRa.st _ fun c => ?_)
      have c1 := (hC _ c).1; have c2 := (hRa.up _ c).2.1
      rcases ha with ha | ha
      · rw [q5, ha] at c1; cases c1
      · exact ha (q4.symm.trans c2)
    · by_cases c : C E[j]!.slot
      · obtain ⟨c1, c2, c3⟩ := hC _ c
        refine ⟨?_, fb.2 (by rw [← q2]; exact c2), fb.2 (by rw [← q3]; exact c3)⟩
        have e1 : d[q]!.u = E[j]!.u := q2.symm.trans r2
        have e2 : d[q]!.v = E[j]!.v := q3.symm.trans r3
        have e3 : d[q]!.lv + 1 = E[j]!.lv := by rw [← r4, (hRa.up _ c).2.2, hl1]
        have e4 : d[q]!.tr = E[j]!.tr := q5.symm.trans r5
        cases hx : d[q]!; cases hy : E[j]!
        rw [hx, hy] at h2 e1 e2 e3 e4
        simp only at h2 e1 e2 e3 e4
        subst h2 e1 e2 e3 e4; rfl
      · exact absurd (eq_of (hRa.st _ c)) hne
    · rcases hFo with ⟨_, h4⟩ | ⟨h4, _⟩
      · obtain ⟨n1, n2⟩ := h4 E[j]!.slot r1 (by rw [hRa.tr, q5]; exact ht) (by rw [lv_of he, q4]; exact hl1)
        rw [jn, hRa.u, q2] at n1; rw [jn, hRa.v, q3] at n2
        exact ⟨Bool.eq_false_iff.2 fun h => n1 (fb.1 h), Bool.eq_false_iff.2 fun h => n2 (fb.1 h)⟩
      · rw [hf] at h4; cases h4
    · rcases hFo with ⟨h4, _⟩ | ⟨_, h5, h6, h7, h8, h9⟩
      · rw [h4] at hf; cases hf
      · rw [← hs] at h8 h9
        rw [jn, hRa.u, hRa.v, q2, q3] at h8
        rw [jn, jn, hRa.u, hRa.v, q2, q3] at h9
        have hx := fb (x := d[q]!.u); have hy := fb (x := d[q]!.v)
        cases hA : forestB d lv d[q]!.u v <;> cases hB : forestB d lv d[q]!.v v
        · rcases h9 with h | h
          · rw [hx.2 h] at hA; cases hA
          · rw [hy.2 h] at hB; cases hB
        · rfl
        · rfl
        · exact absurd ((hx.1 hA).symm.trans (hy.1 hB)) h8
  · rcases hFo with ⟨h4, _⟩ | ⟨_, h5, h6, h7, h8, h9⟩
    · rw [h4] at ht; cases ht
    · obtain ⟨q, hq, h1, h2⟩ := hE.slotN h5
      obtain ⟨r1, r2, r3, r4, r5⟩ := hE.row q hq
      rw [h2] at r4 r5
      exact ⟨q, hq, h1, by rw [← r5]; exact h6, by rw [← r4]; exact h7⟩
  · rcases hFo with ⟨h4, _⟩ | ⟨h4, _⟩
    · rw [h4]
    · rw [hf] at h4; cases h4
end Go.Tm

namespace Go.Tm
open MemLike Eng
set_option linter.unusedSectionVars false
set_option linter.unusedVariables false
section
variable {l : Lay} (hl : l.Ok) {p : Pen} (hp : PenOk p) {pr : Int → Int} {σ : M} {g : G} {d : Array EdR}
include hl hp
theorem Right.fell_back (h : Right l pr σ g) {s : Int} (hh : g.has s = true) (ht : g.tr s = true) {k : Nat} (hk : 560 < k) :
    ∃ σ1, Go.Tm.fell l p k σ s = some σ1 ∧ (∀ i, 0 ≤ i ∧ i < l.lev → linkedT l k σ1 i s = some (false, σ1) ∧ Go.Tm.same l k σ1 i (g.u s) (g.v s) = some (false, σ1)) ∧ ∃ σ2, Go.Tm.plant l p k (elift l σ1 s 0) s = some σ2 ∧ Right l pr σ2 (g.lift s 0) := by
  obtain ⟨F, mk, L, h⟩ := h
  have lb := lev_b hl
  have hr := h.edges.rng s hh
  have hbr : ¬ Conn (fun q => Pg g 0 q ∧ q ≠ s) g.u g.v (g.u s) (g.v s) := (h.tours 0 (by omega)).bridge hl (by omega) h.lm.forest ⟨hh, ht, hr.2.2.1⟩
  obtain ⟨σ1, F1, mk1, e1, h1⟩ := h.fell hl hp hh (fun a _ ha => ⟨hh, ht, ha⟩) hk
  have hno : ∀ i, 0 ≤ i → ¬ (Pg g i s ∧ ¬ (s = s ∧ 0 ≤ i ∧ i ≤ g.lv s)) := fun i hi hc => hc.2 ⟨rfl, hi, hc.1.2.2⟩
  have hcn : ∀ i, 0 ≤ i → ¬ Conn (fun q => Pg g i q ∧ ¬ (q = s ∧ 0 ≤ i ∧ i ≤ g.lv s)) g.u g.v (g.u s) (g.v s) := fun i hi c => hbr (c.mono fun q hq => ⟨⟨hq.1.1, hq.1.2.1, by have := hq.1.2.2; omega⟩, fun e => by subst e; exact hq.2 ⟨rfl, hi, hq.1.2.2⟩⟩)
  refine ⟨σ1, e1, fun i hi => ?_, ?_⟩
  · have hF := h1.lm.forest
    have hT := h1.tours i hi
    have o0 : l.okA s i 0 := ⟨hr.1, hi, by omega⟩
    have o1 : l.okA s i 1 := ⟨hr.1, hi, by omega⟩
    have n0 := (arc_spec hl o0).1; have n1 := (arc_spec hl o1).1
    have n01 : l.arc s i 1 ≠ l.arc s i 0 := fun he => by have := ((arc_inj hl o1 o0).1 he).2.2; omega
    constructor
    · unfold linkedT
      rw [hF.root hl n0 hk]
      dsimp only [Option.bind_some]
      rw [hF.root hl n1 hk]
      dsimp only [Option.bind_some]
      rw [decide_eq_false]
      intro he
      have hFF := (hF.roots hl n0 n1).1 he
      have s0 := hT.single s 0 o0 (hno i hi.1)
      have m1 := hF.mem _ n1
      rw [← hFF, s0] at m1
      exact n01 (List.mem_singleton.1 m1)
    · have ou : l.okV i (g.u s) := ⟨hi, by omega⟩
      have ov : l.okV i (g.v s) := ⟨hi, by omega⟩
      obtain ⟨b, e, hb⟩ := hF.same hl ou ov hk
      rw [e]
      have : b = false := Bool.eq_false_iff.2 fun hbt => hcn i hi.1 ((hT.row_iff hl hi ou ov).1 (hb.1 hbt))
      rw [this]
  · have h2 := h1.lift hl hh (fun hB => by have := hB.2; rw [ht] at this; cases this) (i := 0) (by omega)
    have el : (g.lift s 0).lv s = 0 := by unfold G.lift updI; simp
    obtain ⟨σ2, F2, mk2, e2, h3⟩ := h2.plant hl hp (s := s) hh (fun a ha ha' => ⟨hno a ha, hcn a ha⟩) hk
    have hg : (g.lift s 0).turn s true = g.lift s 0 := by
      unfold G.lift G.turn updB
      simp only [G.mk.injEq, true_and]
      funext q
      by_cases hq : q = s <;> simp [hq, ht]
    rw [hg, el] at h3
    refine ⟨σ2, e2, F2, mk2, L, h3.iff hl (fun i q hi => ?_) (fun i q hq => hq.1) (fun q => ?_) (fun q i hq => ?_)⟩
    · unfold Pg G.lift updI; dsimp only
      by_cases hq : q = s
      · subst hq; rw [if_pos rfl]
        constructor
        · rintro (⟨⟨a1, a2, a3⟩, a4⟩ | ⟨_, a5⟩)
          · exact absurd ⟨rfl, hi.1, a3⟩ a4
          · exact ⟨hh, ht, a5.2⟩
        · rintro ⟨a1, a2, a3⟩; exact .inr ⟨rfl, hi.1, a3⟩
      · rw [if_neg hq]
        exact ⟨fun a => a.elim (fun a => a.1) (fun a => absurd a.1 hq), fun a => .inl ⟨a, fun b => hq b.1⟩⟩
    · exact Iff.rfl
    · have hi0 := hq.2.1
      unfold Kg G.lift updI; dsimp only
      by_cases hq : q = s
      · subst hq; rw [if_pos rfl]
        by_cases h0 : i = 0
        · subst h0; simp [hh, ht]
        · rw [if_neg (fun c => h0 c.2)]
          refine ⟨fun a => ?_, fun a => absurd a.2.2.symm h0⟩
          split at a
          · exact absurd a id
          next hc => exact absurd ⟨rfl, hi0.1, by rw [a.2.2]; exact Int.le_refl _⟩ hc
      · rw [if_neg (fun c => hq c.1), if_neg (fun c => hq c.1), if_neg hq]
omit hp
theorem Rel.back (h : Rel l pr σ d) {i : Nat} (hi : i < d.size) (ht : d[i]!.tr = true) : ∃ σ1 σ2, Go.Tm.fell l P1 561 σ d[i]!.slot = some σ1 ∧ (∀ a, 0 ≤ a ∧ a < l.lev → linkedT l 561 σ1 a d[i]!.slot = some (false, σ1) ∧ Go.Tm.same l 561 σ1 a d[i]!.u d[i]!.v = some (false, σ1)) ∧ Go.Tm.plant l P1 561 (elift l σ1 d[i]!.slot 0) d[i]!.slot = some σ2 ∧ Rel l pr σ2 (d.setIfInBounds i { d[i]! with lv := 0 }) := by
  obtain ⟨g, hR, hM⟩ := h
  obtain ⟨r1, r2, r3, r4, r5⟩ := hM.row i hi
  obtain ⟨σ1, e1, hq, σ2, e2, hR2⟩ := hR.fell_back hl (P1_ok hl) r1 (r5.trans ht) (k := 561) (by decide)
  rw [r2, r3] at hq
  exact ⟨σ1, σ2, e1, hq, e2, _, hR2, hM.lift hl hi⟩
end
end Go.Tm

namespace Go.Tm
open MemLike Eng
set_option linter.unusedSectionVars false
set_option linter.unusedVariables false
theorem Jn.trans {g : G} {i x y z : Int} (h : Jn g i x y) (h' : Jn g i y z) : Jn g i x z := Conn.trans h h'
theorem Jn.congr {g g' : G} {i x y : Int} (hP : ∀ q, Pg g' i q ↔ Pg g i q) (he : ∀ q, Pg g i q → g'.u q = g.u q ∧ g'.v q = g.v q) : Jn g' i x y ↔ Jn g i x y :=
  ⟨fun c => (c.mono fun q hq => (hP q).1 hq).ends fun q hq => he q hq, fun c => (c.ends fun q hq => ⟨(he q hq).1.symm, (he q hq).2.symm⟩).mono fun q hq => (hP q).2 hq⟩
section
open Classical
variable {l : Lay} {g g' : G}
theorem nv_congr {i u : Int} (h : ∀ w, Jn g' i u w ↔ Jn g i u w) : nv l g' i u = nv l g i u := by
  unfold nv; exact countP_eq_ fun w _ => dec_iff (h w)
theorem nv_le_V {i u : Int} : nv l g i u ≤ l.V := by
  unfold nv; have := List.countP_le_length (p := fun w : Nat => decide (Jn g i u w)) (l := List.range l.V); simpa using this
end
structure Hdt (l : Lay) (g : G) : Prop where
  sz : ∀ i : Nat, (i : Int) < l.lev → ∀ u : Int, 0 ≤ u ∧ u < l.V → nv l g i u ≤ l.V / 2 ^ i
  nt : ∀ q, g.has q = true → g.tr q = false → Jn g (g.lv q) (g.u q) (g.v q)
section
variable {l : Lay} (hl : l.Ok) {p : Pen} (hp : PenOk p) {pr : Int → Int} {σ : M} {g g' : G}
theorem Hdt.put_add (h : Hdt l g) {s a b : Int} (hno : g.has s = false) (hj : Jn g 0 a b) : Hdt l (g.put s a b 0 false) := by
  have hs : ∀ q, g.has q = true → q ≠ s := fun q hq e => by subst e; rw [hno] at hq; cases hq
  have hP : ∀ i q, Pg (g.put s a b 0 false) i q ↔ Pg g i q := fun i q => by
    unfold Pg G.put updB updI; dsimp only
    by_cases e : q = s
    · subst e; simp [hno]
    · simp [e]
  have he : ∀ i q, Pg g i q → (g.put s a b 0 false).u q = g.u q ∧ (g.put s a b 0 false).v q = g.v q := fun i q hq => by
    have := hs q hq.1; unfold G.put updI; simp [this]
  have jn : ∀ {i x y}, Jn (g.put s a b 0 false) i x y ↔ Jn g i x y := fun {i x y} => Jn.congr (hP i) (he i)
  refine ⟨fun i hi u hu => by rw [nv_congr fun w => jn]; exact h.sz i hi u hu, fun q hq ht => ?_⟩
  rw [jn]
  by_cases e : q = s
  · subst e; unfold G.put updI; simpa using hj
  · have : g.has q = true := by unfold G.put updB at hq; simpa [e] using hq
    have h2 := h.nt q this (by unfold G.put updB at ht; simpa [e] using ht)
    unfold G.put updI; simpa [e] using h2
theorem Hdt.put_plant (h : Hdt l g) {s a b : Int} (hno : g.has s = false) : Hdt l (g.put s a b 0 true) := by
  have hs : ∀ q, g.has q = true → q ≠ s := fun q hq e => by subst e; rw [hno] at hq; cases hq
  have he : ∀ i q, Pg g i q → (g.put s a b 0 true).u q = g.u q ∧ (g.put s a b 0 true).v q = g.v q := fun i q hq => by
    have := hs q hq.1; unfold G.put updI; simp [this]
  have up : ∀ {i x y}, Jn g i x y → Jn (g.put s a b 0 true) i x y := fun {i x y} c => (c.ends fun q hq => ⟨(he i q hq).1.symm, (he i q hq).2.symm⟩).mono fun q hq => by
    have := hs q hq.1
    unfold Pg at hq; unfold Pg G.put updB updI; simpa [this] using hq
  refine ⟨fun i hi u hu => ?_, fun q hq ht => ?_⟩
  · by_cases hi0 : i = 0
    · subst hi0; simpa using nv_le_V (l := l) (g := g.put s a b 0 true) (i := ((0 : Nat) : Int)) (u := u)
    · have hP : ∀ q, Pg (g.put s a b 0 true) i q ↔ Pg g i q := fun q => by
        unfold Pg G.put updB updI; dsimp only
        by_cases e : q = s
        · subst e; simp [hno]; omega
        · simp [e]
      rw [nv_congr fun w => Jn.congr hP (he i)]; exact h.sz i hi u hu
  · have e : q ≠ s := fun e => by subst e; unfold G.put updB at ht; simp at ht
    have : g.has q = true := by unfold G.put updB at hq; simpa [e] using hq
    have h2 := up (h.nt q this (by unfold G.put updB at ht; simpa [e] using ht))
    unfold G.put updI at *; simpa [e] using h2
end
end Go.Tm

