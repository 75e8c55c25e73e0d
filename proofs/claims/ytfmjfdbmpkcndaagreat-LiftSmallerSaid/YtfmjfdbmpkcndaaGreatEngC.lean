import Derived.Test.YtfmjfdbmpkcndaaGreatEngB
set_option linter.unusedVariables false
set_option linter.unusedSimpArgs false
set_option linter.unusedSectionVars false
namespace Go.Tm
open MemLike Eng
set_option linter.unusedSectionVars false
set_option linter.unusedVariables false
def fst : List Int → Int → Int
  | [], b => b
  | y :: _, _ => y
def lst : Int → List Int → Int
  | a, [] => a
  | _, y :: r => lst y r
def seg (nx pv : Int → Int) : Int → List Int → Int → Prop
  | _, [], _ => True
  | a, y :: r, b => pv y = a ∧ nx y = fst r b ∧ seg nx pv y r b
section
variable {nx pv nx' pv' : Int → Int} {a b a' b' : Int} {r q : List Int}
theorem seg_congr : ∀ {r : List Int} {a b : Int}, (∀ y ∈ r, nx' y = nx y ∧ pv' y = pv y) → seg nx pv a r b → seg nx' pv' a r b
  | [], _, _, _, _ => trivial
  | y :: r, a, b, h, ⟨h1, h2, h3⟩ => ⟨by rw [(h y (by simp)).2]; exact h1, by rw [(h y (by simp)).1]; exact h2, seg_congr (fun z hz => h z (by simp [hz])) h3⟩
theorem seg_app : ∀ {r q : List Int} {a b : Int}, seg nx pv a (r ++ q) b ↔ seg nx pv a r (fst q b) ∧ seg nx pv (lst a r) q b
  | [], q, a, b => by simp [seg, lst]
  | [y], q, a, b => by simp only [List.cons_append, List.nil_append, seg, lst, fst]; constructor <;> (rintro h; simp_all)
  | y :: z :: r, q, a, b => by
    have ih := seg_app (r := z :: r) (q := q) (a := y) (b := b)
    have e : y :: z :: r ++ q = y :: (z :: r ++ q) := rfl
    rw [e]
    show (pv y = a ∧ nx y = fst (z :: r ++ q) b ∧ seg nx pv y (z :: r ++ q) b) ↔ (pv y = a ∧ nx y = fst (z :: r) (fst q b) ∧ seg nx pv y (z :: r) (fst q b)) ∧ seg nx pv (lst y (z :: r)) q b
    rw [ih]
    simp only [fst, List.cons_append, and_assoc]
theorem seg_first (h : seg nx pv a r b) (hnd : r.Nodup) (hn : ∀ y ∈ r, nx' y = nx y) (hp : ∀ y ∈ r, pv' y = if y = fst r 0 then a' else pv y) : seg nx' pv' a' r b := by
  cases r with
  | nil => trivial
  | cons y r =>
    obtain ⟨h1, h2, h3⟩ := h
    refine ⟨by rw [hp y (by simp)]; exact if_pos rfl, by rw [hn y (by simp)]; exact h2, seg_congr (fun z hz => ⟨hn z (by simp [hz]), ?_⟩) h3⟩
    rw [hp z (by simp [hz]), if_neg (fun he => (List.nodup_cons.1 hnd).1 (by simp only [fst] at he; exact he ▸ hz))]
theorem lst_mem : ∀ {r : List Int} {a : Int}, r ≠ [] → lst a r ∈ r
  | [y], a, _ => by simp [lst]
  | y :: z :: r, a, _ => by
    have := lst_mem (r := z :: r) (a := y) (by simp)
    show lst y (z :: r) ∈ _
    exact List.mem_cons_of_mem _ this
theorem fst_mem : r ≠ [] → fst r b ∈ r := by cases r <;> simp [fst]
theorem seg_last : ∀ {r : List Int} {a : Int}, seg nx pv a r b → r.Nodup → (∀ y ∈ r, pv' y = pv y) → (∀ y ∈ r, nx' y = if y = lst a r then b' else nx y) → seg nx' pv' a r b'
  | [], _, _, _, _, _ => trivial
  | [y], a, ⟨h1, h2, _⟩, _, hp, hn => ⟨by rw [hp y (by simp)]; exact h1, by rw [hn y (by simp)]; simp [lst, fst], trivial⟩
  | y :: z :: r, a, ⟨h1, h2, h3⟩, hnd, hp, hn => by
    refine ⟨by rw [hp y (by simp)]; exact h1, ?_, seg_last h3 (List.nodup_cons.1 hnd).2 (fun w hw => hp w (by simp only [List.mem_cons] at hw ⊢; exact .inr hw)) fun w hw => ?_⟩
    · rw [hn y (by simp), if_neg]
      · exact h2
      · intro he
        have : lst y (z :: r) ∈ z :: r := lst_mem (by simp)
        have hl : lst a (y :: z :: r) = lst y (z :: r) := rfl
        rw [hl] at he
        exact (List.nodup_cons.1 hnd).1 (he ▸ this)
    · exact hn w (by simp only [List.mem_cons] at hw ⊢; exact .inr hw)
end
section
variable {l : Lay} (hl : l.Ok) {σ σ' : M} {L : Int → Int → List Int}
def Lay.sd (l : Lay) (y : Int) : Prop := 1 ≤ y ∧ y ≤ 2 * l.S
include hl
theorem anext_eq {y : Int} (h : l.sd y) : anext l y = l.T + 1 + (y - 1) / 2 * 7 + (3 + (y - 1) % 2) ∧ aprev l y = l.T + 1 + (y - 1) / 2 * 7 + (5 + (y - 1) % 2) := by
  have b := (lay_b hl).s
  unfold Lay.sd at h
  unfold anext aprev
  rw [wrapI (by omega), Int.tdiv_eq_ediv_of_nonneg (by omega), Int.tmod_eq_emod_of_nonneg (by omega)]
  exact ⟨next_eq hl (by omega) (by omega), prev_eq hl (by omega) (by omega)⟩
theorem anext_inj {y z : Int} (h : l.sd y) (h' : l.sd z) : (anext l y = anext l z ↔ y = z) ∧ (aprev l y = aprev l z ↔ y = z) ∧ anext l y ≠ aprev l z ∧ aprev l y ≠ anext l z := by
  rw [(anext_eq hl h).1, (anext_eq hl h).2, (anext_eq hl h').1, (anext_eq hl h').2]
  omega
theorem anext_b {y : Int} (h : l.sd y) : (0 ≤ anext l y ∧ anext l y < l.heads) ∧ 0 ≤ aprev l y ∧ aprev l y < l.heads := by
  rw [(anext_eq hl h).1, (anext_eq hl h).2]
  have := (lay_b hl).h; have := (lay_b hl).t
  unfold Lay.sd at h
  omega
def isL (l : Lay) (j : Int) : Prop := (∃ y : Int, l.sd y ∧ (j = anext l y ∨ j = aprev l y)) ∨ ∃ v i : Int, l.okV i v ∧ j = l.head v i
theorem isL_isE {j : Int} (h : isL l j) : ¬ isE l j := by
  have ob := ord_b hl
  rintro (⟨s, hs, he⟩ | ⟨a, b, ha, hab, hb, he⟩)
  · rcases h with ⟨y, hy, hj⟩ | ⟨v, i, hv, hj⟩
    · rw [(anext_eq hl hy).1, (anext_eq hl hy).2] at hj
      rw [ends_eq hl hs, level_eq hl hs] at he
      omega
    · have := head_b hl hv.2 hv.1
      have := low_b hl hs
      omega
  · have eb := edge_b hl ⟨ha, hab⟩ hb
    rcases h with ⟨y, hy, hj⟩ | ⟨v, i, hv, hj⟩
    · have := anext_b hl hy; omega
    · have := head_b hl hv.2 hv.1; omega
theorem isL_low {j : Int} (h : isL l j) : 0 ≤ j ∧ j < l.base := by
  have ob := ord_b hl
  rcases h with ⟨y, hy, hj⟩ | ⟨v, i, hv, hj⟩
  · have := anext_b hl hy; omega
  · have := head_b hl hv.2 hv.1; omega
theorem isE_low {j : Int} (h : isE l j) : 0 ≤ j ∧ j < l.base := by
  have ob := ord_b hl
  rcases h with ⟨s, hs, he⟩ | ⟨a, b, ha, hab, hb, he⟩
  · have := low_b hl hs; omega
  · have eb := edge_b hl ⟨ha, hab⟩ hb; omega
abbrev nxF (l : Lay) (σ : M) (y : Int) : Int := get σ (anext l y)
abbrev pvF (l : Lay) (σ : M) (y : Int) : Int := get σ (aprev l y)
structure ListOk (l : Lay) (σ : M) (L : Int → Int → List Int) : Prop where
  head : ∀ i v, l.okV i v → get σ (l.head v i) = fst (L v i) 0
  seg : ∀ i v, l.okV i v → Go.Tm.seg (nxF l σ) (pvF l σ) 0 (L v i) 0
  side : ∀ i v, l.okV i v → ∀ y ∈ L v i, l.sd y
  nodup : ∀ i v, l.okV i v → (L v i).Nodup
  disj : ∀ i v j w, l.okV i v → l.okV j w → ∀ y, y ∈ L v i → y ∈ L w j → v = w ∧ i = j
theorem ListOk.congr (h : ListOk l σ L) (he : ∀ j, isL l j → get σ' j = get σ j) : ListOk l σ' L :=
  ⟨fun i v hv => by rw [he _ (.inr ⟨v, i, hv, rfl⟩)]; exact h.head i v hv, fun i v hv => seg_congr (fun y hy => ⟨he _ (.inl ⟨y, h.side i v hv y hy, .inl rfl⟩), he _ (.inl ⟨y, h.side i v hv y hy, .inr rfl⟩)⟩) (h.seg i v hv), h.side, h.nodup, h.disj⟩
def updL (L : Int → Int → List Int) (v i : Int) (r : List Int) : Int → Int → List Int := fun w j => if w = v ∧ j = i then r else L w j
def pushS (l : Lay) (σ : M) (x v i : Int) : M :=
  let h := l.head v i
  let f := aget σ h
  let σ1 := st (st (ld σ h) (anext l x) (IntKind.u64.wrap f)) (aprev l x) 0
  let σ2 := if f ≠ 0 then st σ1 (aprev l f) (IntKind.u64.wrap x) else σ1
  st σ2 h (IntKind.u64.wrap x)
def pullS (l : Lay) (σ : M) (x v i : Int) : M :=
  let a := aget σ (aprev l x)
  let b := aget σ (anext l x)
  let σ3 := if a = 0 then st σ (l.head v i) (IntKind.u64.wrap b) else st σ (anext l a) (IntKind.u64.wrap b)
  if b ≠ 0 then st σ3 (aprev l b) (IntKind.u64.wrap a) else σ3
omit hl in
theorem push_eq {k : Nat} {x v i : Int} : push l k σ x v i = amark l k (pushS l σ x v i) v i := rfl
omit hl in
theorem pull_eq {k : Nat} {x v i : Int} : pull l k σ x v i = amark l k (pullS l σ x v i) v i := rfl
theorem push_spec (hs : σ.size = l.cells) (h : ListOk l σ L) {x v i : Int} (hv : l.okV i v) (hx : l.sd x) (hno : ∀ j w, l.okV j w → x ∉ L w j) :
    ListOk l (pushS l σ x v i) (updL L v i (x :: L v i)) ∧ (pushS l σ x v i).size = σ.size ∧ ∀ j, ¬ isL l j → get (pushS l σ x v i) j = get σ j := by
  have ob := ord_b hl
  have cb := cells_b hl
  have bs := (lay_b hl).s
  have hh := head_b hl hv.2 hv.1
  have hd0 := h.head i v hv
  have xb := anext_b hl hx
  have xr : 1 ≤ x ∧ x ≤ 96 := by unfold Lay.sd at hx; omega
  have fr : 0 ≤ fst (L v i) 0 ∧ fst (L v i) 0 ≤ 96 ∧ (fst (L v i) 0 ≠ 0 → l.sd (fst (L v i) 0) ∧ fst (L v i) 0 ∈ L v i) := by
    cases hL : L v i with
    | nil => simp [fst]
    | cons y r =>
      have := h.side i v hv y (by rw [hL]; simp)
      refine ⟨?_, ?_, fun _ => ⟨this, by simp [fst]⟩⟩ <;> unfold Lay.sd at this <;> simp only [fst] <;> omega
  obtain ⟨f0, f1, f2⟩ := fr
  unfold pushS aget
  dsimp only
  rw [hd0, wrapI (x := fst (L v i) 0) (by omega), wrapU (x := fst (L v i) 0) (by omega), wrapU (x := x) (by omega), ld_eq]
  generalize hf : fst (L v i) 0 = f at *
  have g2 : ∀ j, get ((if f ≠ 0 then st (st (st σ (anext l x) f : M) (aprev l x) 0 : M) (aprev l f) x else (st (st σ (anext l x) f : M) (aprev l x) 0 : M)) : M) j = if f ≠ 0 ∧ j = aprev l f then x else if j = aprev l x then 0 else if j = anext l x then f else get σ j := fun j => by
    by_cases h0 : f ≠ 0
    · have fb := anext_b hl (f2 h0).1
      rw [if_pos h0, stE hl (by rw [size_st, size_st]; exact hs) (by omega) (by omega), stE hl (by rw [size_st]; exact hs) (by omega) (by omega), stE hl hs (by omega) (by omega)]
      by_cases h1 : j = aprev l f
      · rw [if_pos h1, if_pos ⟨h0, h1⟩]
      · rw [if_neg h1, if_neg (show ¬ (f ≠ 0 ∧ j = aprev l f) from fun h => h1 h.2)]
    · rw [if_neg h0, if_neg (fun h => h0 h.1), stE hl (by rw [size_st]; exact hs) (by omega) (by omega), stE hl hs (by omega) (by omega)]
  have z2 : ((if f ≠ 0 then st (st (st σ (anext l x) f : M) (aprev l x) 0 : M) (aprev l f) x else (st (st σ (anext l x) f : M) (aprev l x) 0 : M)) : M).size = σ.size := by
    split
    · rw [size_st, size_st, size_st]
    · rw [size_st, size_st]
  generalize ((if f ≠ 0 then st (st (st σ (anext l x) f : M) (aprev l x) 0 : M) (aprev l f) x else (st (st σ (anext l x) f : M) (aprev l x) 0 : M)) : M) = σ2 at *
  have g3 : ∀ j, get (st σ2 (l.head v i) x : M) j = if j = l.head v i then x else if f ≠ 0 ∧ j = aprev l f then x else if j = aprev l x then 0 else if j = anext l x then f else get σ j := fun j => by
    rw [stE hl (by rw [z2]; exact hs) (by omega) (by omega), g2]
  have z3 : (st σ2 (l.head v i) x : M).size = σ.size := by rw [size_st, z2]
  generalize (st σ2 (l.head v i) x : M) = σ3 at *
  have uS : updL L v i (x :: L v i) v i = x :: L v i := by unfold updL; simp
  have uO : ∀ w j, ¬ (w = v ∧ j = i) → updL L v i (x :: L v i) w j = L w j := fun w j hne => by unfold updL; rw [if_neg hne]
  have nh : ∀ y, l.sd y → anext l y ≠ l.head v i ∧ aprev l y ≠ l.head v i := fun y hy => by have := anext_b hl hy; omega
  -- nodes of other lists, and of this one
  have gn : ∀ y, l.sd y → y ≠ x → get σ3 (anext l y) = get σ (anext l y) := fun y hy hyx => by
    rw [g3, if_neg (nh y hy).1, if_neg (fun hc => (anext_inj hl hy (f2 hc.1).1).2.2.1 hc.2), if_neg (anext_inj hl hy hx).2.2.1, if_neg (fun he => hyx ((anext_inj hl hy hx).1.1 he))]
  have gp : ∀ y, l.sd y → y ≠ x → get σ3 (aprev l y) = if f ≠ 0 ∧ y = f then x else get σ (aprev l y) := fun y hy hyx => by
    rw [g3, if_neg (nh y hy).2]
    by_cases hc : f ≠ 0 ∧ y = f
    · rw [if_pos ⟨hc.1, by rw [hc.2]⟩, if_pos hc]
    · rw [if_neg (fun hc' => hc ⟨hc'.1, (anext_inj hl hy (f2 hc'.1).1).2.1.1 hc'.2⟩), if_neg hc, if_neg (fun he => hyx ((anext_inj hl hy hx).2.1.1 he)), if_neg (anext_inj hl hy hx).2.2.2]
  refine ⟨⟨fun j w hw => ?_, fun j w hw => ?_, fun j w hw y hy => ?_, fun j w hw => ?_, fun j w j' w' hw hw' y hy hy' => ?_⟩, z3, fun j hj => ?_⟩
  · by_cases hvw : w = v ∧ j = i
    · obtain ⟨rfl, rfl⟩ := hvw
      rw [uS, g3, if_pos rfl]; rfl
    · have hb := head_b hl hw.2 hw.1
      rw [uO w j hvw, g3, if_neg (fun he => hvw ((head_inj hl hw.2 hw.1 hv.2 hv.1).1 he)), if_neg (fun hc => by have := anext_b hl (f2 hc.1).1; omega), if_neg (by omega), if_neg (by omega)]
      exact h.head j w hw
  · by_cases hvw : w = v ∧ j = i
    · obtain ⟨rfl, rfl⟩ := hvw
      rw [uS]
      refine ⟨?_, ?_, ?_⟩
      · show get σ3 (aprev l x) = 0
        rw [g3, if_neg (nh x hx).2, if_neg (fun hc => hno j w hw (by have := (anext_inj hl hx (f2 hc.1).1).2.1.1 hc.2; rw [this]; exact (f2 hc.1).2)), if_pos rfl]
      · show get σ3 (anext l x) = fst (L w j) 0
        rw [hf, g3, if_neg (nh x hx).1, if_neg (fun hc => (anext_inj hl hx (f2 hc.1).1).2.2.1 hc.2), if_neg (anext_inj hl hx hx).2.2.1, if_pos rfl]
      · refine seg_first (h.seg j w hw) (h.nodup j w hw) (fun y hy => gn y (h.side j w hw y hy) fun he => hno j w hw (he ▸ hy)) fun y hy => ?_
        show get σ3 (aprev l y) = _
        rw [gp y (h.side j w hw y hy) (fun he => hno j w hw (he ▸ hy)), hf]
        by_cases hyf : y = f
        · have : f ≠ 0 := by have := h.side j w hw y hy; unfold Lay.sd at this; omega
          rw [if_pos ⟨this, hyf⟩, if_pos hyf]
        · rw [if_neg (fun hc => hyf hc.2), if_neg hyf]
    · rw [uO w j hvw]
      refine seg_congr (fun y hy => ?_) (h.seg j w hw)
      have hyx : y ≠ x := fun he => hno j w hw (he ▸ hy)
      refine ⟨gn y (h.side j w hw y hy) hyx, ?_⟩
      show get σ3 (aprev l y) = get σ (aprev l y)
      rw [gp y (h.side j w hw y hy) hyx, if_neg (fun hc => hvw (h.disj j w i v hw hv y hy (by rw [hc.2]; exact (f2 hc.1).2)))]
  · by_cases hvw : w = v ∧ j = i
    · obtain ⟨rfl, rfl⟩ := hvw
      rw [uS] at hy
      rcases List.mem_cons.1 hy with rfl | hy
      · exact hx
      · exact h.side j w hw y hy
    · rw [uO w j hvw] at hy; exact h.side j w hw y hy
  · by_cases hvw : w = v ∧ j = i
    · obtain ⟨rfl, rfl⟩ := hvw
      rw [uS]; exact List.nodup_cons.2 ⟨hno j w hw, h.nodup j w hw⟩
    · rw [uO w j hvw]; exact h.nodup j w hw
  · have key : ∀ w j, l.okV j w → y ∈ updL L v i (x :: L v i) w j → (y = x ∧ w = v ∧ j = i) ∨ y ∈ L w j := fun w j hw hy => by
      by_cases hvw : w = v ∧ j = i
      · obtain ⟨rfl, rfl⟩ := hvw
        rw [uS] at hy
        rcases List.mem_cons.1 hy with rfl | hy
        · exact .inl ⟨rfl, rfl, rfl⟩
        · exact .inr hy
      · rw [uO w j hvw] at hy; exact .inr hy
    rcases key w j hw hy with ⟨rfl, rfl, rfl⟩ | hy1 <;> rcases key w' j' hw' hy' with ⟨hyx, rfl, rfl⟩ | hy1'
    · exact ⟨rfl, rfl⟩
    · exact absurd hy1' (hno j' w' hw')
    · exact absurd (hyx ▸ hy1) (hno j w hw)
    · exact h.disj j w j' w' hw hw' y hy1 hy1'
  · rw [g3, if_neg (fun he => hj (.inr ⟨v, i, hv, he⟩)), if_neg (fun hc => hj (.inl ⟨f, (f2 hc.1).1, .inr hc.2⟩)), if_neg (fun he => hj (.inl ⟨x, hx, .inr he⟩)), if_neg (fun he => hj (.inl ⟨x, hx, .inl he⟩))]
theorem pull_spec (hs : σ.size = l.cells) (h : ListOk l σ L) {x v i : Int} (hv : l.okV i v) {A B : List Int} (hAB : L v i = A ++ x :: B) :
    ListOk l (pullS l σ x v i) (updL L v i (A ++ B)) ∧ (pullS l σ x v i).size = σ.size ∧ ∀ j, ¬ isL l j → get (pullS l σ x v i) j = get σ j := by
  have ob := ord_b hl
  have cb := cells_b hl
  have bs := (lay_b hl).s
  have hh := head_b hl hv.2 hv.1
  have hsg := h.seg i v hv
  have hnd := h.nodup i v hv
  have hsd := h.side i v hv
  have hhd := h.head i v hv
  rw [hAB] at hsg hnd hsd hhd
  obtain ⟨sA, s1, s2, sB⟩ := seg_app.1 hsg
  have hx : l.sd x := hsd x (by simp)
  have ha : lst 0 A = 0 ∧ A = [] ∨ (lst 0 A ∈ A ∧ l.sd (lst 0 A)) := by
    by_cases hA : A = []
    · subst hA; exact .inl ⟨rfl, rfl⟩
    · exact .inr ⟨lst_mem hA, hsd _ (by simp [lst_mem hA])⟩
  have hb : fst B 0 = 0 ∧ B = [] ∨ (fst B 0 ∈ B ∧ l.sd (fst B 0)) := by
    by_cases hB : B = []
    · subst hB; exact .inl ⟨rfl, rfl⟩
    · exact .inr ⟨fst_mem hB, hsd _ (by simp [fst_mem hB])⟩
  obtain ⟨ndA, ndxB, dAB⟩ := List.nodup_append.1 hnd
  obtain ⟨nxB, ndB⟩ := List.nodup_cons.1 ndxB
  have nxA : x ∉ A := fun hm => dAB x hm x (by simp) rfl
  have dAB' : ∀ y ∈ A, y ∉ B := fun y hy hy' => dAB y hy y (by simp [hy']) rfl
  have hndAB : (A ++ B).Nodup := List.nodup_append.2 ⟨ndA, ndB, fun y hy z hz he => dAB' y hy (he ▸ hz)⟩
  have bnd : ∀ y, l.sd y → 1 ≤ y ∧ y ≤ 96 := fun y hy => by unfold Lay.sd at hy; omega
  have ar : 0 ≤ lst 0 A ∧ lst 0 A ≤ 96 := by rcases ha with ⟨q, _⟩ | ⟨_, q⟩; omega; have := bnd _ q; omega
  have br : 0 ≤ fst B 0 ∧ fst B 0 ≤ 96 := by rcases hb with ⟨q, _⟩ | ⟨_, q⟩; omega; have := bnd _ q; omega
  unfold pullS aget
  dsimp only
  have e1 : get σ (aprev l x) = lst 0 A := s1
  have e2 : get σ (anext l x) = fst B 0 := s2
  rw [e1, e2, wrapI (x := lst 0 A) (by omega), wrapI (x := fst B 0) (by omega), wrapU (x := lst 0 A) (by omega), wrapU (x := fst B 0) (by omega)]
  have aS : lst 0 A ≠ 0 → l.sd (lst 0 A) ∧ lst 0 A ∈ A := fun h0 => by rcases ha with ⟨q, _⟩ | ⟨q1, q2⟩; exact absurd q h0; exact ⟨q2, q1⟩
  have bS : fst B 0 ≠ 0 → l.sd (fst B 0) ∧ fst B 0 ∈ B := fun h0 => by rcases hb with ⟨q, _⟩ | ⟨q1, q2⟩; exact absurd q h0; exact ⟨q2, q1⟩
  have aN : lst 0 A = 0 → A = [] := fun h0 => by rcases ha with ⟨_, q⟩ | ⟨_, q⟩; exact q; have := bnd _ q; omega
  have bN : fst B 0 = 0 → B = [] := fun h0 => by rcases hb with ⟨_, q⟩ | ⟨_, q⟩; exact q; have := bnd _ q; omega
  have g2 : ∀ j, get ((if lst 0 A = 0 then st σ (l.head v i) (fst B 0) else st σ (anext l (lst 0 A)) (fst B 0)) : M) j = if lst 0 A = 0 ∧ j = l.head v i then fst B 0 else if lst 0 A ≠ 0 ∧ j = anext l (lst 0 A) then fst B 0 else get σ j := fun j => by
    by_cases h0 : lst 0 A = 0
    · rw [if_pos h0, stE hl hs (by omega) (by omega)]
      by_cases h1 : j = l.head v i
      · rw [if_pos h1, if_pos ⟨h0, h1⟩]
      · rw [if_neg h1, if_neg (fun hc => h1 hc.2), if_neg (fun hc => hc.1 h0)]
    · have fb := anext_b hl (aS h0).1
      rw [if_neg h0, stE hl hs (by omega) (by omega)]
      by_cases h1 : j = anext l (lst 0 A)
      · rw [if_pos h1, if_neg (fun hc => h0 hc.1), if_pos ⟨h0, h1⟩]
      · rw [if_neg h1, if_neg (fun hc => h0 hc.1), if_neg (fun hc => h1 hc.2)]
  have z2 : ((if lst 0 A = 0 then st σ (l.head v i) (fst B 0) else st σ (anext l (lst 0 A)) (fst B 0)) : M).size = σ.size := by split <;> rw [size_st]
  generalize ((if lst 0 A = 0 then st σ (l.head v i) (fst B 0) else st σ (anext l (lst 0 A)) (fst B 0)) : M) = σ2 at *
  have g3 : ∀ j, get ((if fst B 0 ≠ 0 then st σ2 (aprev l (fst B 0)) (lst 0 A) else σ2) : M) j = if fst B 0 ≠ 0 ∧ j = aprev l (fst B 0) then lst 0 A else if lst 0 A = 0 ∧ j = l.head v i then fst B 0 else if lst 0 A ≠ 0 ∧ j = anext l (lst 0 A) then fst B 0 else get σ j := fun j => by
    by_cases h0 : fst B 0 ≠ 0
    · have fb := anext_b hl (bS h0).1
      rw [if_pos h0, stE hl (by rw [z2]; exact hs) (by omega) (by omega), g2]
      by_cases h1 : j = aprev l (fst B 0)
      · rw [if_pos h1, if_pos ⟨h0, h1⟩]
      · rw [if_neg h1, if_neg (show ¬ (fst B 0 ≠ 0 ∧ j = aprev l (fst B 0)) from fun hc => h1 hc.2)]
    · rw [if_neg h0, if_neg (fun hc => h0 hc.1), g2]
  have z3 : ((if fst B 0 ≠ 0 then st σ2 (aprev l (fst B 0)) (lst 0 A) else σ2) : M).size = σ.size := by split <;> (try rw [size_st]) <;> exact z2
  generalize ((if fst B 0 ≠ 0 then st σ2 (aprev l (fst B 0)) (lst 0 A) else σ2) : M) = σ3 at *
  have nh : ∀ y, l.sd y → anext l y ≠ l.head v i ∧ aprev l y ≠ l.head v i := fun y hy => by have := anext_b hl hy; omega
  have gn : ∀ y, l.sd y → get σ3 (anext l y) = if lst 0 A ≠ 0 ∧ y = lst 0 A then fst B 0 else get σ (anext l y) := fun y hy => by
    rw [g3, if_neg (fun hc => (anext_inj hl hy (bS hc.1).1).2.2.1 hc.2), if_neg (fun hc => (nh y hy).1 hc.2)]
    by_cases hc : lst 0 A ≠ 0 ∧ y = lst 0 A
    · rw [if_pos ⟨hc.1, by rw [← hc.2]⟩, if_pos hc]
    · rw [if_neg (fun hc' => hc ⟨hc'.1, (anext_inj hl hy (aS hc'.1).1).1.1 hc'.2⟩), if_neg hc]
  have gp : ∀ y, l.sd y → get σ3 (aprev l y) = if fst B 0 ≠ 0 ∧ y = fst B 0 then lst 0 A else get σ (aprev l y) := fun y hy => by
    rw [g3]
    by_cases hc : fst B 0 ≠ 0 ∧ y = fst B 0
    · rw [if_pos ⟨hc.1, by rw [← hc.2]⟩, if_pos hc]
    · rw [if_neg (fun hc' => hc ⟨hc'.1, (anext_inj hl hy (bS hc'.1).1).2.1.1 hc'.2⟩), if_neg hc, if_neg (fun hc' => (nh y hy).2 hc'.2), if_neg (fun hc' => (anext_inj hl hy (aS hc'.1).1).2.2.2 hc'.2)]
  have uS : updL L v i (A ++ B) v i = A ++ B := by unfold updL; simp
  have uO : ∀ w j, ¬ (w = v ∧ j = i) → updL L v i (A ++ B) w j = L w j := fun w j hne => by unfold updL; rw [if_neg hne]
  have sub : ∀ y, y ∈ A ++ B → y ∈ L v i := fun y hy => by rw [hAB]; rcases List.mem_append.1 hy with h | h <;> simp [h]
  refine ⟨⟨fun j w hw => ?_, fun j w hw => ?_, fun j w hw y hy => ?_, fun j w hw => ?_, fun j w j' w' hw hw' y hy hy' => ?_⟩, z3, fun j hj => ?_⟩
  · by_cases hvw : w = v ∧ j = i
    · obtain ⟨rfl, rfl⟩ := hvw
      rw [uS, g3, if_neg (fun hc => by have := anext_b hl (bS hc.1).1; omega)]
      by_cases h0 : lst 0 A = 0
      · rw [if_pos ⟨h0, rfl⟩, aN h0]; rfl
      · rw [if_neg (fun hc => h0 hc.1), if_neg (fun hc => by have := anext_b hl (aS h0).1; omega)]
        have hA : A ≠ [] := fun hc => h0 (by rw [hc]; rfl)
        cases hAc : A with
        | nil => exact absurd hAc hA
        | cons z r => rw [hAc] at hhd; exact hhd
    · have hb' := head_b hl hw.2 hw.1
      rw [uO w j hvw, g3, if_neg (fun hc => by have := anext_b hl (bS hc.1).1; omega), if_neg (fun hc => hvw ((head_inj hl hw.2 hw.1 hv.2 hv.1).1 hc.2)), if_neg (fun hc => by have := anext_b hl (aS hc.1).1; omega)]
      exact h.head j w hw
  · by_cases hvw : w = v ∧ j = i
    · obtain ⟨rfl, rfl⟩ := hvw
      rw [uS, seg_app]
      refine ⟨seg_last sA ndA (fun y hy => ?_) (fun y hy => ?_), seg_first sB ndB (fun y hy => ?_) (fun y hy => ?_)⟩
      · show get σ3 (aprev l y) = get σ (aprev l y)
        rw [gp y (hsd y (by simp [hy])), if_neg (fun hc => dAB' y hy (by rw [hc.2]; exact (bS hc.1).2))]
      · show get σ3 (anext l y) = if y = lst 0 A then fst B 0 else get σ (anext l y)
        rw [gn y (hsd y (by simp [hy]))]
        have h0 : lst 0 A ≠ 0 := fun h0 => by rw [aN h0] at hy; cases hy
        by_cases hy' : y = lst 0 A
        · rw [if_pos ⟨h0, hy'⟩, if_pos hy']
        · rw [if_neg (fun hc => hy' hc.2), if_neg hy']
      · show get σ3 (anext l y) = get σ (anext l y)
        rw [gn y (hsd y (by simp [hy])), if_neg (fun hc => dAB' _ (aS hc.1).2 (by rw [← hc.2]; exact hy))]
      · show get σ3 (aprev l y) = if y = fst B 0 then lst 0 A else get σ (aprev l y)
        rw [gp y (hsd y (by simp [hy]))]
        have h0 : fst B 0 ≠ 0 := fun h0 => by rw [bN h0] at hy; cases hy
        by_cases hy' : y = fst B 0
        · rw [if_pos ⟨h0, hy'⟩, if_pos hy']
        · rw [if_neg (fun hc => hy' hc.2), if_neg hy']
    · rw [uO w j hvw]
      refine seg_congr (fun y hy => ?_) (h.seg j w hw)
      have hyd := h.side j w hw y hy
      have hny : y ∉ L v i := fun hy' => hvw (h.disj j w i v hw hv y hy hy')
      refine ⟨?_, ?_⟩
      · show get σ3 (anext l y) = get σ (anext l y)
        rw [gn y hyd, if_neg (fun hc => hny (sub y (by rw [hc.2]; simp [(aS hc.1).2])))]
      · show get σ3 (aprev l y) = get σ (aprev l y)
        rw [gp y hyd, if_neg (fun hc => hny (sub y (by rw [hc.2]; simp [(bS hc.1).2])))]
  · by_cases hvw : w = v ∧ j = i
    · obtain ⟨rfl, rfl⟩ := hvw
      rw [uS] at hy; exact h.side j w hw y (sub y hy)
    · rw [uO w j hvw] at hy; exact h.side j w hw y hy
  · by_cases hvw : w = v ∧ j = i
    · obtain ⟨rfl, rfl⟩ := hvw
      rw [uS]; exact hndAB
    · rw [uO w j hvw]; exact h.nodup j w hw
  · have key : ∀ w j, y ∈ updL L v i (A ++ B) w j → y ∈ L w j := fun w j hy => by
      by_cases hvw : w = v ∧ j = i
      · obtain ⟨rfl, rfl⟩ := hvw
        rw [uS] at hy; exact sub y hy
      · rw [uO w j hvw] at hy; exact hy
    exact h.disj j w j' w' hw hw' y (key w j hy) (key w' j' hy')
  · rw [g3, if_neg (fun hc => hj (.inl ⟨_, (bS hc.1).1, .inr hc.2⟩)), if_neg (fun hc => hj (.inr ⟨v, i, hv, hc.2⟩)), if_neg (fun hc => hj (.inl ⟨_, (aS hc.1).1, .inl hc.2⟩))]
end
end Go.Tm

namespace Go.Tm
open MemLike Eng
set_option linter.unusedSectionVars false
set_option linter.unusedVariables false
theorem nd_mid {x : Int} {A C : List Int} (h : (A ++ x :: C).Nodup) : x ∉ A ++ C := by
  obtain ⟨_, h2, h3⟩ := List.nodup_append.1 h
  rw [List.mem_append]
  rintro (hx | hx)
  · exact h3 x hx x (by simp) rfl
  · exact (List.nodup_cons.1 h2).1 hx
section
variable {l : Lay} (hl : l.Ok) {p : Pen} (hp : PenOk p) {mk : Int → Int} {pr : Int → Int} {σ σ' : M} {F : Int → T} {L : Int → Int → List Int} {g : G} {P : Int → Int → Prop} {B : Int → Prop} {K : Int → Int → Prop}
include hl
theorem Forest.low (hF : Forest l pr mk σ F) (hz : σ'.size = σ.size) (h : ∀ j, l.base ≤ j → get σ' j = get σ j) : Forest l pr mk σ' F := by
  have hg : ∀ x f, l.nd x → 0 ≤ f ∧ f < 7 → gf l σ' x f = gf l σ x f := fun x f hx hf => h _ (field_b hl hx hf).1
  have hp' : ∀ x, l.nd x → parent l σ' x = parent l σ x := fun x hx => by
    have := hg x 2 hx (by decide)
    unfold parent pnew tget
    unfold gf at this
    rw [this]
  have hw : ∀ x, l.nd x → (wOk l σ' x ↔ wOk l σ x) := fun x hx => by unfold wOk; rw [hg x 2 hx (by decide)]
  have hr : ∀ t : T, repU l mk σ t → repU l mk σ' t := by
    intro t
    induction t with
    | nil => exact fun _ => trivial
    | node a x b iha ihb =>
      rintro ⟨h1, h2, h3, h4, h5, h6, h7, h8, h9⟩
      refine ⟨h1, by rw [hg x 3 h1 (by decide)]; exact h2, by rw [hg x 4 h1 (by decide)]; exact h3, (hw x h1).2 h4, by rw [hg x 6 h1 (by decide)]; exact h5, iha h6, ihb h7, fun h0 => ?_, fun h0 => ?_⟩
      · rw [hp' _ (h6.nd _ (h6.root_mem h0))]; exact h8 h0
      · rw [hp' _ (h7.nd _ (h7.root_mem h0))]; exact h9 h0
  refine ⟨by rw [hz]; exact hF.size, fun x hx => by rw [hg x 5 hx (by decide)]; exact hF.pri x hx, hF.mkk, hF.mem, hF.cls, hF.nodup, hF.heap, fun x hx => hr _ (hF.rep x hx), fun x hx => ?_⟩
  have hr := hF.rep x hx
  have h0 : (F x).root ≠ 0 := fun h0 => by have := hr.nil_iff.1 h0; have := hF.mem x hx; simp_all [T.list]
  rw [hp' _ (hr.nd _ (hr.root_mem h0))]; exact hF.top x hx
structure LM (l : Lay) (pr : Int → Int) (σ : M) (F : Int → T) (mk : Int → Int) (L : Int → Int → List Int) (K : Int → Int → Prop) : Prop where
  forest : Forest l pr mk σ F
  lists : ListOk l σ L
  mv : ∀ i v, l.okV i v → bitM (mk (l.vertex i v)) 0 = decide (L v i ≠ []) ∧ bitM (mk (l.vertex i v)) 1 = false
  ma : ∀ s i, l.okA s i 0 → bitM (mk (l.arc s i 0)) 0 = false ∧ (bitM (mk (l.arc s i 0)) 1 = true ↔ K s i)
  mb : ∀ s i, l.okA s i 1 → bitM (mk (l.arc s i 1)) 0 = false ∧ bitM (mk (l.arc s i 1)) 1 = false
theorem amark_spec (hF : Forest l pr mk σ F) {v i : Int} (hv : l.okV i v) (hh : get σ (l.head v i) < 100) {k : Nat} (hk : 560 < k) :
    ∃ σ' mk', amark l k σ v i = some σ' ∧ Forest l pr mk' σ' F ∧ (∀ y, y ≠ l.vertex i v → mk' y = mk y) ∧ bitM (mk' (l.vertex i v)) 0 = decide (get σ (l.head v i) ≠ 0) ∧ bitM (mk' (l.vertex i v)) 1 = bitM (mk (l.vertex i v)) 1 ∧ (∀ j, j < l.base → get σ' j = get σ j) := by
  have hx := (vertex_spec hl hv).1
  have hlen := hF.rowLen hl hx
  have hg := get_rng σ (l.head v i)
  unfold amark aget
  dsimp only
  rw [wrapI (by omega), ld_eq, tsumS_eq, marked_eq hl hF.mkk (hF.rep _ hx) (by omega) (hF.mem _ hx)]
  by_cases hc : decide (get σ (l.head v i) ≠ 0) = bitM (mk (l.vertex i v)) 0
  · rw [if_neg (fun h => h hc)]
    exact ⟨σ, mk, rfl, hF, fun _ _ => rfl, hc.symm, rfl, fun _ _ => rfl⟩
  · rw [if_pos hc]
    obtain ⟨σ', e, hF', hfr⟩ := hF.mark hl hx hk (.inl rfl) (decide (get σ (l.head v i) ≠ 0))
    exact ⟨σ', _, e, hF', fun y hy => updM_ne hy, by rw [updM_eq, bitM_mark (hF.mkk _) (.inl rfl) (.inl rfl), if_pos rfl], by rw [updM_eq, bitM_mark (hF.mkk _) (.inl rfl) (.inr rfl), if_neg (by decide)], fun j hj => hfr.low hl hj⟩
theorem LM.mark (h : LM l pr σ F mk L K) {L' : Int → Int → List Int} (hz : σ'.size = σ.size) (hh : ∀ j, l.base ≤ j → get σ' j = get σ j) {v i : Int} (hv : l.okV i v) (hL : ListOk l σ' L') (hO : ∀ w j, ¬ (w = v ∧ j = i) → L' w j = L w j) {k : Nat} (hk : 560 < k) :
    ∃ σ'' mk', amark l k σ' v i = some σ'' ∧ LM l pr σ'' F mk' L' K ∧ (∀ j, j < l.base → get σ'' j = get σ' j) := by
  have hF1 := h.forest.low hl hz hh
  have hhd := hL.head i v hv
  have hsm : get σ' (l.head v i) < 100 ∧ (get σ' (l.head v i) ≠ 0 ↔ L' v i ≠ []) := by
    rw [hhd]
    cases hLv : L' v i with
    | nil => simp [fst]
    | cons y r =>
      have := hL.side i v hv y (by rw [hLv]; simp)
      have bs := (lay_b hl).s
      unfold Lay.sd at this
      simp only [fst]
      refine ⟨by omega, fun _ => by simp, fun _ => by omega⟩
  obtain ⟨σ'', mk', e, hF2, hO2, b0, b1, hlow⟩ := amark_spec hl hF1 hv hsm.1 hk
  refine ⟨σ'', mk', e, ⟨hF2, hL.congr hl fun j hj => hlow j (isL_low hl hj).2, fun j w hw => ?_, fun s j hs => ?_, fun s j hs => ?_⟩, hlow⟩
  · by_cases hvw : w = v ∧ j = i
    · obtain ⟨rfl, rfl⟩ := hvw
      exact ⟨by rw [b0, decide_eq_decide]; exact hsm.2, by rw [b1]; exact (h.mv j w hv).2⟩
    · rw [hO2 _ (fun he => hvw (by have := (vertex_inj hl hw hv).1 he; exact ⟨this.2, this.1⟩)), hO w j hvw]; exact h.mv j w hw
  · rw [hO2 _ (fun he => vertex_arc hl hv hs he.symm)]; exact h.ma s j hs
  · rw [hO2 _ (fun he => vertex_arc hl hv hs he.symm)]; exact h.mb s j hs
theorem LM.push (h : LM l pr σ F mk L K) {x v i : Int} (hv : l.okV i v) (hx : l.sd x) (hno : ∀ j w, l.okV j w → x ∉ L w j) {k : Nat} (hk : 560 < k) :
    ∃ σ' mk', Go.Tm.push l k σ x v i = some σ' ∧ LM l pr σ' F mk' (updL L v i (x :: L v i)) K ∧ ∀ j, isE l j → get σ' j = get σ j := by
  obtain ⟨hL, hz, hn⟩ := push_spec hl h.forest.size h.lists hv hx hno
  obtain ⟨σ'', mk', e, h2, hlow⟩ := h.mark hl hz (fun j hj => hn j fun hL => by have := isL_low hl hL; omega) hv hL (fun w j hne => by unfold updL; rw [if_neg hne]) hk
  exact ⟨σ'', mk', by rw [push_eq]; exact e, h2, fun j hj => by rw [hlow j (isE_low hl hj).2, hn j fun hL => isL_isE hl hL hj]⟩
theorem LM.pull (h : LM l pr σ F mk L K) {x v i : Int} (hv : l.okV i v) {A C : List Int} (hAC : L v i = A ++ x :: C) {k : Nat} (hk : 560 < k) :
    ∃ σ' mk', Go.Tm.pull l k σ x v i = some σ' ∧ LM l pr σ' F mk' (updL L v i (A ++ C)) K ∧ ∀ j, isE l j → get σ' j = get σ j := by
  obtain ⟨hL, hz, hn⟩ := pull_spec hl h.forest.size h.lists hv hAC
  obtain ⟨σ'', mk', e, h2, hlow⟩ := h.mark hl hz (fun j hj => hn j fun hL => by have := isL_low hl hL; omega) hv hL (fun w j hne => by unfold updL; rw [if_neg hne]) hk
  exact ⟨σ'', mk', by rw [pull_eq]; exact e, h2, fun j hj => by rw [hlow j (isE_low hl hj).2, hn j fun hL => isL_isE hl hL hj]⟩

structure Inv (l : Lay) (pr : Int → Int) (σ : M) (F : Int → T) (mk : Int → Int) (g : G) (L : Int → Int → List Int) (P : Int → Int → Prop) (B : Int → Prop) (K : Int → Int → Prop) : Prop where
  lm : LM l pr σ F mk L K
  edges : EdgeOk l σ g
  mem : ∀ i v, l.okV i v → ∀ y, y ∈ L v i ↔ ∃ s d : Int, y = 2 * s + d + 1 ∧ (d = 0 ∨ d = 1) ∧ B s ∧ g.lv s = i ∧ (if d = 0 then g.u s else g.v s) = v
  bh : ∀ s, B s → g.has s = true
  ph : ∀ i s, P i s → g.has s = true
  tours : ∀ i, 0 ≤ i ∧ i < l.lev → Tour l F i (P i) g.u g.v
theorem Inv.eop (h : Inv l pr σ F mk g L P B K) {g' : G} (hE : EdgeOk l σ' g') (hz : σ'.size = σ.size) (hn : ∀ j, ¬ isE l j → get σ' j = get σ j) (hB : ∀ s, B s → g'.has s = true ∧ g'.u s = g.u s ∧ g'.v s = g.v s ∧ g'.lv s = g.lv s)
    (hP : ∀ i s, P i s → g'.has s = true ∧ g'.u s = g.u s ∧ g'.v s = g.v s) : Inv l pr σ' F mk g' L P B K := by
  refine ⟨⟨h.lm.forest.low hl hz fun j hj => hn j fun hE => by have := isE_low hl hE; omega, h.lm.lists.congr hl fun j hj => hn j (isL_isE hl hj), h.lm.mv, h.lm.ma, h.lm.mb⟩, hE, fun i v hv y => ?_, fun s hs => (hB s hs).1, fun i s hs => (hP i s hs).1, fun i hi => (h.tours i hi).ends hl fun s hs => (hP i s hs).2⟩
  rw [h.mem i v hv y]
  constructor
  · rintro ⟨s, d, h1, h2, h3, h4, h5⟩
    obtain ⟨q1, q2, q3, q4⟩ := hB s h3
    exact ⟨s, d, h1, h2, h3, by rw [q4]; exact h4, by rw [q2, q3]; exact h5⟩
  · rintro ⟨s, d, h1, h2, h3, h4, h5⟩
    obtain ⟨q1, q2, q3, q4⟩ := hB s h3
    exact ⟨s, d, h1, h2, h3, by rw [← q4]; exact h4, by rw [← q2, ← q3]; exact h5⟩
theorem Inv.put (h : Inv l pr σ F mk g L P B K) {s a b i : Int} {t : Bool} (hsr : 0 ≤ s ∧ s < l.S) (ha : 0 ≤ min a b) (hab : min a b < max a b) (hb : max a b < l.V) (hi : 0 ≤ i ∧ i < l.lev) (hno : g.has s = false) (hfree : ∀ s, g.has s = true → ¬ (g.u s = min a b ∧ g.v s = max a b)) :
    Inv l pr (eput l σ s a b i t) F mk (g.put s (min a b) (max a b) i t) L P B K := by
  obtain ⟨e1, e2, e3⟩ := eput_spec hl h.lm.forest.size h.edges (t := t) hsr ha hab hb hi hno hfree
  have ne : ∀ q, g.has q = true → q ≠ s := fun q hq he => by rw [he, hno] at hq; cases hq
  have key : ∀ q, g.has q = true → (g.put s (min a b) (max a b) i t).has q = true ∧ (g.put s (min a b) (max a b) i t).u q = g.u q ∧ (g.put s (min a b) (max a b) i t).v q = g.v q ∧ (g.put s (min a b) (max a b) i t).lv q = g.lv q := fun q hq => by
    unfold G.put updB updI; simp [ne q hq, hq]
  exact h.eop hl e1 e2 e3 (fun q hq => key q (h.bh q hq)) fun j q hq => ⟨(key q (h.ph j q hq)).1, (key q (h.ph j q hq)).2.1, (key q (h.ph j q hq)).2.2.1⟩
theorem Inv.turn (h : Inv l pr σ F mk g L P B K) {s : Int} {t : Bool} (hh : g.has s = true) : Inv l pr (eturn l σ s t) F mk (g.turn s t) L P B K := by
  obtain ⟨e1, e2, e3⟩ := eturn_spec hl h.lm.forest.size h.edges (t := t) hh
  exact h.eop hl e1 e2 e3 (fun q hq => ⟨h.bh q hq, rfl, rfl, rfl⟩) fun j q hq => ⟨h.ph j q hq, rfl, rfl⟩
theorem Inv.lift (h : Inv l pr σ F mk g L P B K) {s i : Int} (hh : g.has s = true) (hB : ¬ B s) (hi : 0 ≤ i ∧ i < l.lev) : Inv l pr (elift l σ s i) F mk (g.lift s i) L P B K := by
  obtain ⟨e1, e2, e3⟩ := elift_spec hl h.lm.forest.size h.edges hh hi
  exact h.eop hl e1 e2 e3 (fun q hq => ⟨h.bh q hq, rfl, rfl, by unfold G.lift updI; dsimp only; rw [if_neg (fun he : q = s => hB (he ▸ hq))]⟩) fun j q hq => ⟨h.ph j q hq, rfl, rfl⟩
theorem Inv.del (h : Inv l pr σ F mk g L P B K) {s : Int} (hh : g.has s = true) (hB : ¬ B s) (hP : ∀ i, ¬ P i s) : Inv l pr (eremove l σ (g.u s) (g.v s)) F mk (g.del s) L P B K := by
  obtain ⟨e1, e2, e3⟩ := eremove_spec hl h.lm.forest.size h.edges hh
  have key : ∀ q, g.has q = true → q ≠ s → (g.del s).has q = true := fun q hq hne => by unfold G.del updB; dsimp only; rw [if_neg hne]; exact hq
  exact h.eop hl e1 e2 e3 (fun q hq => ⟨key q (h.bh q hq) fun he => hB (he ▸ hq), rfl, rfl, rfl⟩) fun j q hq => ⟨key q (h.ph j q hq) fun he => hP j (he ▸ hq), rfl, rfl⟩
theorem Inv.okuv (h : Inv l pr σ F mk g L P B K) {s : Int} (hh : g.has s = true) {i : Int} (hi : 0 ≤ i ∧ i < l.lev) : l.okV i (g.u s) ∧ l.okV i (g.v s) ∧ l.okA s i 0 ∧ l.okA s i 1 := by
  obtain ⟨r1, ⟨r2, r3, r4⟩, r5⟩ := h.edges.rng s hh
  exact ⟨⟨hi, by omega⟩, ⟨hi, by omega⟩, ⟨r1, hi, by omega⟩, ⟨r1, hi, by omega⟩⟩
theorem Inv.lmark (h : Inv l pr σ F mk g L P B K) {s i : Int} (hA : l.okA s i 0) (on : Bool) {k : Nat} (hk : 560 < k) :
    ∃ σ' mk', Go.Tm.lmark l k σ s i on = some σ' ∧ Inv l pr σ' F mk' g L P B (fun q j => if q = s ∧ j = i then on = true else K q j) := by
  have hx := (arc_spec hl hA).1
  obtain ⟨σ', e, hF', hfr⟩ := h.lm.forest.mark hl hx hk (.inr rfl) on
  refine ⟨σ', _, e, ⟨⟨hF', h.lm.lists.congr hl fun j hj => hfr.low hl (isL_low hl hj).2, fun j w hw => ?_, fun q j hq => ?_, fun q j hq => ?_⟩, h.edges.congr hl fun j hj => hfr.low hl (isE_low hl hj).2, h.mem, h.bh, h.ph, h.tours⟩⟩
  · rw [updM_ne (vertex_arc hl hw hA)]; exact h.lm.mv j w hw
  · by_cases hc : q = s ∧ j = i
    · obtain ⟨rfl, rfl⟩ := hc
      rw [updM_eq, bitM_mark (h.lm.forest.mkk _) (.inr rfl) (.inl rfl), if_neg (by decide), bitM_mark (h.lm.forest.mkk _) (.inr rfl) (.inr rfl), if_pos rfl, if_pos ⟨rfl, rfl⟩]
      exact ⟨(h.lm.ma q j hq).1, .rfl⟩
    · rw [updM_ne (fun he => hc (by have := (arc_inj hl hq hA).1 he; exact ⟨this.1, this.2.1⟩)), if_neg hc]; exact h.lm.ma q j hq
  · rw [updM_ne (fun he => by have := ((arc_inj hl hq hA).1 he).2.2; omega)]; exact h.lm.mb q j hq
theorem side_eq {s d : Int} (hs : 0 ≤ s ∧ s < l.S) (hd : d = 0 ∨ d = 1) : side s d = 2 * s + d + 1 ∧ l.sd (2 * s + d + 1) := by
  have := (lay_b hl).s
  unfold side Lay.sd
  rw [wrapI (x := 2 * s) (by omega), wrapI (x := 2 * s + d) (by omega), wrapI (by omega)]
  exact ⟨rfl, by omega⟩
theorem Inv.add (h : Inv l pr σ F mk g L P B K) {s : Int} (hh : g.has s = true) (hB : ¬ B s) {k : Nat} (hk : 560 < k) :
    ∃ σ' mk' L', Go.Tm.add l k σ s = some σ' ∧ Inv l pr σ' F mk' g L' P (fun q => B q ∨ q = s) K := by
  have hr := h.edges.rng s hh
  obtain ⟨hu, hv, _, _⟩ := h.okuv hl hh hr.2.2
  obtain ⟨e1, e2⟩ := eget_eq hl h.edges hh
  obtain ⟨s0, d0⟩ := side_eq hl hr.1 (.inl rfl : (0 : Int) = 0 ∨ (0 : Int) = 1)
  obtain ⟨s1, d1⟩ := side_eq hl hr.1 (.inr rfl : (1 : Int) = 0 ∨ (1 : Int) = 1)
  have no : ∀ d : Int, (d = 0 ∨ d = 1) → ∀ j w, l.okV j w → 2 * s + d + 1 ∉ L w j := fun d hd j w hw hm => by
    obtain ⟨q, d', h1, h2, h3, _⟩ := (h.mem j w hw _).1 hm
    have : q = s := by omega
    exact hB (this ▸ h3)
  unfold Go.Tm.add
  dsimp only
  rw [e1, e2, s0, s1]
  obtain ⟨σ1, mk1, p1, h1, c1⟩ := h.lm.push hl hu d0 (no 0 (.inl rfl)) hk
  dsimp only
  rw [p1, Option.bind_some]
  have no2 : ∀ j w, l.okV j w → 2 * s + 1 + 1 ∉ updL L (g.u s) (g.lv s) ((2 * s + 0 + 1) :: L (g.u s) (g.lv s)) w j := fun j w hw hm => by
    unfold updL at hm
    split at hm
    · rename_i hc
      rcases List.mem_cons.1 hm with hm | hm
      · omega
      · exact no 1 (.inr rfl) _ _ hu hm
    · exact no 1 (.inr rfl) j w hw hm
  obtain ⟨σ2, mk2, p2, h2, c2⟩ := h1.push hl hv d1 no2 hk
  refine ⟨σ2, mk2, _, p2, ⟨h2, h.edges.congr hl fun j hj => by rw [c2 j hj, c1 j hj], fun j w hw y => ?_, fun q hq => ?_, h.ph, h.tours⟩⟩
  · have base := h.mem j w hw y
    have huv : g.u s ≠ g.v s := by have := hr.2.1; omega
    have L1 : ∀ y, y ∈ updL (updL L (g.u s) (g.lv s) ((2 * s + 0 + 1) :: L (g.u s) (g.lv s))) (g.v s) (g.lv s) ((2 * s + 1 + 1) :: updL L (g.u s) (g.lv s) ((2 * s + 0 + 1) :: L (g.u s) (g.lv s)) (g.v s) (g.lv s)) w j ↔ y ∈ L w j ∨ (y = 2 * s + 0 + 1 ∧ w = g.u s ∧ j = g.lv s) ∨ (y = 2 * s + 1 + 1 ∧ w = g.v s ∧ j = g.lv s) := fun y => by
      unfold updL
      by_cases c1 : w = g.v s ∧ j = g.lv s
      · rw [if_pos c1, if_neg (fun hc => huv hc.1.symm)]
        obtain ⟨rfl, rfl⟩ := c1
        simp only [List.mem_cons, and_true]
        constructor
        · rintro (hq | hq)
          · exact .inr (.inr hq)
          · exact .inl hq
        · rintro (hq | hq | hq)
          · exact .inr hq
          · exact absurd hq.2.symm huv
          · exact .inl hq
      · rw [if_neg c1]
        by_cases c2 : w = g.u s ∧ j = g.lv s
        · rw [if_pos c2]
          obtain ⟨rfl, rfl⟩ := c2
          simp only [List.mem_cons, and_true]
          constructor
          · rintro (hq | hq)
            · exact .inr (.inl hq)
            · exact .inl hq
          · rintro (hq | hq | hq)
            · exact .inr hq
            · exact .inl hq
            · exact absurd hq.2 huv
        · rw [if_neg c2]
          constructor
          · exact fun hq => .inl hq
          · rintro (hq | hq | hq)
            · exact hq
            · exact absurd hq.2 c2
            · exact absurd hq.2 c1
    rw [L1, base]
    constructor
    · rintro (⟨q, d, q1, q2, q3, q4, q5⟩ | ⟨q1, q2, q3⟩ | ⟨q1, q2, q3⟩)
      · exact ⟨q, d, q1, q2, .inl q3, q4, q5⟩
      · exact ⟨s, 0, q1, .inl rfl, .inr rfl, q3.symm, by rw [if_pos rfl]; exact q2.symm⟩
      · exact ⟨s, 1, q1, .inr rfl, .inr rfl, q3.symm, by rw [if_neg (by decide)]; exact q2.symm⟩
    · rintro ⟨q, d, q1, q2, q3, q4, q5⟩
      rcases q3 with q3 | rfl
      · exact .inl ⟨q, d, q1, q2, q3, q4, q5⟩
      · rcases q2 with rfl | rfl
        · rw [if_pos rfl] at q5; exact .inr (.inl ⟨q1, q5.symm, q4.symm⟩)
        · rw [if_neg (by decide)] at q5; exact .inr (.inr ⟨q1, q5.symm, q4.symm⟩)
  · rcases hq with hq | rfl
    · exact h.bh q hq
    · exact hh
theorem Inv.remove (h : Inv l pr σ F mk g L P B K) {s : Int} (hB : B s) {k : Nat} (hk : 560 < k) :
    ∃ σ' mk' L', Go.Tm.remove l k σ s = some σ' ∧ Inv l pr σ' F mk' g L' P (fun q => B q ∧ q ≠ s) K := by
  have hh := h.bh s hB
  have hr := h.edges.rng s hh
  obtain ⟨hu, hv, _, _⟩ := h.okuv hl hh hr.2.2
  obtain ⟨e1, e2⟩ := eget_eq hl h.edges hh
  obtain ⟨s0, d0⟩ := side_eq hl hr.1 (.inl rfl : (0 : Int) = 0 ∨ (0 : Int) = 1)
  obtain ⟨s1, d1⟩ := side_eq hl hr.1 (.inr rfl : (1 : Int) = 0 ∨ (1 : Int) = 1)
  have huv : g.u s ≠ g.v s := by have := hr.2.1; omega
  have in0 : 2 * s + 0 + 1 ∈ L (g.u s) (g.lv s) := (h.mem _ _ hu _).2 ⟨s, 0, rfl, .inl rfl, hB, rfl, by rw [if_pos rfl]⟩
  have in1 : 2 * s + 1 + 1 ∈ L (g.v s) (g.lv s) := (h.mem _ _ hv _).2 ⟨s, 1, rfl, .inr rfl, hB, rfl, by rw [if_neg (by decide)]⟩
  obtain ⟨A, C, hAC⟩ := List.append_of_mem in0
  obtain ⟨A', C', hAC'⟩ := List.append_of_mem in1
  unfold Go.Tm.remove
  dsimp only
  rw [e1, e2, s0, s1]
  obtain ⟨σ1, mk1, p1, h1, c1⟩ := h.lm.pull hl hu hAC hk
  dsimp only
  rw [p1, Option.bind_some]
  have hL1 : updL L (g.u s) (g.lv s) (A ++ C) (g.v s) (g.lv s) = A' ++ (2 * s + 1 + 1) :: C' := by unfold updL; rw [if_neg (fun hc => huv hc.1.symm)]; exact hAC'
  obtain ⟨σ2, mk2, p2, h2, c2⟩ := h1.pull hl hv hL1 hk
  refine ⟨σ2, mk2, _, p2, ⟨h2, h.edges.congr hl fun j hj => by rw [c2 j hj, c1 j hj], fun j w hw y => ?_, fun q hq => h.bh q hq.1, h.ph, h.tours⟩⟩
  · have base := h.mem j w hw y
    have nd0 := h.lm.lists.nodup _ _ hu
    have nd1 := h.lm.lists.nodup _ _ hv
    rw [hAC] at nd0
    rw [hAC'] at nd1
    have m0 : ∀ y, y ∈ A ++ C ↔ y ∈ L (g.u s) (g.lv s) ∧ y ≠ 2 * s + 0 + 1 := fun y => by
      rw [hAC]
      have hn : 2 * s + 0 + 1 ∉ A ++ C := nd_mid nd0
      simp only [List.mem_append, List.mem_cons] at hn ⊢
      constructor
      · intro hy; exact ⟨by rcases hy with hy | hy <;> simp [hy], fun he => hn (he ▸ hy)⟩
      · rintro ⟨hy | hy | hy, hne⟩
        · exact .inl hy
        · exact absurd hy hne
        · exact .inr hy
    have m1 : ∀ y, y ∈ A' ++ C' ↔ y ∈ L (g.v s) (g.lv s) ∧ y ≠ 2 * s + 1 + 1 := fun y => by
      rw [hAC']
      have hn : 2 * s + 1 + 1 ∉ A' ++ C' := nd_mid nd1
      simp only [List.mem_append, List.mem_cons] at hn ⊢
      constructor
      · intro hy; exact ⟨by rcases hy with hy | hy <;> simp [hy], fun he => hn (he ▸ hy)⟩
      · rintro ⟨hy | hy | hy, hne⟩
        · exact .inl hy
        · exact absurd hy hne
        · exact .inr hy
    have L1 : y ∈ updL (updL L (g.u s) (g.lv s) (A ++ C)) (g.v s) (g.lv s) (A' ++ C') w j ↔ y ∈ L w j ∧ (w = g.u s → j = g.lv s → y ≠ 2 * s + 0 + 1) ∧ (w = g.v s → j = g.lv s → y ≠ 2 * s + 1 + 1) := by
      unfold updL
      by_cases c1 : w = g.v s ∧ j = g.lv s
      · rw [if_pos c1]
        obtain ⟨rfl, rfl⟩ := c1
        rw [m1]
        exact ⟨fun hq => ⟨hq.1, fun he => absurd he.symm huv, fun _ _ => hq.2⟩, fun hq => ⟨hq.1, hq.2.2 rfl rfl⟩⟩
      · rw [if_neg c1]
        by_cases c2 : w = g.u s ∧ j = g.lv s
        · rw [if_pos c2]
          obtain ⟨rfl, rfl⟩ := c2
          rw [m0]
          exact ⟨fun hq => ⟨hq.1, fun _ _ => hq.2, fun he => absurd he huv⟩, fun hq => ⟨hq.1, hq.2.1 rfl rfl⟩⟩
        · rw [if_neg c2]
          exact ⟨fun hq => ⟨hq, fun q1 q2 => absurd ⟨q1, q2⟩ c2, fun q1 q2 => absurd ⟨q1, q2⟩ c1⟩, fun hq => hq.1⟩
    rw [L1, base]
    constructor
    · rintro ⟨⟨q, d, q1, q2, q3, q4, q5⟩, n0, n1⟩
      refine ⟨q, d, q1, q2, ⟨q3, fun he => ?_⟩, q4, q5⟩
      subst he
      rcases q2 with rfl | rfl
      · rw [if_pos rfl] at q5; exact n0 q5.symm q4.symm q1
      · rw [if_neg (by decide)] at q5; exact n1 q5.symm q4.symm q1
    · rintro ⟨q, d, q1, q2, ⟨q3, q6⟩, q4, q5⟩
      exact ⟨⟨q, d, q1, q2, q3, q4, q5⟩, fun _ _ he => q6 (by omega), fun _ _ he => q6 (by omega)⟩
theorem Tour.row_iff {i : Int} {Pi : Int → Prop} {eu ev : Int → Int} (hi : 0 ≤ i ∧ i < l.lev) (hT : Tour l F i Pi eu ev) {u v : Int} (hu : l.okV i u) (hv : l.okV i v) : F (l.vertex i u) = F (l.vertex i v) ↔ Conn Pi eu ev u v := by
  refine ⟨hT.conn u v hu hv, fun h => ?_⟩
  clear hv
  induction h with
  | refl => rfl
  | step _ s hs he ih =>
    obtain ⟨_, a2, a3⟩ := hT.arcs s hs
    rw [ih]
    rcases he with ⟨q1, q2⟩ | ⟨q1, q2⟩ <;> rw [← q1, ← q2, a2, a3]
include hp
theorem Inv.link (h : Inv l pr σ F mk g L P B K) {s i : Int} (hi : 0 ≤ i ∧ i < l.lev) (hh : g.has s = true) (hP : ¬ P i s) (hc : ¬ Conn (P i) g.u g.v (g.u s) (g.v s)) {k : Nat} (hk : 560 < k) :
    ∃ r σ' F', Go.Tm.link l p k σ i s (g.u s) (g.v s) = some (r, σ') ∧ Inv l pr σ' F' mk g L (fun j q => P j q ∨ (j = i ∧ q = s)) B K := by
  obtain ⟨hu, hv, h0, h1⟩ := h.okuv hl hh hi
  have nu := (vertex_spec hl hu).1
  have nv := (vertex_spec hl hv).1
  have hT := h.tours i hi
  have hF := h.lm.forest
  have hne : F (l.vertex i (g.u s)) ≠ F (l.vertex i (g.v s)) := fun he => hc ((hT.row_iff hl hi hu hv).1 he)
  obtain ⟨A, C, hA⟩ := List.append_of_mem (hF.mem _ nu)
  obtain ⟨A', C', hA'⟩ := List.append_of_mem (hF.mem _ nv)
  obtain ⟨t, σ', F', e, lt, hF', hTt, hn, hfr⟩ := hF.link hl hp hu hv h0 h1 hA hA' (hT.single s 0 h0 hP) (hT.single s 1 h1 hP) hne hk
  refine ⟨t.root, σ', F', e, ⟨⟨hF', h.lm.lists.congr hl fun j hj => hfr.low hl (isL_low hl hj).2, h.lm.mv, h.lm.ma, h.lm.mb⟩, h.edges.congr hl fun j hj => hfr.low hl (isE_low hl hj).2, h.mem, h.bh, fun j q hq => ?_, fun j hj => ?_⟩⟩
  · rcases hq with hq | ⟨_, rfl⟩
    · exact h.ph j q hq
    · exact hh
  · by_cases hji : j = i
    · subst hji
      exact (hT.link hl hi hF hF' hP h0.1 hu hv hA hA' hne lt hTt hn).iff hl fun q => by simp
    · refine ((h.tours j hj).congr hl hj fun y hy hyl => hn y fun hm => hji ?_).iff hl fun q => by simp [hji]
      rw [← hyl]
      have lu : (l.node (l.vertex i (g.u s))).1.level = i := by rw [(vertex_spec hl hu).2.1]
      have lv : (l.node (l.vertex i (g.v s))).1.level = i := by rw [(vertex_spec hl hv).2.1]
      rw [lt] at hm
      simp only [List.mem_append, List.mem_cons, List.mem_singleton] at hm
      have mA : ∀ y, (y = l.vertex i (g.u s) ∨ y ∈ C) ∨ y ∈ A → (l.node y).1.level = i := fun y hy => hT.lev _ nu lu y (by rw [hA]; rcases hy with (hy | hy) | hy <;> simp [hy])
      have mA' : ∀ y, (y = l.vertex i (g.v s) ∨ y ∈ C') ∨ y ∈ A' → (l.node y).1.level = i := fun y hy => hT.lev _ nv lv y (by rw [hA']; rcases hy with (hy | hy) | hy <;> simp [hy])
      rcases hm with ((hm | hm) | hm) | hm
      · exact mA y hm
      · rw [show y = l.arc s i 0 by simpa using hm, (arc_spec hl h0).2]
      · exact mA' y hm
      · rw [show y = l.arc s i 1 by simpa using hm, (arc_spec hl h1).2]
theorem Inv.cut (h : Inv l pr σ F mk g L P B K) {s i : Int} (hi : 0 ≤ i ∧ i < l.lev) (hP : P i s) {k : Nat} (hk : 560 < k) :
    ∃ r σ' F' mk', Go.Tm.cut l p k σ i s = some (r, σ') ∧ Inv l pr σ' F' mk' g L (fun j q => P j q ∧ ¬ (j = i ∧ q = s)) B (fun q j => if q = s ∧ j = i then False else K q j) ∧ ¬ Conn (fun q => P i q ∧ q ≠ s) g.u g.v (g.u s) (g.v s) := by
  have hh := h.ph i s hP
  obtain ⟨hu, hv, h0, h1⟩ := h.okuv hl hh hi
  have hT := h.tours i hi
  have hF := h.lm.forest
  have n0 := (arc_spec hl h0).1
  have n1 := (arc_spec hl h1).1
  have n01 : l.arc s i 0 ≠ l.arc s i 1 := fun he => by have := ((arc_inj hl h0 h1).1 he).2.2; omega
  have m0 := hF.mem _ n0
  have m1 : l.arc s i 1 ∈ (F (l.arc s i 0)).list := by rw [← (hT.arcs s hP).1]; exact hF.mem _ n1
  obtain ⟨e1, e2, A, Bm, C, he, hL⟩ : ∃ e1 e2 A Bm C, ((e1 = l.arc s i 0 ∧ e2 = l.arc s i 1) ∨ (e1 = l.arc s i 1 ∧ e2 = l.arc s i 0)) ∧ (F (l.arc s i 0)).list = A ++ e1 :: (Bm ++ e2 :: C) := by
    obtain ⟨X, Y, hXY⟩ := List.append_of_mem m0
    rw [hXY] at m1
    rcases List.mem_append.1 m1 with hm | hm
    · obtain ⟨X1, X2, hX⟩ := List.append_of_mem hm
      exact ⟨_, _, X1, X2, Y, .inr ⟨rfl, rfl⟩, by rw [hXY, hX]; simp⟩
    · rcases List.mem_cons.1 hm with hm | hm
      · exact absurd hm.symm n01
      · obtain ⟨Y1, Y2, hY⟩ := List.append_of_mem hm
        exact ⟨_, _, X, Y1, Y2, .inl ⟨rfl, rfl⟩, by rw [hXY, hY]⟩
  obtain ⟨r, σ', F', ti, to, e, li, lo, hF', tti, tto, l0, l1, hn, hfr⟩ := hF.cut hl hp h0 h1 he hL hk
  obtain ⟨hT', hne⟩ := hT.cut hl hi hF hF' hP he hL li lo tti tto l0 l1 hn
  have mkv : ∀ y, y ≠ l.arc s i 0 → y ≠ l.arc s i 1 → updM (updM mk (l.arc s i 0) 0) (l.arc s i 1) 0 y = mk y := fun y h h' => by rw [updM_ne h', updM_ne h]
  have z0 : bitM 0 0 = false ∧ bitM 0 1 = false := ⟨bitM_zero (.inl rfl), bitM_zero (.inr rfl)⟩
  refine ⟨r, σ', F', _, e, ⟨⟨hF', h.lm.lists.congr hl fun j hj => hfr.low hl (isL_low hl hj).2, fun j w hw => ?_, fun q j hq => ?_, fun q j hq => ?_⟩, h.edges.congr hl fun j hj => hfr.low hl (isE_low hl hj).2, h.mem, h.bh, fun j q hq => h.ph j q hq.1, fun j hj => ?_⟩, fun hc => hne ((hT'.row_iff hl hi hu hv).2 hc)⟩
  · rw [mkv _ (vertex_arc hl hw h0) (vertex_arc hl hw h1)]; exact h.lm.mv j w hw
  · by_cases hc : q = s ∧ j = i
    · obtain ⟨rfl, rfl⟩ := hc
      rw [updM_ne n01, updM_eq, if_pos ⟨rfl, rfl⟩, z0.1, z0.2]
      exact ⟨rfl, by simp⟩
    · rw [if_neg hc, mkv _ (fun hx => hc (by have := (arc_inj hl hq h0).1 hx; exact ⟨this.1, this.2.1⟩)) (fun hx => by have := ((arc_inj hl hq h1).1 hx).2.2; omega)]; exact h.lm.ma q j hq
  · by_cases hc : q = s ∧ j = i
    · obtain ⟨rfl, rfl⟩ := hc
      rw [updM_eq]; exact z0
    · rw [mkv _ (fun hx => by have := ((arc_inj hl hq h0).1 hx).2.2; omega) (fun hx => hc (by have := (arc_inj hl hq h1).1 hx; exact ⟨this.1, this.2.1⟩))]; exact h.lm.mb q j hq
  · by_cases hji : j = i
    · subst hji
      exact hT'.iff hl fun q => by simp
    · refine ((h.tours j hj).congr hl hj fun y hy hyl => hn y fun hm => hji ?_).iff hl fun q => by simp [hji]
      rw [← hyl]
      exact hT.lev _ n0 (by rw [(arc_spec hl h0).2]) y (by rw [hL]; exact hm)
end
end Go.Tm

namespace Go.Tm
open MemLike Eng
set_option linter.unusedSectionVars false
set_option linter.unusedVariables false
theorem Conn.ends {P : Int → Prop} {eu ev eu' ev' : Int → Int} {u v : Int} (c : Conn P eu' ev' u v) (h : ∀ q, P q → eu' q = eu q ∧ ev' q = ev q) : Conn P eu ev u v := by
  induction c with
  | refl => exact .refl _
  | step _ q hq he ih => rw [(h q hq).1, (h q hq).2] at he; exact .step ih q hq he
section
variable {l : Lay} (hl : l.Ok) {p : Pen} (hp : PenOk p) {mk : Int → Int} {pr : Int → Int} {σ σ' : M} {F : Int → T} {L : Int → Int → List Int} {g g' : G} {P P' : Int → Int → Prop} {B B' : Int → Prop} {K K' : Int → Int → Prop}
include hl
theorem Inv.iff (h : Inv l pr σ F mk g L P B K) (hP : ∀ i s, 0 ≤ i ∧ i < l.lev → (P i s ↔ P' i s)) (hph : ∀ i s, P' i s → g.has s = true) (hB : ∀ s, B s ↔ B' s) (hK : ∀ s i, l.okA s i 0 → (K s i ↔ K' s i)) : Inv l pr σ F mk g L P' B' K' :=
  ⟨⟨h.lm.forest, h.lm.lists, h.lm.mv, fun s i hs => ⟨(h.lm.ma s i hs).1, (h.lm.ma s i hs).2.trans (hK s i hs)⟩, h.lm.mb⟩, h.edges, fun i v hv y => by
    rw [h.mem i v hv y]
    constructor
    · rintro ⟨s, d, h1, h2, h3, h4⟩; exact ⟨s, d, h1, h2, (hB s).1 h3, h4⟩
    · rintro ⟨s, d, h1, h2, h3, h4⟩; exact ⟨s, d, h1, h2, (hB s).2 h3, h4⟩, fun s hs => h.bh s ((hB s).2 hs), hph, fun i hi => (h.tours i hi).iff hl fun s => hP i s hi⟩
theorem Conn.iff {P Q : Int → Prop} {eu ev : Int → Int} {u v : Int} (h : ∀ s, P s ↔ Q s) : Conn P eu ev u v ↔ Conn Q eu ev u v := ⟨fun c => c.mono fun s hs => (h s).1 hs, fun c => c.mono fun s hs => (h s).2 hs⟩
theorem Tour.bridge {i : Int} {Pi : Int → Prop} {eu ev : Int → Int} (hi : 0 ≤ i ∧ i < l.lev) (hF : Forest l pr mk σ F) (hT : Tour l F i Pi eu ev) {s : Int} (hs : Pi s) : ¬ Conn (fun q => Pi q ∧ q ≠ s) eu ev (eu s) (ev s) := by
  have key : ∀ {a b}, Conn (fun q => Pi q ∧ q ≠ s) eu ev a b → F (l.vertex i a) = F (l.arc s i 0) → F (l.vertex i b) = F (l.arc s i 0) ∧ inn (F (l.arc s i 0)).list (l.arc s i 0) (l.arc s i 1) (l.vertex i b) = inn (F (l.arc s i 0)).list (l.arc s i 0) (l.arc s i 1) (l.vertex i a) := by
    intro a b h ha
    induction h with
    | refl => exact ⟨ha, rfl⟩
    | @step w x hw q hq hex ih =>
      obtain ⟨ih1, ih2⟩ := ih
      obtain ⟨_, a2, a3⟩ := hT.arcs q hq.1
      have hFq : F (l.arc q i 0) = F (l.arc s i 0) := by rcases hex with ⟨e, _⟩ | ⟨e, _⟩ <;> rw [← e] at ih1; exact a2.symm.trans ih1; exact a3.symm.trans ih1
      have z1 := hT.sep s q hs hq.1 (Ne.symm hq.2) hFq _ (.inr (.inl rfl))
      have z2 := hT.sep s q hs hq.1 (Ne.symm hq.2) hFq _ (.inr (.inr rfl))
      rw [← ih2]
      rcases hex with ⟨e, e'⟩ | ⟨e, e'⟩ <;> rw [← e, ← e']
      · exact ⟨a3.trans hFq, z2.trans z1.symm⟩
      · exact ⟨a2.trans hFq, z1.trans z2.symm⟩
  intro h
  have := (key h (hT.arcs s hs).2.1).2
  rw [hT.cross s hs] at this
  cases hx : inn (F (l.arc s i 0)).list (l.arc s i 0) (l.arc s i 1) (l.vertex i (eu s)) <;> rw [hx] at this <;> cases this
include hp
theorem plantL_spec {s : Int} (hh : g.has s = true) {m : Nat} (hm : 560 < m) {n : Int} (hn : n ≤ l.lev) : ∀ (j k : Nat) (i : Int) {σ : M} {F : Int → T}, i + j = n → 0 ≤ i → j < k → Inv l pr σ F mk g L (fun a q => P a q ∨ (q = s ∧ 0 ≤ a ∧ a < i)) B K → (∀ a, i ≤ a → a < n → ¬ P a s ∧ ¬ Conn (P a) g.u g.v (g.u s) (g.v s)) →
    ∃ σ' F', plantL l p s (g.u s) (g.v s) k m σ i n = some σ' ∧ Inv l pr σ' F' mk g L (fun a q => P a q ∨ (q = s ∧ 0 ≤ a ∧ a < n)) B K := by
  intro j
  induction j with
  | zero =>
    intro k i σ F hij h0 hk h hc
    obtain ⟨k, rfl⟩ : ∃ q, k = q + 1 := ⟨k - 1, by omega⟩
    have : i = n := by omega
    subst this
    exact ⟨σ, F, by rw [plantL, if_neg (by omega)], h⟩
  | succ j ih =>
    intro k i σ F hij h0 hk h hc
    obtain ⟨k, rfl⟩ : ∃ q, k = q + 1 := ⟨k - 1, by omega⟩
    have hin : i < n := by omega
    have lb := lev_b hl
    obtain ⟨c1, c2⟩ := hc i (Int.le_refl _) hin
    obtain ⟨r, σ1, F1, e, h1⟩ := h.link hl hp (s := s) (i := i) ⟨h0, by omega⟩ hh (fun hq => by rcases hq with hq | hq; exact c1 hq; omega) (fun hq => c2 (hq.mono fun q hq => by rcases hq with hq | hq; exact hq; omega)) hm
    obtain ⟨σ2, F2, e2, h2⟩ := ih k (i + 1) (by omega) (by omega) (by omega) (h1.iff hl (P' := fun a q => P a q ∨ (q = s ∧ 0 ≤ a ∧ a < i + 1)) (fun a q ha => by
        constructor
        · rintro ((hq | hq) | hq)
          · exact .inl hq
          · exact .inr ⟨hq.1, hq.2.1, by omega⟩
          · exact .inr ⟨hq.2, by omega, by omega⟩
        · rintro (hq | hq)
          · exact .inl (.inl hq)
          · by_cases hai : a < i
            · exact .inl (.inr ⟨hq.1, hq.2.1, hai⟩)
            · exact .inr ⟨by omega, hq.1⟩) (fun a q hq => by rcases hq with hq | hq; exact h1.ph a q (.inl (.inl hq)); rw [hq.1]; exact hh) (fun _ => .rfl) (fun _ _ _ => .rfl)) (fun a ha ha' => hc a (by omega) ha')
    refine ⟨σ2, F2, ?_, h2⟩
    rw [plantL, if_pos hin, e, Option.bind_some]
    dsimp only
    rw [wrapI (by omega)]
    exact e2
theorem Inv.plant (h : Inv l pr σ F mk g L P B K) {s : Int} (hh : g.has s = true) (hc : ∀ a, 0 ≤ a → a ≤ g.lv s → ¬ P a s ∧ ¬ Conn (P a) g.u g.v (g.u s) (g.v s)) {k : Nat} (hk : 560 < k) :
    ∃ σ' F' mk', Go.Tm.plant l p k σ s = some σ' ∧ Inv l pr σ' F' mk' (g.turn s true) L (fun a q => P a q ∨ (q = s ∧ 0 ≤ a ∧ a ≤ g.lv s)) B (fun q j => if q = s ∧ j = g.lv s then True else K q j) := by
  obtain ⟨r1, r2, r3⟩ := h.edges.rng s hh
  have lb := lev_b hl
  obtain ⟨e1, e2⟩ := eget_eq hl h.edges hh
  have ht := h.turn hl (s := s) (t := true) hh
  unfold Go.Tm.plant
  dsimp only
  rw [e1, e2]
  dsimp only
  rw [wrapI (by omega)]
  have ht' : Inv l pr (eturn l σ s true) F mk (g.turn s true) L (fun a q => P a q ∨ (q = s ∧ 0 ≤ a ∧ a < 0)) B K := ht.iff hl (fun a q _ => by constructor; exact .inl; rintro (hq | hq); exact hq; omega) (fun a q hq => by rcases hq with hq | hq; exact ht.ph a q hq; omega) (fun _ => .rfl) (fun _ _ _ => .rfl)
  obtain ⟨σ1, F1, e3, h1⟩ := plantL_spec hl hp (g := g.turn s true) (s := s) hh hk (n := g.lv s + 1) (by omega) (g.lv s + 1).toNat k 0 (by omega) (by omega) (by omega) ht' (fun a ha ha' => hc a ha (by omega))
  rw [show plantL l p s (g.u s) (g.v s) k k (eturn l σ s true) 0 (g.lv s + 1) = some σ1 from e3, Option.bind_some]
  obtain ⟨σ2, mk2, e4, h2⟩ := h1.lmark hl (s := s) (i := g.lv s) ⟨r1, r3, by omega⟩ true hk
  refine ⟨σ2, F1, mk2, e4, h2.iff hl (fun a q _ => by
    constructor
    · rintro (hq | hq); exact .inl hq; exact .inr ⟨hq.1, hq.2.1, by omega⟩
    · rintro (hq | hq); exact .inl hq; exact .inr ⟨hq.1, hq.2.1, by omega⟩) (fun a q hq => by rcases hq with hq | hq; exact h.ph a q hq; rw [hq.1]; exact hh) (fun _ => .rfl) (fun q j _ => by split <;> simp)⟩
theorem fellL_spec {s : Int} {m : Nat} (hm : 560 < m) {n : Int} (hn : n ≤ l.lev) : ∀ (j k : Nat) (i : Int) {σ : M} {F : Int → T} {mk : Int → Int} {K : Int → Int → Prop}, i + j = n → 0 ≤ i → j < k → Inv l pr σ F mk g L (fun a q => P a q ∧ ¬ (q = s ∧ 0 ≤ a ∧ a < i)) B K → (∀ a, 0 ≤ a → a < n → P a s) →
    ∃ σ' F' mk', fellL l p s k m σ i n = some σ' ∧ Inv l pr σ' F' mk' g L (fun a q => P a q ∧ ¬ (q = s ∧ 0 ≤ a ∧ a < n)) B (fun q a => if q = s ∧ i ≤ a ∧ a < n then False else K q a) := by
  intro j
  induction j with
  | zero =>
    intro k i σ F mk K hij h0 hk h hc
    obtain ⟨k, rfl⟩ : ∃ q, k = q + 1 := ⟨k - 1, by omega⟩
    have : i = n := by omega
    subst this
    exact ⟨σ, F, mk, by rw [fellL, if_neg (by omega)], h.iff hl (fun _ _ _ => .rfl) h.ph (fun _ => .rfl) (fun q a _ => by rw [if_neg (by omega)])⟩
  | succ j ih =>
    intro k i σ F mk K hij h0 hk h hc
    obtain ⟨k, rfl⟩ : ∃ q, k = q + 1 := ⟨k - 1, by omega⟩
    have hin : i < n := by omega
    have lb := lev_b hl
    obtain ⟨r, σ1, F1, mk1, e, h1, _⟩ := h.cut hl hp (s := s) (i := i) ⟨h0, by omega⟩ ⟨hc i h0 hin, by omega⟩ hm
    obtain ⟨σ2, F2, mk2, e2, h2⟩ := ih k (i + 1) (by omega) (by omega) (by omega) (h1.iff hl (P' := fun a q => P a q ∧ ¬ (q = s ∧ 0 ≤ a ∧ a < i + 1)) (fun a q ha => by
        constructor
        · rintro ⟨⟨q1, q2⟩, q3⟩
          exact ⟨q1, fun hq => by
            by_cases hai : a = i
            · exact q3 ⟨hai, hq.1⟩
            · exact q2 ⟨hq.1, hq.2.1, by omega⟩⟩
        · rintro ⟨q1, q2⟩
          exact ⟨⟨q1, fun hq => q2 ⟨hq.1, hq.2.1, by omega⟩⟩, fun hq => q2 ⟨hq.2, by omega, by omega⟩⟩) (fun a q hq => h.ph a q ⟨hq.1, fun hq' => hq.2 ⟨hq'.1, hq'.2.1, by omega⟩⟩) (fun _ => .rfl) (fun _ _ _ => .rfl)) (fun a ha ha' => hc a ha ha')
    refine ⟨σ2, F2, mk2, ?_, h2.iff hl (fun _ _ _ => .rfl) h2.ph (fun _ => .rfl) (fun q a _ => ?_)⟩
    · rw [fellL, if_pos hin, e, Option.bind_some]
      dsimp only
      rw [wrapI (by omega)]
      exact e2
    · by_cases c1 : q = s ∧ i ≤ a ∧ a < n
      · rw [if_pos c1]
        by_cases c2 : q = s ∧ i + 1 ≤ a ∧ a < n
        · rw [if_pos c2]
        · rw [if_neg c2, if_pos ⟨c1.1, by omega⟩]
      · rw [if_neg c1, if_neg (fun hc => c1 ⟨hc.1, by omega, hc.2.2⟩), if_neg (fun hc => c1 ⟨hc.1, by omega, by omega⟩)]
theorem Inv.fell (h : Inv l pr σ F mk g L P B K) {s : Int} (hh : g.has s = true) (hc : ∀ a, 0 ≤ a → a ≤ g.lv s → P a s) {k : Nat} (hk : 560 < k) :
    ∃ σ' F' mk', Go.Tm.fell l p k σ s = some σ' ∧ Inv l pr σ' F' mk' g L (fun a q => P a q ∧ ¬ (q = s ∧ 0 ≤ a ∧ a ≤ g.lv s)) B (fun q a => if q = s ∧ 0 ≤ a ∧ a ≤ g.lv s then False else K q a) := by
  obtain ⟨r1, r2, r3⟩ := h.edges.rng s hh
  have lb := lev_b hl
  obtain ⟨e1, e2⟩ := eget_eq hl h.edges hh
  unfold Go.Tm.fell
  rw [e1, e2]
  dsimp only
  rw [wrapI (by omega)]
  obtain ⟨σ1, F1, mk1, e3, h1⟩ := fellL_spec hl hp (s := s) hk (n := g.lv s + 1) (by omega) (g.lv s + 1).toNat k 0 (by omega) (by omega) (by omega) (h.iff hl (P' := fun a q => P a q ∧ ¬ (q = s ∧ 0 ≤ a ∧ a < 0)) (fun a q _ => ⟨fun hq => ⟨hq, by omega⟩, fun hq => hq.1⟩) (fun a q hq => h.ph a q hq.1) (fun _ => .rfl) (fun _ _ _ => .rfl)) (fun a ha ha' => hc a ha (by omega))
  exact ⟨σ1, F1, mk1, e3, h1.iff hl (fun a q _ => ⟨fun hq => ⟨hq.1, fun hq' => hq.2 ⟨hq'.1, hq'.2.1, by omega⟩⟩, fun hq => ⟨hq.1, fun hq' => hq.2 ⟨hq'.1, hq'.2.1, by omega⟩⟩⟩) (fun a q hq => h.ph a q hq.1) (fun _ => .rfl)
    (fun q a _ => by
      by_cases c : q = s ∧ 0 ≤ a ∧ a < g.lv s + 1
      · rw [if_pos c, if_pos ⟨c.1, c.2.1, by omega⟩]
      · rw [if_neg c, if_neg (fun hc => c ⟨hc.1, hc.2.1, by omega⟩)])⟩
def Pg (g : G) (i s : Int) : Prop := g.has s = true ∧ g.tr s = true ∧ i ≤ g.lv s
def Bg (g : G) (s : Int) : Prop := g.has s = true ∧ g.tr s = false
def Kg (g : G) (s i : Int) : Prop := g.has s = true ∧ g.tr s = true ∧ g.lv s = i
def Right (l : Lay) (pr : Int → Int) (σ : M) (g : G) : Prop := ∃ F mk L, Inv l pr σ F mk g L (Pg g) (Bg g) (Kg g)
def Jn (g : G) (i u v : Int) : Prop := Conn (Pg g i) g.u g.v u v
theorem Right.fell_del (h : Right l pr σ g) {s : Int} (hh : g.has s = true) (ht : g.tr s = true) {k : Nat} (hk : 560 < k) : ∃ σ', Go.Tm.fell l p k σ s = some σ' ∧ Right l pr (eremove l σ' (g.u s) (g.v s)) (g.del s) := by
  obtain ⟨F, mk, L, h⟩ := h
  obtain ⟨σ', F', mk', e, h1⟩ := h.fell hl hp hh (fun a _ ha => ⟨hh, ht, ha⟩) hk
  have hr := h.edges.rng s hh
  have h2 := (h1.iff hl (P' := Pg (g.del s)) (B' := Bg (g.del s)) (K' := Kg (g.del s)) (fun a q ha => ?_) (fun a q hq => ?_) (fun q => ?_) (fun q a hq => ?_)).del hl hh ?_ ?_
  · exact ⟨σ', e, F', mk', L, h2⟩
  · unfold Pg G.del updB
    dsimp only
    by_cases hq : q = s
    · subst hq; rw [if_pos rfl]
      constructor
      · rintro ⟨⟨_, _, q1⟩, q2⟩; exact absurd ⟨rfl, ha.1, q1⟩ q2
      · rintro ⟨q1, _⟩; cases q1
    · rw [if_neg hq]; exact ⟨fun q1 => q1.1, fun q1 => ⟨q1, fun q2 => hq q2.1⟩⟩
  · unfold Pg G.del updB at hq
    dsimp only at hq
    split at hq
    · cases hq.1
    · exact hq.1
  · unfold Bg G.del updB
    dsimp only
    by_cases hq : q = s
    · subst hq; rw [if_pos rfl, ht]; simp
    · rw [if_neg hq]
  · unfold Kg G.del updB
    dsimp only
    by_cases hq' : q = s
    · subst hq'; rw [if_pos rfl]
      constructor
      · intro hx
        split at hx
        · cases hx
        · rename_i hc; exact absurd ⟨rfl, hq.2.1.1, by rw [hx.2.2]; exact Int.le_refl _⟩ hc
      · rintro ⟨q1, _⟩; cases q1
    · rw [if_neg hq', if_neg (fun hc => hq' hc.1)]
  · unfold Bg G.del updB; dsimp only; rw [if_pos rfl]; simp
  · intro i; unfold Pg G.del updB; dsimp only; rw [if_pos rfl]; simp
omit hp in
theorem Right.remove_del (h : Right l pr σ g) {s : Int} (hh : g.has s = true) (ht : g.tr s = false) {k : Nat} (hk : 560 < k) : ∃ σ', Go.Tm.remove l k σ s = some σ' ∧ Right l pr (eremove l σ' (g.u s) (g.v s)) (g.del s) := by
  obtain ⟨F, mk, L, h⟩ := h
  obtain ⟨σ', mk', L', e, h1⟩ := h.remove hl ⟨hh, ht⟩ hk
  have h2 := (h1.iff hl (P' := Pg (g.del s)) (B' := Bg (g.del s)) (K' := Kg (g.del s)) (fun a q ha => ?_) (fun a q hq => ?_) (fun q => ?_) (fun q a hq => ?_)).del hl hh ?_ ?_
  · exact ⟨σ', e, F, mk', L', h2⟩
  · unfold Pg G.del updB
    dsimp only
    by_cases hq : q = s
    · subst hq; rw [if_pos rfl, ht]; simp
    · rw [if_neg hq]
  · unfold Pg G.del updB at hq
    dsimp only at hq
    split at hq
    · cases hq.1
    · exact hq.1
  · unfold Bg G.del updB
    dsimp only
    by_cases hq : q = s
    · subst hq; rw [if_pos rfl]; simp
    · rw [if_neg hq]; exact ⟨fun q1 => q1.1, fun q1 => ⟨q1, hq⟩⟩
  · unfold Kg G.del updB
    dsimp only
    by_cases hq' : q = s
    · subst hq'; rw [if_pos rfl, ht]; simp
    · rw [if_neg hq']
  · unfold Bg G.del updB; dsimp only; rw [if_pos rfl]; simp
  · intro i; unfold Pg G.del updB; dsimp only; rw [if_pos rfl]; simp
theorem Right.put_add (h : Right l pr σ g) {s a b : Int} (hsr : 0 ≤ s ∧ s < l.S) (ha : 0 ≤ min a b) (hab : min a b < max a b) (hb : max a b < l.V) (hno : g.has s = false) (hfree : ∀ s, g.has s = true → ¬ (g.u s = min a b ∧ g.v s = max a b)) {k : Nat} (hk : 560 < k) :
    ∃ σ', Go.Tm.add l k (eput l σ s a b 0 false) s = some σ' ∧ Right l pr σ' (g.put s (min a b) (max a b) 0 false) := by
  obtain ⟨F, mk, L, h⟩ := h
  have lb := lev_b hl
  have h1 := h.put hl (t := false) hsr ha hab hb (i := 0) (by omega) hno hfree
  have hh : (g.put s (min a b) (max a b) 0 false).has s = true := by unfold G.put updB; simp
  obtain ⟨σ', mk', L', e, h2⟩ := h1.add hl hh (fun hB => by rw [hB.1] at hno; cases hno) hk
  refine ⟨σ', e, F, mk', L', h2.iff hl (fun i q hi => ?_) (fun i q hq => hq.1) (fun q => ?_) (fun q i hq => ?_)⟩
  · unfold Pg G.put updB updI; dsimp only
    by_cases hq : q = s
    · subst hq; simp [hno]
    · simp [hq]
  · unfold Bg G.put updB updI; dsimp only
    by_cases hq : q = s
    · subst hq; simp
    · simp [hq]
  · unfold Kg G.put updB updI; dsimp only
    by_cases hq' : q = s
    · subst hq'; simp [hno]
    · simp [hq']
theorem Right.put_plant (h : Right l pr σ g) {s a b : Int} (hsr : 0 ≤ s ∧ s < l.S) (ha : 0 ≤ min a b) (hab : min a b < max a b) (hb : max a b < l.V) (hno : g.has s = false) (hfree : ∀ s, g.has s = true → ¬ (g.u s = min a b ∧ g.v s = max a b)) (hj : ¬ Jn g 0 (min a b) (max a b)) {k : Nat} (hk : 560 < k) :
    ∃ σ', Go.Tm.plant l p k (eput l σ s a b 0 false) s = some σ' ∧ Right l pr σ' (g.put s (min a b) (max a b) 0 true) := by
  obtain ⟨F, mk, L, h⟩ := h
  have lb := lev_b hl
  have h1 := h.put hl (t := false) hsr ha hab hb (i := 0) (by omega) hno hfree
  have hh : (g.put s (min a b) (max a b) 0 false).has s = true := by unfold G.put updB; simp
  have eu : (g.put s (min a b) (max a b) 0 false).u s = min a b := by unfold G.put updI; simp
  have ev : (g.put s (min a b) (max a b) 0 false).v s = max a b := by unfold G.put updI; simp
  have el : (g.put s (min a b) (max a b) 0 false).lv s = 0 := by unfold G.put updI; simp
  obtain ⟨σ', F', mk', e, h2⟩ := h1.plant hl hp hh (fun i hi hi' => by
    rw [el] at hi'
    have : i = 0 := by omega
    subst this
    refine ⟨fun hP => (by rw [hP.1] at hno; cases hno), fun hc => hj ?_⟩
    rw [eu, ev] at hc
    exact hc.ends fun q hq => by
      have hqs : q ≠ s := fun hqs => by rw [hqs] at hq; rw [hq.1] at hno; cases hno
      unfold G.put updI; simp [hqs]) hk
  have hg : (g.put s (min a b) (max a b) 0 false).turn s true = g.put s (min a b) (max a b) 0 true := by
    unfold G.put G.turn updB updI
    simp only [G.mk.injEq, true_and]
    funext q
    by_cases hq : q = s <;> simp [hq]
  rw [hg, el] at h2
  refine ⟨σ', e, F', mk', L, h2.iff hl (fun i q hi => ?_) (fun i q hq => hq.1) (fun q => ?_) (fun q i hq => ?_)⟩
  · unfold Pg G.put updB updI; dsimp only
    by_cases hq : q = s
    · subst hq; simp [hno]; omega
    · simp [hq]
  · unfold Bg G.put updB updI; dsimp only
    by_cases hq : q = s
    · subst hq; simp [hno]
    · simp [hq]
  · unfold Kg G.put updB updI; dsimp only
    by_cases hq' : q = s
    · subst hq'
      by_cases hi : i = 0
      · simp [hi]
      · simp [hi, hno]; omega
    · simp [hq']
end
end Go.Tm

namespace Go.Tm
open MemLike Eng
set_option linter.unusedSectionVars false
set_option linter.unusedVariables false
theorem countP_lt {α : Type} {p q : α → Bool} : ∀ {r : List α} {s : α}, (∀ x ∈ r, q x = true → p x = true) → s ∈ r → p s = true → q s = false → r.countP q < r.countP p
  | x :: r, s, h, hs, hp, hq => by
    have hle : r.countP q ≤ r.countP p := List.countP_mono_left fun y hy => h y (by simp [hy])
    rw [List.countP_cons, List.countP_cons]
    rcases List.mem_cons.1 hs with rfl | hs
    · rw [hp, hq]; simp; omega
    · have := countP_lt (fun y hy => h y (by simp [hy])) hs hp hq
      have hx := h x (by simp)
      cases h1 : q x
      · simp; omega
      · rw [hx h1]; simp; omega
theorem countP_one {α : Type} {p q : α → Bool} : ∀ {r : List α} {s : α}, (∀ x ∈ r, x ≠ s → q x = p x) → s ∈ r → p s = false → q s = true → r.Nodup → r.countP q = r.countP p + 1
  | x :: r, s, h, hs, hp, hq, hnd => by
    obtain ⟨n1, n2⟩ := List.nodup_cons.1 hnd
    rw [List.countP_cons, List.countP_cons]
    rcases List.mem_cons.1 hs with rfl | hs
    · have : r.countP q = r.countP p := List.countP_congr fun y hy => by rw [h y (by simp [hy]) fun he => n1 (he ▸ hy)]
      rw [hp, hq, this]; simp
    · have := countP_one (fun y hy => h y (by simp [hy])) hs hp hq n2
      rw [h x (by simp) fun he => n1 (he ▸ hs), this]; omega
section
variable {l : Lay} (hl : l.Ok) {p : Pen} (hp : PenOk p) {mk : Int → Int} {pr : Int → Int} {σ σ' : M} {F : Int → T} {L : Int → Int → List Int} {g g' : G}
include hl
theorem Right.rng (h : Right l pr σ g) {s : Int} (hh : g.has s = true) : (0 ≤ s ∧ s < l.S) ∧ (0 ≤ g.u s ∧ g.u s < g.v s ∧ g.v s < l.V) ∧ 0 ≤ g.lv s ∧ g.lv s < l.lev := by
  obtain ⟨F, mk, L, h⟩ := h; exact h.edges.rng s hh
theorem Right.eget (h : Right l pr σ g) {s : Int} (hh : g.has s = true) : Go.Tm.eget l σ s = ⟨g.u s, g.v s, g.lv s, g.tr s⟩ := by
  obtain ⟨F, mk, L, h⟩ := h; exact (eget_eq hl h.edges hh).1
omit hl in
theorem Jn.symm {i u v : Int} (h : Jn g i u v) : Jn g i v u := Conn.symm h
theorem Right.same (h : Right l pr σ g) {i u v : Int} (hu : l.okV i u) (hv : l.okV i v) {k : Nat} (hk : 560 < k) : ∃ b, Go.Tm.same l k σ i u v = some (b, σ) ∧ (b = true ↔ Jn g i u v) := by
  obtain ⟨F, mk, L, h⟩ := h
  obtain ⟨b, e, hb⟩ := h.lm.forest.same hl hu hv hk
  exact ⟨b, e, hb.trans ((h.tours i hu.1).row_iff hl hu.1 hu hv)⟩
theorem Right.first1 (h : Right l pr σ g) {i v : Int} (hv : l.okV i v) {k : Nat} (hk : 560 < k) : ∃ x, lfirst l k σ i v 1 = some (x, σ) ∧
    ((x = 0 ∧ ∀ s, g.has s = true → g.tr s = true → g.lv s = i → ¬ Jn g i v (g.u s)) ∨ (x ≠ 0 ∧ ∃ s, (l.node x).1.slot = s ∧ g.has s = true ∧ g.tr s = true ∧ g.lv s = i ∧ Jn g i v (g.u s))) := by
  obtain ⟨F, mk, L, h⟩ := h
  have hF := h.lm.forest
  have hT := h.tours i hv.1
  have nv := (vertex_spec hl hv).1
  have lv : (l.node (l.vertex i v)).1.level = i := by rw [(vertex_spec hl hv).2.1]
  refine ⟨_, hF.lfirst hl hv hk (.inr rfl), ?_⟩
  cases hf : (F (l.vertex i v)).list.find? (fun x => bitM (mk x) 1) with
  | none =>
    refine .inl ⟨rfl, fun s hs ht hls hj => ?_⟩
    rw [List.find?_eq_none] at hf
    obtain ⟨hu, hw, h0, h1⟩ := h.okuv hl hs hv.1
    have hP : Pg g i s := ⟨hs, ht, by omega⟩
    have hFF := (hT.row_iff hl hv.1 hv hu).2 hj
    have hm : l.arc s i 0 ∈ (F (l.vertex i v)).list := by
      rw [hFF, (hT.arcs s hP).2.1]; exact hF.mem _ (arc_spec hl h0).1
    exact hf _ hm ((h.lm.ma s i h0).2.2 ⟨hs, ht, hls⟩)
  | some x =>
    have hx := List.mem_of_find?_eq_some hf
    have hb := List.find?_some (p := fun x => bitM (mk x) 1) hf
    have nx := (hF.rep _ nv).nd x hx
    have lx := hT.lev _ nv lv x hx
    right
    simp only [Option.getD_some]
    refine ⟨by unfold Lay.nd at nx; omega, ?_⟩
    rcases nd_cases hl nx with ⟨j, w, hw, rfl⟩ | ⟨s, j, d, hs, rfl⟩
    · have := (h.lm.mv j w hw).2; rw [hb] at this; cases this
    · rw [(arc_spec hl hs).2] at lx
      have hji : j = i := lx
      subst hji
      have hd : d = 0 ∨ d = 1 := by have := hs.2.2; omega
      rcases hd with rfl | rfl
      · obtain ⟨k1, k2, k3⟩ := (h.lm.ma s j hs).2.1 hb
        refine ⟨s, by rw [(arc_spec hl hs).2], k1, k2, k3, ?_⟩
        have hP : Pg g j s := ⟨k1, k2, by omega⟩
        refine (hT.row_iff hl hv.1 hv (h.okuv hl k1 hv.1).1).1 ?_
        rw [(hT.arcs s hP).2.1]
        exact (hF.cls _ nv _ hx).symm
      · have := (h.lm.mb s j hs).2; rw [hb] at this; cases this
theorem Right.first0 (h : Right l pr σ g) {i v : Int} (hv : l.okV i v) {k : Nat} (hk : 560 < k) : ∃ x, lfirst l k σ i v 0 = some (x, σ) ∧
    ((x = 0 ∧ ∀ s, g.has s = true → g.tr s = false → g.lv s = i → ¬ Jn g i v (g.u s) ∧ ¬ Jn g i v (g.v s)) ∨
     (x ≠ 0 ∧ ∃ w s, (l.node x).1.vertex = w ∧ afirst l σ w i = (s, true) ∧ g.has s = true ∧ g.tr s = false ∧ g.lv s = i ∧ (g.u s = w ∨ g.v s = w) ∧ Jn g i v w)) := by
  obtain ⟨F, mk, L, h⟩ := h
  have hF := h.lm.forest
  have hT := h.tours i hv.1
  have nv := (vertex_spec hl hv).1
  have lv : (l.node (l.vertex i v)).1.level = i := by rw [(vertex_spec hl hv).2.1]
  refine ⟨_, hF.lfirst hl hv hk (.inl rfl), ?_⟩
  cases hf : (F (l.vertex i v)).list.find? (fun x => bitM (mk x) 0) with
  | none =>
    refine .inl ⟨rfl, fun s hs ht hls => ?_⟩
    rw [List.find?_eq_none] at hf
    obtain ⟨hu, hw, h0, h1⟩ := h.okuv hl hs hv.1
    have key : ∀ w, l.okV i w → (∃ d : Int, (d = 0 ∨ d = 1) ∧ (if d = 0 then g.u s else g.v s) = w) → ¬ Jn g i v w := fun w hw ⟨d, hd, he⟩ hj => by
      have hFF := (hT.row_iff hl hv.1 hv hw).2 hj
      have hm : l.vertex i w ∈ (F (l.vertex i v)).list := by rw [hFF]; exact hF.mem _ (vertex_spec hl hw).1
      have hL : 2 * s + d + 1 ∈ L w i := (h.mem i w hw _).2 ⟨s, d, rfl, hd, ⟨hs, ht⟩, hls, he⟩
      exact hf _ hm (by rw [(h.lm.mv i w hw).1, decide_eq_true]; intro hn; rw [hn] at hL; cases hL)
    exact ⟨key _ hu ⟨0, .inl rfl, if_pos rfl⟩, key _ hw ⟨1, .inr rfl, if_neg (by decide)⟩⟩
  | some x =>
    have hx := List.mem_of_find?_eq_some hf
    have hb := List.find?_some (p := fun x => bitM (mk x) 0) hf
    have nx := (hF.rep _ nv).nd x hx
    have lx := hT.lev _ nv lv x hx
    right
    simp only [Option.getD_some]
    refine ⟨by unfold Lay.nd at nx; omega, ?_⟩
    rcases nd_cases hl nx with ⟨j, w, hw, rfl⟩ | ⟨s, j, d, hs, rfl⟩
    · rw [(vertex_spec hl hw).2.1] at lx
      have hji : j = i := lx
      subst hji
      have hne : L w j ≠ [] := of_decide_eq_true ((h.lm.mv j w hw).1.symm.trans hb)
      cases hLw : L w j with
      | nil => exact absurd hLw hne
      | cons y r =>
        obtain ⟨s, d, e1, e2, ⟨e3, e3'⟩, e4, e5⟩ := (h.mem j w hw y).1 (by rw [hLw]; simp)
        have hr := h.edges.rng s e3
        have bs := (lay_b hl).s
        refine ⟨w, s, by rw [(vertex_spec hl hw).2.1], ?_, e3, e3', e4, ?_, ?_⟩
        · have ehd : get σ (l.head w j) = y := by rw [h.lm.lists.head j w hw, hLw]; rfl
          unfold afirst aget
          dsimp only
          rw [ehd, wrapI (x := y) (by omega), if_neg (by omega), wrapI (by omega), Int.tdiv_eq_ediv_of_nonneg (by omega)]
          have : (y - 1) / 2 = s := by omega
          rw [this]
        · rcases e2 with rfl | rfl
          · rw [if_pos rfl] at e5; exact .inl e5
          · rw [if_neg (by decide)] at e5; exact .inr e5
        · exact (hT.row_iff hl hv.1 hv hw).1 (hF.cls _ nv _ hx).symm
    · have hd : d = 0 ∨ d = 1 := by have := hs.2.2; omega
      rcases hd with rfl | rfl
      · have := (h.lm.ma s j hs).1; rw [hb] at this; cases this
      · have := (h.lm.mb s j hs).1; rw [hb] at this; cases this
theorem Right.plain (h : Right l pr σ g) {s : Int} (hh : g.has s = true) (ht : g.tr s = false) (hv : g.lv s + 1 < l.lev) {k : Nat} (hk : 560 < k) : ∃ σ', Go.Tm.plain l k σ s = some σ' ∧ Right l pr σ' (g.lift s (g.lv s + 1)) := by
  obtain ⟨F, mk, L, h⟩ := h
  have hr := h.edges.rng s hh
  have lb := lev_b hl
  obtain ⟨e1, e2⟩ := eget_eq hl h.edges hh
  obtain ⟨σ1, mk1, L1, p1, h1⟩ := h.remove hl ⟨hh, ht⟩ hk
  have h2 := h1.lift hl (s := s) (i := g.lv s + 1) hh (fun hB => hB.2 rfl) ⟨by omega, hv⟩
  obtain ⟨σ2, mk2, L2, p2, h3⟩ := h2.add hl (s := s) hh (fun hB => hB.2 rfl) hk
  refine ⟨σ2, ?_, F, mk2, L2, h3.iff hl (fun i q hi => ?_) (fun i q hq => hq.1) (fun q => ?_) (fun q i hq => ?_)⟩
  · unfold Go.Tm.plain
    dsimp only
    rw [e1, e2, p1, Option.bind_some]
    dsimp only
    rw [wrapI (by omega)]
    exact p2
  · unfold Pg G.lift updI; dsimp only
    by_cases hq : q = s
    · subst hq; simp [ht]
    · simp [hq]
  · unfold Bg G.lift; dsimp only
    by_cases hq : q = s
    · subst hq; simp [hh, ht]
    · simp [hq]
  · unfold Kg G.lift updI; dsimp only
    by_cases hq' : q = s
    · subst hq'; simp [ht]
    · simp [hq']
include hp
theorem Right.treeUp (h : Right l pr σ g) {s : Int} (hh : g.has s = true) (ht : g.tr s = true) (hv : g.lv s + 1 < l.lev) {k : Nat} (hk : 560 < k) : ∃ σ', Go.Tm.treeUp l p k σ s = some σ' ∧ Right l pr σ' (g.lift s (g.lv s + 1)) := by
  obtain ⟨F, mk, L, h⟩ := h
  have hr := h.edges.rng s hh
  have lb := lev_b hl
  obtain ⟨e1, e2⟩ := eget_eq hl h.edges hh
  have hT := h.tours (g.lv s) hr.2.2
  have hno : ¬ Conn (Pg g (g.lv s + 1)) g.u g.v (g.u s) (g.v s) := fun hc => hT.bridge hl hr.2.2 h.lm.forest (s := s) ⟨hh, ht, Int.le_refl _⟩ (hc.mono fun q hq => by
    refine ⟨⟨hq.1, hq.2.1, ?_⟩, fun he => ?_⟩
    · have := hq.2.2; omega
    · subst he; have := hq.2.2; omega)
  obtain ⟨σ1, mk1, p1, h1⟩ := h.lmark hl (s := s) (i := g.lv s) ⟨hr.1, hr.2.2, by omega⟩ false hk
  have h2 := h1.lift hl (s := s) (i := g.lv s + 1) hh (fun hB => by rw [hB.2] at ht; cases ht) ⟨by omega, hv⟩
  obtain ⟨r, σ3, F3, p3, h3⟩ := h2.link hl hp (s := s) (i := g.lv s + 1) ⟨by omega, hv⟩ hh (fun hP => by have := hP.2.2; omega) hno hk
  obtain ⟨σ4, mk4, p4, h4⟩ := h3.lmark hl (s := s) (i := g.lv s + 1) ⟨hr.1, ⟨by omega, hv⟩, by omega⟩ true hk
  refine ⟨σ4, ?_, F3, mk4, L, h4.iff hl (fun i q hi => ?_) (fun i q hq => hq.1) (fun q => ?_) (fun q i hq => ?_)⟩
  · unfold Go.Tm.treeUp
    dsimp only
    rw [e1, e2]
    dsimp only
    rw [p1, Option.bind_some, wrapI (by omega)]
    have p3' : Go.Tm.link l p k (elift l σ1 s (g.lv s + 1)) (g.lv s + 1) s (g.u s) (g.v s) = some (r, σ3) := p3
    rw [p3', Option.bind_some]
    exact p4
  · unfold Pg G.lift updI; dsimp only
    by_cases hq : q = s
    · subst hq; simp [hh, ht]; omega
    · simp [hq]
  · unfold Bg G.lift; dsimp only; exact .rfl
  · unfold Kg G.lift updI; dsimp only
    by_cases hq' : q = s
    · subst hq'
      by_cases c1 : i = g.lv q + 1
      · simp [c1, hh, ht]
      · have c1' : ¬ g.lv q + 1 = i := fun h => c1 h.symm
        by_cases c2 : i = g.lv q
        · have d1 : ¬ g.lv q + 1 = g.lv q := by omega
          have d2 : ¬ g.lv q = g.lv q + 1 := by omega
          simp [c2, d1, d2]
        · have c2' : ¬ g.lv q = i := fun h => c2 h.symm
          simp [c1, c1', c2, c2']
    · simp [hq']
omit hp
structure Raised (g g' : G) (i : Int) (C : Int → Prop) : Prop where
  has : g'.has = g.has
  u : g'.u = g.u
  v : g'.v = g.v
  tr : g'.tr = g.tr
  up : ∀ s, C s → g.has s = true ∧ g.lv s = i ∧ g'.lv s = i + 1
  st : ∀ s, ¬ C s → g'.lv s = g.lv s
theorem Raised.jn {i : Int} {C : Int → Prop} (h : Raised g g' i C) {j u v : Int} (hj : j ≤ i) : Jn g' j u v ↔ Jn g j u v := by
  unfold Jn
  rw [h.u, h.v]
  refine Conn.iff hl fun s => ?_
  unfold Pg
  rw [h.has, h.tr]
  by_cases hc : C s
  · obtain ⟨_, h1, h2⟩ := h.up s hc
    rw [h1, h2]
    constructor
    · rintro ⟨q1, q2, q3⟩; exact ⟨q1, q2, hj⟩
    · rintro ⟨q1, q2, q3⟩; exact ⟨q1, q2, by omega⟩
  · rw [h.st s hc]
omit hl in
theorem Raised.step {i s : Int} (hh : g.has s = true) (hi : g.lv s = i) {C : Int → Prop} (h : Raised (g.lift s (i + 1)) g' i C) (hC : ¬ C s) : Raised g g' i (fun q => C q ∨ q = s) := by
  refine ⟨h.has, h.u, h.v, h.tr, fun q hq => ?_, fun q hq => ?_⟩
  · rcases hq with hq | rfl
    · obtain ⟨h1, h2, h3⟩ := h.up q hq
      have hqs : q ≠ s := fun he => hC (he ▸ hq)
      refine ⟨h1, ?_, h3⟩
      unfold G.lift updI at h2; dsimp only at h2; rw [if_neg hqs] at h2; exact h2
    · refine ⟨hh, hi, ?_⟩
      rw [h.st q hC]; unfold G.lift updI; dsimp only; rw [if_pos rfl]
  · have hqs : q ≠ s := fun he => hq (.inr he)
    rw [h.st q fun hc => hq (.inl hc)]; unfold G.lift updI; dsimp only; rw [if_neg hqs]
theorem Raised.lift {i s : Int} (hh : g.has s = true) (hi : g.lv s = i) : Raised g (g.lift s (i + 1)) i (fun q => q = s) := by
  refine ⟨rfl, rfl, rfl, rfl, fun q hq => ?_, fun q hq => ?_⟩
  · subst hq; exact ⟨hh, hi, by unfold G.lift updI; simp⟩
  · unfold G.lift updI; dsimp only; rw [if_neg hq]
theorem Raised.iff {i : Int} {C C' : Int → Prop} (h : Raised g g' i C) (hC : ∀ s, C s ↔ C' s) : Raised g g' i C' := ⟨h.has, h.u, h.v, h.tr, fun s hs => h.up s ((hC s).2 hs), fun s hs => h.st s fun hc => hs ((hC s).1 hc)⟩
def cntE (l : Lay) (g : G) (i : Int) (t : Bool) : Nat := (List.range l.S).countP fun s : Nat => g.has s && (g.tr s == t) && decide (g.lv s = i)
theorem cntE_lt {i s : Int} {t : Bool} (hsr : 0 ≤ s ∧ s < l.S) (hh : g.has s = true) (ht : g.tr s = t) (hi : g.lv s = i) : cntE l (g.lift s (i + 1)) i t < cntE l g i t := by
  unfold cntE
  refine countP_lt (s := s.toNat) (fun x _ hx => ?_) (List.mem_range.2 (by omega)) ?_ ?_
  · unfold G.lift updI at hx
    simp only [Bool.and_eq_true, decide_eq_true_eq] at hx ⊢
    refine ⟨hx.1, ?_⟩
    have := hx.2
    split at this
    · omega
    · exact this
  · have : ((s.toNat : Nat) : Int) = s := by omega
    rw [this, hh, ht, hi]; simp
  · have : ((s.toNat : Nat) : Int) = s := by omega
    unfold G.lift updI
    rw [this]; simp; omega
theorem cntE_b {i : Int} {t : Bool} : cntE l g i t ≤ 48 := by
  unfold cntE
  have := List.countP_le_length (p := fun s : Nat => g.has s && (g.tr s == t) && decide (g.lv s = i)) (l := List.range l.S)
  rw [List.length_range] at this
  have := (lay_b hl).s
  omega
include hp
theorem treesL_spec {i v : Int} (hv : l.okV i v) (hi : i + 1 < l.lev) {m : Nat} (hm : 560 < m) : ∀ (n k : Nat) {σ : M} {g : G} {x : Int}, cntE l g i true ≤ n → n < k → Right l pr σ g → lfirst l m σ i v 1 = some (x, σ) →
    ∃ σ' g', treesL l p i v k m σ x = some σ' ∧ Right l pr σ' g' ∧ Raised g g' i (fun s => g.has s = true ∧ g.tr s = true ∧ g.lv s = i ∧ Jn g i v (g.u s)) := by
  intro n
  induction n with
  | zero =>
    intro k σ g x hc hk h hx
    obtain ⟨k, rfl⟩ : ∃ q, k = q + 1 := ⟨k - 1, by omega⟩
    obtain ⟨y, hy, hcase⟩ := h.first1 hl hv hm
    rw [hx] at hy
    have hxy : x = y := by simp at hy; exact hy
    subst hxy
    rcases hcase with ⟨h0, hn⟩ | ⟨h0, s, hs, hh, ht, hls, hj⟩
    · exact ⟨σ, g, by rw [treesL, if_neg (by simp [h0])], h, ⟨rfl, rfl, rfl, rfl, fun s hs => absurd hs.2.2.2 (hn s hs.1 hs.2.1 hs.2.2.1), fun _ _ => rfl⟩⟩
    · have := cntE_lt hl (h.rng hl hh).1 hh ht hls; omega
  | succ n ih =>
    intro k σ g x hc hk h hx
    obtain ⟨k, rfl⟩ : ∃ q, k = q + 1 := ⟨k - 1, by omega⟩
    obtain ⟨y, hy, hcase⟩ := h.first1 hl hv hm
    rw [hx] at hy
    have hxy : x = y := by simp at hy; exact hy
    subst hxy
    rcases hcase with ⟨h0, hn⟩ | ⟨h0, s, hs, hh, ht, hls, hj⟩
    · exact ⟨σ, g, by rw [treesL, if_neg (by simp [h0])], h, ⟨rfl, rfl, rfl, rfl, fun s hs => absurd hs.2.2.2 (hn s hs.1 hs.2.1 hs.2.2.1), fun _ _ => rfl⟩⟩
    · obtain ⟨σ1, e1, h1⟩ := h.treeUp hl hp hh ht (by omega) hm
      rw [hls] at h1
      obtain ⟨x1, hx1, _⟩ := h1.first1 hl hv hm
      have hlt := cntE_lt hl (h.rng hl hh).1 hh ht hls
      obtain ⟨σ2, g2, e2, h2, hR⟩ := ih k (by omega) (by omega) h1 hx1
      refine ⟨σ2, g2, ?_, h2, (hR.step hh hls ?_).iff hl fun q => ?_⟩
      · rw [treesL, if_pos h0, hs, e1, Option.bind_some, hx1, Option.bind_some]; exact e2
      · intro hq; have := hq.2.2.1; unfold G.lift updI at this; simp at this; omega
      · have hjn : ∀ {a b}, Jn (g.lift s (i + 1)) i a b ↔ Jn g i a b := fun {a b} => (Raised.lift hl hh hls).jn hl (Int.le_refl _)
        by_cases hqs : q = s
        · subst hqs; exact ⟨fun _ => ⟨hh, ht, hls, hj⟩, fun _ => .inr rfl⟩
        · rw [hjn]
          have : (g.lift s (i + 1)).lv q = g.lv q := by unfold G.lift updI; dsimp only; rw [if_neg hqs]
          rw [this]
          exact ⟨fun hq => hq.resolve_right hqs, fun hq => .inl hq⟩
theorem Right.trees (h : Right l pr σ g) {i v : Int} (hv : l.okV i v) (hi : i + 1 < l.lev) {k : Nat} (hk : 560 < k) :
    ∃ σ' g', Go.Tm.trees l p k σ i v = some σ' ∧ Right l pr σ' g' ∧ Raised g g' i (fun s => g.has s = true ∧ g.tr s = true ∧ g.lv s = i ∧ Jn g i v (g.u s)) := by
  obtain ⟨x, hx, _⟩ := h.first1 hl hv hk
  obtain ⟨σ', g', e, h', hR⟩ := treesL_spec hl hp hv hi hk (cntE l g i true) k (Nat.le_refl _) (by have := cntE_b hl (g := g) (i := i) (t := true); omega) h hx
  exact ⟨σ', g', by unfold Go.Tm.trees; rw [hx, Option.bind_some]; exact e, h', hR⟩
omit hp
def Found (g : G) (i v : Int) (r : Int × Bool) : Prop :=
  (r = (0, false) ∧ ∀ s, g.has s = true → g.tr s = false → g.lv s = i → ¬ Jn g i v (g.u s) ∧ ¬ Jn g i v (g.v s)) ∨
  (r.2 = true ∧ g.has r.1 = true ∧ g.tr r.1 = false ∧ g.lv r.1 = i ∧ ¬ Jn g i (g.u r.1) (g.v r.1) ∧ (Jn g i v (g.u r.1) ∨ Jn g i v (g.v r.1)))
theorem seekL_spec {i v : Int} (hv : l.okV i v) (hi : i + 1 < l.lev) {m : Nat} (hm : 560 < m) : ∀ (n k : Nat) {σ : M} {g : G} {x : Int}, cntE l g i false ≤ n → n < k → Right l pr σ g → lfirst l m σ i v 0 = some (x, σ) →
    ∃ r σ' g' C, seekL l i v k m σ x = some (r, σ') ∧ Right l pr σ' g' ∧ Raised g g' i C ∧ (∀ s, C s → g.tr s = false ∧ Jn g i v (g.u s) ∧ Jn g i v (g.v s)) ∧ Found g' i v r := by
  intro n
  induction n with
  | zero =>
    intro k σ g x hc hk h hx
    obtain ⟨k, rfl⟩ : ∃ q, k = q + 1 := ⟨k - 1, by omega⟩
    obtain ⟨y, hy, hcase⟩ := h.first0 hl hv hm
    rw [hx] at hy
    have hxy : x = y := by simp at hy; exact hy
    subst hxy
    rcases hcase with ⟨h0, hn⟩ | ⟨h0, w, s, hw, hs, hh, ht, hls, huv, hj⟩
    · exact ⟨_, σ, g, fun _ => False, by rw [seekL, if_neg (by simp [h0])], h, ⟨rfl, rfl, rfl, rfl, fun s hs => hs.elim, fun _ _ => rfl⟩, fun s hs => hs.elim, .inl ⟨rfl, hn⟩⟩
    · have := cntE_lt hl (h.rng hl hh).1 hh ht hls; omega
  | succ n ih =>
    intro k σ g x hc hk h hx
    obtain ⟨k, rfl⟩ : ∃ q, k = q + 1 := ⟨k - 1, by omega⟩
    obtain ⟨y, hy, hcase⟩ := h.first0 hl hv hm
    rw [hx] at hy
    have hxy : x = y := by simp at hy; exact hy
    subst hxy
    rcases hcase with ⟨h0, hn⟩ | ⟨h0, w, s, hw, hs, hh, ht, hls, huv, hj⟩
    · exact ⟨_, σ, g, fun _ => False, by rw [seekL, if_neg (by simp [h0])], h, ⟨rfl, rfl, rfl, rfl, fun s hs => hs.elim, fun _ _ => rfl⟩, fun s hs => hs.elim, .inl ⟨rfl, hn⟩⟩
    · have hr := h.rng hl hh
      have hu : l.okV i (g.u s) := ⟨hv.1, by omega⟩
      have hv2 : l.okV i (g.v s) := ⟨hv.1, by omega⟩
      obtain ⟨b, e1, hb⟩ := h.same hl hu hv2 hm
      have hge := h.eget hl hh
      have one : Jn g i v (g.u s) ∨ Jn g i v (g.v s) := by rcases huv with e | e <;> rw [← e] at hj; exact .inl hj; exact .inr hj
      have start : seekL l i v (k + 1) m σ x = (Go.Tm.same l m σ i (g.u s) (g.v s)).bind fun b => if b.1 then (Go.Tm.plain l m b.2 s).bind fun σ2 => (lfirst l m σ2 i v 0).bind fun r => seekL l i v k m r.2 r.1 else some ((s, true), b.2) := by
        rw [seekL, if_pos h0]
        dsimp only
        rw [hw, hs]
        have : (afirstS l σ w i : M) = σ := rfl
        rw [this, hge]
        rfl
      rw [start, e1, Option.bind_some]
      dsimp only
      cases b with
      | false =>
        rw [if_neg (by decide)]
        exact ⟨_, σ, g, fun _ => False, rfl, h, ⟨rfl, rfl, rfl, rfl, fun s hs => hs.elim, fun _ _ => rfl⟩, fun s hs => hs.elim, .inr ⟨rfl, hh, ht, hls, (fun hc => by have := hb.2 hc; cases this), one⟩⟩
      | true =>
        rw [if_pos rfl]
        have hjuv := hb.1 rfl
        have both : Jn g i v (g.u s) ∧ Jn g i v (g.v s) := by
          rcases one with q | q
          · exact ⟨q, Conn.trans q hjuv⟩
          · exact ⟨Conn.trans q hjuv.symm, q⟩
        obtain ⟨σ1, e2, h1⟩ := h.plain hl hh ht (by omega) hm
        rw [hls] at h1
        obtain ⟨x1, hx1, _⟩ := h1.first0 hl hv hm
        have hlt := cntE_lt hl hr.1 hh ht hls
        obtain ⟨r, σ2, g2, C, e3, h2, hR, hC, hFd⟩ := ih k (by omega) (by omega) h1 hx1
        have hjn : ∀ {a b}, Jn (g.lift s (i + 1)) i a b ↔ Jn g i a b := fun {a b} => (Raised.lift hl hh hls).jn hl (Int.le_refl _)
        have hCs : ¬ C s := fun hc => by have := (hR.up s hc).2.1; unfold G.lift updI at this; simp at this; omega
        refine ⟨r, σ2, g2, _, ?_, h2, hR.step hh hls hCs, fun q hq => ?_, hFd⟩
        · rw [e2, Option.bind_some, hx1, Option.bind_some]; exact e3
        · rcases hq with hq | rfl
          · obtain ⟨q1, q2, q3⟩ := hC q hq
            exact ⟨q1, hjn.1 q2, hjn.1 q3⟩
          · exact ⟨ht, both⟩
theorem Right.seek (h : Right l pr σ g) {i v : Int} (hv : l.okV i v) (hi : i + 1 < l.lev) {k : Nat} (hk : 560 < k) :
    ∃ r σ' g' C, Go.Tm.seek l k σ i v = some (r, σ') ∧ Right l pr σ' g' ∧ Raised g g' i C ∧ (∀ s, C s → g.tr s = false ∧ Jn g i v (g.u s) ∧ Jn g i v (g.v s)) ∧ Found g' i v r := by
  obtain ⟨x, hx, _⟩ := h.first0 hl hv hk
  obtain ⟨r, σ', g', C, e, h'⟩ := seekL_spec hl hv hi hk (cntE l g i false) k (Nat.le_refl _) (by have := cntE_b hl (g := g) (i := i) (t := false); omega) h hx
  exact ⟨r, σ', g', C, by unfold Go.Tm.seek; rw [hx, Option.bind_some]; exact e, h'⟩
theorem vts_cnt {i : Int} (hi : 0 ≤ i ∧ i < l.lev) : ∀ (r : List Int), r.Nodup → (∀ x ∈ r, l.nd x ∧ (l.node x).1.level = i) → vts l r = ((List.range l.V).countP fun w : Nat => decide (l.vertex i w ∈ r) : Nat) := by
  intro r
  induction r with
  | nil => intro _ _; simp [vts]
  | cons x r ih =>
    intro hnd hx
    obtain ⟨n1, n2⟩ := List.nodup_cons.1 hnd
    obtain ⟨nx, lx⟩ := hx x (by simp)
    have ih' := ih n2 fun y hy => hx y (by simp [hy])
    have okW : ∀ w : Nat, w ∈ List.range l.V → l.okV i w := fun w hw => ⟨hi, by have := List.mem_range.1 hw; omega⟩
    rcases nd_cases hl nx with ⟨j, w, hw, rfl⟩ | ⟨s, j, d, hs, rfl⟩
    · rw [(vertex_spec hl hw).2.1] at lx
      have hji : j = i := lx
      subst hji
      have hc := countP_one (p := fun w : Nat => decide (l.vertex j w ∈ r)) (q := fun w' : Nat => decide (l.vertex j w' ∈ l.vertex j w :: r)) (r := List.range l.V) (s := w.toNat) (fun y hy hne => by
        have : l.vertex j y ≠ l.vertex j w := fun he => hne (by have := ((vertex_inj hl (okW y hy) hw).1 he).2; omega)
        simp [this]) (List.mem_range.2 (by have := hw.2; omega)) (by
        have : ((w.toNat : Nat) : Int) = w := by have := hw.2; omega
        rw [this]; simpa using n1) (by
        have : ((w.toNat : Nat) : Int) = w := by have := hw.2; omega
        rw [this]; simp) List.nodup_range
      rw [hc, vts, ih', (vertex_spec hl hw).2.1]
      simp; omega
    · rw [vts, (arc_spec hl hs).2, ih']
      simp only [if_true, Int.zero_add]
      have : (List.range l.V).countP (fun w : Nat => decide (l.vertex i w ∈ r)) = (List.range l.V).countP (fun w : Nat => decide (l.vertex i w ∈ l.arc s j d :: r)) := List.countP_congr fun y hy => by
        have := vertex_arc hl (okW y hy) hs
        simp [this]
      rw [this]
open Classical in
noncomputable def nv (l : Lay) (g : G) (i u : Int) : Nat := (List.range l.V).countP fun w : Nat => decide (Jn g i u w)
open Classical in
theorem Right.count (h : Right l pr σ g) {i u : Int} (hu : l.okV i u) {k : Nat} (hk : 560 < k) : Go.Tm.count l k σ i u = some (((nv l g i u : Nat) : Int), σ) := by
  obtain ⟨F, mk, L, h⟩ := h
  have hF := h.lm.forest
  have hT := h.tours i hu.1
  have nu := (vertex_spec hl hu).1
  rw [hF.count hl hu hk, vts_cnt hl hu.1 _ (hF.nodup _ nu) fun x hx => ⟨(hF.rep _ nu).nd x hx, hT.lev _ nu (by rw [(vertex_spec hl hu).2.1]) x hx⟩]
  unfold nv
  have : (List.range l.V).countP (fun w : Nat => decide (l.vertex i w ∈ (F (l.vertex i u)).list)) = (List.range l.V).countP (fun w : Nat => decide (Jn g i u w)) := List.countP_congr fun w hw => by
    have hwv : l.okV i w := ⟨hu.1, by have := List.mem_range.1 hw; omega⟩
    have : (l.vertex i w ∈ (F (l.vertex i u)).list) ↔ Jn g i u w := by
      rw [hF.mem_iff hl (vertex_spec hl hwv).1 nu]
      exact ⟨fun he => (hT.row_iff hl hu.1 hu hwv).1 he.symm, fun he => ((hT.row_iff hl hu.1 hu hwv).2 he).symm⟩
    simp only [decide_eq_true_eq]; exact this
  rw [this]
theorem Right.smaller (h : Right l pr σ g) {i u v : Int} (hu : l.okV i u) (hv : l.okV i v) {k : Nat} (hk : 560 < k) : Go.Tm.smaller l k σ i u v = some (if nv l g i v < nv l g i u then v else u, σ) := by
  unfold Go.Tm.smaller
  rw [h.count hl hv hk, Option.bind_some]
  dsimp only
  rw [h.count hl hu hk, Option.bind_some]
  dsimp only
  by_cases hc : nv l g i v < nv l g i u
  · rw [if_pos hc, if_pos (by omega)]
  · rw [if_neg hc, if_neg (by omega)]
end
end Go.Tm

namespace Go.Tm
open Eng
set_option linter.unusedSectionVars false
set_option linter.unusedVariables false
def hasN (f : Nat → Int) (x : Int) : Nat → Bool
  | 0 => false
  | n + 1 => hasN f x n || decide (f n = x)
theorem hasN_iff {f : Nat → Int} {x : Int} : ∀ {n : Nat}, hasN f x n = true ↔ ∃ j, j < n ∧ f j = x
  | 0 => by simp [hasN]
  | n + 1 => by
    simp only [hasN, Bool.or_eq_true, decide_eq_true_eq, hasN_iff (n := n)]
    constructor
    · rintro (⟨j, h1, h2⟩ | h)
      · exact ⟨j, by omega, h2⟩
      · exact ⟨n, by omega, h⟩
    · rintro ⟨j, h1, h2⟩
      by_cases hj : j = n
      · subst hj; exact .inr h2
      · exact .inl ⟨j, by omega, h2⟩
theorem hasN_t {f : Nat → Int} {x : Int} {n i : Nat} (hi : i < n) (h : f i = x) : Value.bool true = .bool (hasN f x n) := congrArg Value.bool (hasN_iff.2 ⟨i, hi, h⟩).symm
theorem hasN_f {f : Nat → Int} {x : Int} {n i : Nat} (hi : ¬ i < n) (hle : i ≤ n) (h : ∀ j, j < i → f j ≠ x) : Value.bool false = .bool (hasN f x n) := by
  obtain rfl : i = n := by omega
  refine congrArg Value.bool (Bool.eq_false_iff.2 fun hc => ?_).symm
  obtain ⟨j, h1, h2⟩ := hasN_iff.1 hc
  exact h j h1 h2
def CN (f : Nat → Int × Int) (n : Nat) (u v : Int) : Prop := Conn (fun k => 0 ≤ k ∧ k < (n : Int) ∧ 0 ≤ (f k.toNat).1) (fun k => (f k.toNat).1) (fun k => (f k.toNat).2) u v
open Classical in
noncomputable def joinB (f : Nat → Int × Int) (n : Nat) (u v : Int) : Bool := decide (CN f n u v)
theorem CN.step {f : Nat → Int × Int} {n k : Nat} {u : Int} {x y : Int} (h : CN f n u x) (hk : k < n) (h0 : 0 ≤ (f k).1) (he : ((f k).1 = x ∧ (f k).2 = y) ∨ ((f k).2 = x ∧ (f k).1 = y)) : CN f n u y :=
  Conn.step h (k : Int) ⟨by omega, by omega, by simpa using h0⟩ (by simpa using he)
abbrev mem (s : Array Int) (x : Int) : Prop := ∃ j, j < s.size ∧ s[j]! = x
structure JI (f : Nat → Int × Int) (n : Nat) (u : Int) (i : Nat) (s : Array Int) : Prop where
  hu : mem s u
  nd : s.toList.Nodup
  cn : ∀ x, mem s x → CN f n u x
  of : ∀ x, mem s x → x = u ∨ ∃ k, k < n ∧ (x = (f k).1 ∨ x = (f k).2)
  cl : ∀ j, j < i → ∀ k, k < n → 0 ≤ (f k).1 → ((f k).1 = s[j]! → mem s (f k).2) ∧ ((f k).2 = s[j]! → mem s (f k).1)
  le : i ≤ s.size
structure JK (f : Nat → Int × Int) (n : Nat) (u : Int) (i : Nat) (x : Int) (k : Nat) (s : Array Int) : Prop where
  ji : JI f n u i s
  lt : i < s.size
  hx : s[i]! = x
  cl : ∀ k', k' < k → 0 ≤ (f k').1 → ((f k').1 = x → mem s (f k').2) ∧ ((f k').2 = x → mem s (f k').1)
section
variable {f : Nat → Int × Int} {n : Nat} {u : Int} {i : Nat} {s : Array Int}
theorem mem_list {s : Array Int} {x : Int} : mem s x ↔ x ∈ s.toList := by
  rw [List.mem_iff_getElem]
  constructor
  · rintro ⟨j, hj, he⟩
    exact ⟨j, by simpa using hj, by rw [getElem!_pos s j hj] at he; simpa using he⟩
  · rintro ⟨j, hj, he⟩
    have hj' : j < s.size := by simpa using hj
    exact ⟨j, hj', by rw [getElem!_pos s j hj']; simpa using he⟩
theorem get_app {s : Array Int} {y : Int} {j : Nat} (hj : j < s.size) : (s ++ #[y])[j]! = s[j]! := by
  rw [getElem!_pos (s ++ #[y]) j (by simp; omega), getElem!_pos s j hj, Array.getElem_append_left hj]
theorem mem_app {s : Array Int} {x y : Int} : mem (s ++ #[y]) x ↔ mem s x ∨ x = y := by
  rw [mem_list, mem_list]; simp
theorem cover : ∀ (n : Nat), ∃ r : List Int, r.length = 2 * n ∧ ∀ k, k < n → (f k).1 ∈ r ∧ (f k).2 ∈ r
  | 0 => ⟨[], rfl, by simp⟩
  | n + 1 => by
    obtain ⟨r, h1, h2⟩ := cover n
    refine ⟨(f n).1 :: (f n).2 :: r, by simp [h1]; omega, fun k hk => ?_⟩
    by_cases hkn : k = n
    · subst hkn; simp
    · have := h2 k (by omega); simp [this]
theorem nodup_sub : ∀ (a r : List Int), a.Nodup → (∀ x ∈ a, x ∈ r) → a.length ≤ r.length
  | [], r, _, _ => Nat.zero_le _
  | x :: a, r, hnd, h => by
    obtain ⟨h1, h2⟩ := List.nodup_cons.1 hnd
    have hx := h x (by simp)
    have := nodup_sub a (r.erase x) h2 fun y hy => (List.mem_erase_of_ne (fun he : y = x => h1 (he ▸ hy))).2 (h y (by simp [hy]))
    rw [List.length_erase_of_mem hx] at this
    have := List.length_pos_of_mem hx
    simp only [List.length_cons]; omega
theorem JI.size (h : JI f n u i s) : s.size ≤ 2 * n + 1 := by
  obtain ⟨r, h1, h2⟩ := cover (f := f) n
  have := nodup_sub s.toList (u :: r) h.nd fun x hx => by
    rcases h.of x (mem_list.2 hx) with rfl | ⟨k, hk, rfl | rfl⟩
    · simp
    · simp [(h2 k hk).1]
    · simp [(h2 k hk).2]
  simp only [Array.length_toList, List.length_cons, h1] at this
  omega
theorem JI.start : JI f n u 0 #[u] := by
  have hm : ∀ x, mem #[u] x ↔ x = u := fun x => by rw [mem_list]; simp
  exact ⟨(hm u).2 rfl, by simp, fun x hx => by rw [(hm x).1 hx]; exact .refl _, fun x hx => .inl ((hm x).1 hx), fun j hj => absurd hj (Nat.not_lt_zero _), Nat.zero_le _⟩
theorem JI.push (h : JI f n u i s) {y : Int} (hy : ¬ mem s y) (hc : CN f n u y) (ho : ∃ k, k < n ∧ (y = (f k).1 ∨ y = (f k).2)) : JI f n u i (s ++ #[y]) := by
  refine ⟨mem_app.2 (.inl h.hu), ?_, fun x hx => ?_, fun x hx => ?_, fun j hj k hk h0 => ?_, by have := h.le; simp; omega⟩
  · have : (s ++ #[y]).toList = s.toList ++ [y] := by simp
    rw [this, List.nodup_append]
    exact ⟨h.nd, by simp, fun a ha b hb he => hy (mem_list.2 (by simp at hb; rw [← hb, ← he]; exact ha))⟩
  · rcases mem_app.1 hx with hx | rfl
    · exact h.cn x hx
    · exact hc
  · rcases mem_app.1 hx with hx | rfl
    · exact h.of x hx
    · exact .inr ho
  · have hjs : j < s.size := by have := h.le; omega
    rw [get_app hjs]
    exact ⟨fun he => mem_app.2 (.inl ((h.cl j hj k hk h0).1 he)), fun he => mem_app.2 (.inl ((h.cl j hj k hk h0).2 he))⟩
theorem JK.begin (h : JI f n u i s) (hi : i < s.size) : JK f n u i s[i]! 0 s := ⟨h, hi, rfl, fun k hk => absurd hk (Nat.not_lt_zero _)⟩
theorem JK.done {x : Int} (h : JK f n u i x n s) : JI f n u (i + 1) s := by
  refine ⟨h.ji.hu, h.ji.nd, h.ji.cn, h.ji.of, fun j hj k hk h0 => ?_, h.lt⟩
  by_cases hji : j = i
  · subst hji; rw [h.hx]; exact h.cl k hk h0
  · exact h.ji.cl j (by omega) k hk h0
variable {x : Int} {k : Nat}
theorem JK.skip (h : JK f n u i x k s) (hk : (f k).1 < 0) : JK f n u i x (k + 1) s := ⟨h.ji, h.lt, h.hx, fun k' hk' h0 => by
  by_cases he : k' = k
  · subst he; omega
  · exact h.cl k' (by omega) h0⟩
theorem JK.next (h : JK f n u i x k s) (h1 : (f k).1 = x → mem s (f k).2) (h2 : (f k).2 = x → mem s (f k).1) : JK f n u i x (k + 1) s := ⟨h.ji, h.lt, h.hx, fun k' hk' h0 => by
  by_cases he : k' = k
  · subst he; exact ⟨h1, h2⟩
  · exact h.cl k' (by omega) h0⟩
theorem JK.push (h : JK f n u i x k s) (hk : k < n) (h0 : 0 ≤ (f k).1) {y : Int} (he : ((f k).1 = x ∧ (f k).2 = y) ∨ ((f k).2 = x ∧ (f k).1 = y)) (hy : ¬ mem s y) : JK f n u i x k (s ++ #[y]) := by
  have hcx : CN f n u x := h.ji.cn x ⟨i, h.lt, h.hx⟩
  refine ⟨h.ji.push hy (hcx.step hk h0 he) ⟨k, hk, by rcases he with ⟨_, e⟩ | ⟨_, e⟩ <;> simp [e]⟩, by have := h.lt; simp; omega, by rw [get_app h.lt]; exact h.hx, fun k' hk' h0' => ?_⟩
  exact ⟨fun e => mem_app.2 (.inl ((h.cl k' hk' h0').1 e)), fun e => mem_app.2 (.inl ((h.cl k' hk' h0').2 e))⟩
theorem JK.mA (h : JK f n u i x k s) (hm : mem s (f k).2) : (f k).1 = x → mem s (f k).2 := fun _ => hm
theorem JK.mB (h : JK f n u i x k (s ++ #[(f k).2])) : (f k).1 = x → mem (s ++ #[(f k).2]) (f k).2 := fun _ => mem_app.2 (.inr rfl)
theorem JK.mC (h : JK f n u i x k s) (hne : ¬ (f k).1 = s[i]!) : (f k).1 = x → mem s (f k).2 := fun e => absurd (e.trans h.hx.symm) hne
open Classical in
theorem JI.closed (h : JI f n u i s) (hi : ¬ i < s.size) {v : Int} : hasN (fun j => s[j]!) v s.size = joinB f n u v := by
  have : (hasN (fun j => s[j]!) v s.size = true) ↔ CN f n u v := by
    rw [hasN_iff]
    refine ⟨fun hm => h.cn v hm, fun hc => ?_⟩
    unfold CN at hc
    induction hc with
    | refl => exact h.hu
    | step _ q hq he ih =>
      obtain ⟨j, hj, hjw⟩ := ih
      have hle := h.le
      obtain ⟨c1, c2⟩ := h.cl j (by omega) q.toNat (by omega) hq.2.2
      rcases he with ⟨e1, e2⟩ | ⟨e1, e2⟩
      · rw [← e2]; exact c1 (by rw [hjw]; exact e1)
      · rw [← e2]; exact c2 (by rw [hjw]; exact e1)
  unfold joinB
  cases hh : hasN (fun j => s[j]!) v s.size with
  | true => rw [eq_comm, decide_eq_true_iff]; exact this.1 hh
  | false => rw [eq_comm, decide_eq_false_iff_not]; intro hc; rw [this.2 hc] at hh; cases hh
theorem hasN_mem {x : Int} : hasN (fun j => s[j]!) x s.size = true ↔ mem s x := hasN_iff
end
end Go.Tm

namespace Go.Tm
open MemLike Eng
set_option linter.unusedSectionVars false
set_option linter.unusedVariables false
def encI (x : Int) : List Value := [.int .i64 x]
theorem encI_one (x : Int) : (encI x).length = 1 ∧ ∀ u ∈ encI x, u.oneCell' = true := ⟨rfl, by intro u hu; simp only [encI, List.mem_cons, List.not_mem_nil, or_false] at hu; subst hu; rfl⟩
def encP (x : Int × Int) : List Value := [.int .i64 x.1, .int .i64 x.2]
theorem encP_ok (x : Int × Int) : (encP x).length = 2 ∧ ones (encP x) = true := ⟨rfl, rfl⟩
theorem encP_one (x : Int × Int) : (encP x).length = 2 ∧ ∀ u ∈ encP x, u.oneCell' = true := ⟨rfl, by intro u hu; simp only [encP, List.mem_cons, List.not_mem_nil, or_false] at hu; rcases hu with rfl | rfl <;> rfl⟩
structure EdR where
  slot : Int
  u : Int
  v : Int
  lv : Int
  tr : Bool
  deriving Inhabited, DecidableEq
def encE (x : EdR) : List Value := [.int .i64 x.slot, .int .i64 x.u, .int .i64 x.v, .int .i64 x.lv, .bool x.tr]
theorem encE_ok (x : EdR) : (encE x).length = 5 ∧ ones (encE x) = true := ⟨rfl, rfl⟩
theorem encE_one (x : EdR) : (encE x).length = 5 ∧ ∀ u ∈ encE x, u.oneCell' = true := ⟨rfl, by intro u hu; simp only [encE, List.mem_cons, List.not_mem_nil, or_false] at hu; rcases hu with rfl | rfl | rfl | rfl | rfl <;> rfl⟩
theorem own_lit {α : Type} [Inhabited α] {enc : α → List Value} {m e b : Nat} {x : α} (hx : (enc x).length = m) (h : HF) (hp : pt b (.cells (enc x).toArray e) h) : ownA enc m e (.slice (some ⟨b, 0, none⟩) 1 1) #[x] h := by
  refine .inr ⟨b, 1, (enc x).toArray, rfl, hp, Nat.le_refl _, by decide, by simp [hx], fun i hi => ?_⟩
  obtain rfl : i = 0 := by simpa using hi
  exact lkCs_of hx fun j hj => by simp
def slotN (f : Nat → EdR) (s : Int) : Nat → Int
  | 0 => -1
  | n + 1 => if 0 ≤ slotN f s n then slotN f s n else if (f n).slot = s then n else -1
theorem slotN_no {f : Nat → EdR} {s : Int} : ∀ {n : Nat}, (∀ j, j < n → (f j).slot ≠ s) → slotN f s n = -1
  | 0, _ => rfl
  | n + 1, h => by
    rw [slotN, slotN_no fun j hj => h j (by omega), if_neg (by decide), if_neg (h n (by omega))]
theorem slotN_at {f : Nat → EdR} {s : Int} {i : Nat} : ∀ {n : Nat}, i < n → (f i).slot = s → (∀ j, j < i → (f j).slot ≠ s) → slotN f s n = i
  | n + 1, hi, he, hn => by
    rw [slotN]
    by_cases h : i = n
    · subst h
      rw [slotN_no hn, if_neg (by decide), if_pos he]
    · rw [slotN_at (n := n) (by omega) he hn, if_pos (by omega)]
def grN (f : Nat → EdR) (lv : Int) : Nat → Array (Int × Int)
  | 0 => #[]
  | n + 1 => if (f n).tr = true ∧ lv ≤ (f n).lv then grN f lv n ++ #[((f n).u, (f n).v)] else grN f lv n
theorem grN_len {f : Nat → EdR} {lv : Int} : ∀ {n : Nat}, (grN f lv n).size ≤ n
  | 0 => by simp [grN]
  | n + 1 => by
    rw [grN]; have := grN_len (f := f) (lv := lv) (n := n)
    split
    · simp; omega
    · omega
theorem grN_T {f : Nat → EdR} {lv : Int} {n : Nat} (h : (f n).tr = true) (h' : lv ≤ (f n).lv) : grN f lv n ++ #[((f n).u, (f n).v)] = grN f lv (n + 1) := by rw [grN, if_pos ⟨h, h'⟩]
theorem grN_F {f : Nat → EdR} {lv : Int} {n : Nat} (h : ¬ ((f n).tr = true ∧ lv ≤ (f n).lv)) : grN f lv n = grN f lv (n + 1) := by rw [grN, if_neg h]
noncomputable def forestB (d : Array EdR) (lv u v : Int) : Bool := joinB (fun k => (grN (fun i => d[i]!) lv d.size)[k]!) (grN (fun i => d[i]!) lv d.size).size u v
abbrev dupB (d : Array EdR) (a b : Int) : Prop := ∃ j, j < d.size ∧ d[j]!.u = a ∧ d[j]!.v = b
abbrev P1 : Pen := ⟨1, 0⟩
def rngE (f : Nat → EdR) (n : Nat) : Array EdR := ((List.range n).map f).toArray
theorem rngE_size (f : Nat → EdR) (n : Nat) : (rngE f n).size = n := by simp [rngE]
theorem rngE_get (f : Nat → EdR) {n i : Nat} (h : i < n) : (rngE f n)[i]! = f i := by
  have hs : i < (rngE f n).size := by rw [rngE_size]; exact h
  rw [getElem!_pos _ i hs]; simp [rngE]
def cutA (d : Array EdR) (i : Nat) : Array EdR := rngE (fun j => d[j]!) i ++ rngE (fun j => d[i + 1 + j]!) (d.size - (i + 1))
structure OpR where
  kind : Int
  slot : Int
  u : Int
  v : Int
  deriving Inhabited, DecidableEq
def encO (x : OpR) : List Value := [.int .i64 x.kind, .int .i64 x.slot, .int .i64 x.u, .int .i64 x.v]
open Classical in
noncomputable def putA (l : Lay) (k : Nat) (σ : M) (d : Array EdR) (o : OpR) : Option (M × Array EdR) :=
  if dupB d (min o.u o.v) (max o.u o.v) then some (σ, d) else
  if forestB d 0 (min o.u o.v) (max o.u o.v) = true then (add l k (eput l σ o.slot o.u o.v 0 false) o.slot).bind fun σ1 => some (σ1, d ++ #[⟨o.slot, min o.u o.v, max o.u o.v, 0, !forestB d 0 (min o.u o.v) (max o.u o.v)⟩])
  else (plant l P1 k (eput l σ o.slot o.u o.v 0 false) o.slot).bind fun σ1 => some (σ1, d ++ #[⟨o.slot, min o.u o.v, max o.u o.v, 0, !forestB d 0 (min o.u o.v) (max o.u o.v)⟩])
theorem slA_some {ad : Addr} {i size cap : Nat} : ∃ a', slA (some ad) i size cap = some a' := by
  unfold slA; split
  · exact ⟨_, rfl⟩
  · exact ⟨_, rfl⟩

section
variable {l : Lay} (hl : l.Ok) {p : Pen} (hp : PenOk p) {pr : Int → Int} {σ σ' : M} {g : G}
def mk0 : Int → Int := fun _ => 0
def G0 : G := ⟨fun _ => false, mk0, mk0, mk0, fun _ => false⟩
structure BI (l : Lay) (pr : Int → Int) (σ : M) (x : Int) : Prop where
  size : σ.size = l.cells
  low : ∀ j, j < l.base → get σ j = 0
  ok : ∀ y, l.nd y → wOk l σ y
  zero : ∀ y, l.nd y → x ≤ y → gf l σ y 5 = 0
  one : ∀ y, l.nd y → y < x → repU l mk0 σ (.node .nil y .nil) ∧ parent l σ y = 0 ∧ gf l σ y 5 = pr y
theorem get_rep {N : Nat} (j : Int) : get (Array.replicate N 0 : M) j = 0 := by
  rw [am_get]
  split
  · rename_i h
    have : j.toNat < N := by have := h.2; simp at this; omega
    simp [this]
  · rfl
include hl
theorem BI.start {N : Nat} (hN : (N : Int) = l.cells) : BI l pr (Array.replicate N 0 : M) 1 := by
  refine ⟨by simp [hN], fun j _ => get_rep j, fun y hy => ⟨fun _ => ?_, fun _ => ?_⟩, fun y hy _ => get_rep _, fun y hy h => absurd hy.1 (by omega)⟩
  · unfold gf; rw [get_rep]; decide +kernel
  · unfold gf; rw [get_rep]; decide
def bornF (l : Lay) (dn : Nat) (fd : Nat → Int) : Nat → M → M
  | 0, σ => σ
  | n + 1, σ => Go.Tm.alone l P1 (if dn = 0 then bornF l dn fd n σ else st (bornF l dn fd n σ) (l.field ((n + 1 : Nat) : Int) 5) (fd ((n + 1) % dn))) ((n + 1 : Nat) : Int)
def encU (x : Int) : List Value := [.int .u64 x]
omit hl in
theorem bornF_pos {dn : Nat} {fd : Nat → Int} {n : Nat} {σ : M} (h : 0 < dn) : Go.Tm.alone l P1 (st (bornF l dn fd n σ) (l.field ((n + 1 : Nat) : Int) 5) (fd ((n + 1) % dn))) ((n + 1 : Nat) : Int) = bornF l dn fd (n + 1) σ := by rw [bornF, if_neg (by omega)]
omit hl in
theorem bornF_zero {dn : Nat} {fd : Nat → Int} {n : Nat} {σ : M} (h : dn = 0) : Go.Tm.alone l P1 (bornF l dn fd n σ) ((n + 1 : Nat) : Int) = bornF l dn fd (n + 1) σ := by rw [bornF, if_pos h]
theorem mk0_ok : mkOk mk0 := fun _ => by unfold mk0; decide
theorem BI.prio {x v : Int} (h : BI l pr σ x) (hx : l.nd x) (hv : 0 ≤ v ∧ v < 18446744073709551616) : (st σ (l.field x 5) v : M).size = l.cells ∧ (∀ j, j < l.base → get (st σ (l.field x 5) v : M) j = 0) ∧ (∀ y, l.nd y → wOk l (st σ (l.field x 5) v) y) ∧
    (∀ y, l.nd y → x < y → gf l (st σ (l.field x 5) v) y 5 = 0) ∧ (∀ y, l.nd y → y < x → repU l mk0 (st σ (l.field x 5) v) (.node .nil y .nil) ∧ parent l (st σ (l.field x 5) v) y = 0 ∧ gf l (st σ (l.field x 5) v) y 5 = pr y) ∧ gf l (st σ (l.field x 5) v) x 5 = v := by
  have hg := st_field hl h.size hx (f := 5) (by decide) hv
  have hne : ∀ y f, l.nd y → 0 ≤ f ∧ f < 7 → (y ≠ x ∨ f ≠ 5) → gf l (st σ (l.field x 5) v) y f = gf l σ y f := fun y f hy hf hn => by
    unfold gf; rw [hg, if_neg (fun he => by have := (field_inj hl hy hf hx (by decide)).1 he; rcases hn with h | h; exact h this.1; exact h this.2)]
  have hw : ∀ y, l.nd y → wOk l (st σ (l.field x 5) v) y := fun y hy => by
    have := h.ok y hy
    unfold wOk at *
    rw [hne y 2 hy (by decide) (.inr (by decide))]; exact this
  have hpa : ∀ y, l.nd y → parent l (st σ (l.field x 5) v) y = parent l σ y := fun y hy => by
    unfold parent pnew tget
    have := hne y 2 hy (by decide) (.inr (by decide))
    unfold gf at this
    rw [this]
  refine ⟨by rw [size_st]; exact h.size, fun j hj => ?_, hw, fun y hy hxy => ?_, fun y hy hxy => ?_, ?_⟩
  · rw [hg, if_neg (fun he => by have := field_b hl hx (f := 5) (by decide); omega)]; exact h.low j hj
  · rw [hne y 5 hy (by decide) (.inl (by omega))]; exact h.zero y hy (by omega)
  · obtain ⟨⟨r1, r2, r3, r4, r5, r6, r7, r8, r9⟩, h2, h3⟩ := h.one y hy hxy
    refine ⟨⟨r1, by rw [hne y 3 hy (by decide) (.inr (by decide))]; exact r2, by rw [hne y 4 hy (by decide) (.inr (by decide))]; exact r3, hw y hy, by rw [hne y 6 hy (by decide) (.inr (by decide))]; exact r5, trivial, trivial, fun h => absurd rfl h, fun h => absurd rfl h⟩, by rw [hpa y hy]; exact h2, by rw [hne y 5 hy (by decide) (.inl (by omega))]; exact h3⟩
  · unfold gf; rw [hg, if_pos rfl]
include hp
theorem BI.alone {x : Int} (h1 : σ.size = l.cells) (h2 : ∀ j, j < l.base → get σ j = 0) (h3 : ∀ y, l.nd y → wOk l σ y) (h4 : ∀ y, l.nd y → x < y → gf l σ y 5 = 0) (h5 : ∀ y, l.nd y → y < x → repU l mk0 σ (.node .nil y .nil) ∧ parent l σ y = 0 ∧ gf l σ y 5 = pr y) (h6 : gf l σ x 5 = pr x) (hx : l.nd x) :
    BI l pr (Go.Tm.alone l p σ x) (x + 1) := by
  obtain ⟨hf, hr, hpz⟩ := alone_spec hl hp (mk0_ok hl) h1 hx (h3 x hx) rfl
  have hs : (Go.Tm.alone l p σ x).size = σ.size := hf.size
  refine ⟨by rw [hs]; exact h1, fun j hj => by rw [hf.low hl hj]; exact h2 j hj, fun y hy => ?_, fun y hy hxy => ?_, fun y hy hxy => ?_⟩
  · by_cases he : y = x
    · subst he; exact hr.2.2.2.1
    · exact (hf.wOk hl hy he).2 (h3 y hy)
  · rw [hf.gf' hl hy (by decide) (by decide)]; exact h4 y hy (by omega)
  · by_cases he : y = x
    · subst he; exact ⟨hr, hpz, by rw [hf.gf' hl hy (by decide) (by decide)]; exact h6⟩
    · obtain ⟨q1, q2, q3⟩ := h5 y hy (by omega)
      exact ⟨q1.fr hl hf (fun z hz => by rw [T.list] at hz; simp [T.list] at hz; rw [hz]; exact he), by rw [hf.parent hl hy he]; exact q2, by rw [hf.gf' hl hy (by decide) (by decide)]; exact q3⟩
theorem BI.step1 {x v : Int} (h : BI l pr σ x) (hx : l.nd x) (hv : 0 ≤ v ∧ v < 18446744073709551616) (he : pr x = v) : BI l pr (Go.Tm.alone l p (st σ (l.field x 5) v) x) (x + 1) := by
  obtain ⟨q1, q2, q3, q4, q5, q6⟩ := h.prio hl hx hv
  exact BI.alone hl hp q1 q2 q3 q4 q5 (by rw [q6, he]) hx
theorem BI.step0 {x : Int} (h : BI l pr σ x) (hx : l.nd x) (he : pr x = 0) : BI l pr (Go.Tm.alone l p σ x) (x + 1) :=
  BI.alone hl hp h.size h.low h.ok (fun y hy hxy => h.zero y hy (by omega)) h.one (by rw [h.zero x hx (Int.le_refl _), he]) hx
theorem BI.born {dn : Nat} {fd : Nat → Int} (hfd : ∀ i, i < dn → 0 ≤ fd i ∧ fd i < 18446744073709551616) {N : Nat} (hN : (N : Int) = l.cells) : ∀ n : Nat, (n : Int) ≤ l.nodes → BI l (fun x => if dn = 0 then 0 else fd (x.toNat % dn)) (bornF l dn fd n (Array.replicate N 0)) ((n : Int) + 1)
  | 0, _ => BI.start hl hN
  | n + 1, h => by
    have ih := BI.born hfd hN n (by omega)
    have hx : l.nd ((n : Int) + 1) := ⟨by omega, by omega⟩
    have hpp : PenOk P1 := ⟨by decide, by decide⟩
    rw [bornF]
    have e : (((n + 1 : Nat) : Int)) = (n : Int) + 1 := by omega
    rw [e]
    by_cases hd : dn = 0
    · rw [if_pos hd]; exact ih.step0 hl hpp hx (if_pos hd)
    · rw [if_neg hd]
      exact ih.step1 hl hpp hx (hfd _ (Nat.mod_lt _ (by omega))) (by rw [if_neg hd]; congr 2)
omit hp
theorem BI.right (h : BI l pr σ (l.nodes + 1)) : Right l pr σ G0 := by
  have h1 : ∀ x, l.nd x → repU l mk0 σ (.node .nil x .nil) ∧ parent l σ x = 0 ∧ gf l σ x 5 = pr x := fun x hx => h.one x hx (by have := hx.2; omega)
  have hL : ∀ x : Int, (T.node .nil x .nil).list = [x] := fun x => rfl
  have hF : Forest l pr mk0 σ (fun x => .node .nil x .nil) := ⟨h.size, fun x hx => (h1 x hx).2.2, mk0_ok hl, fun x _ => by simp [hL], fun x hx y hy => by simp [hL] at hy; rw [hy], fun x _ => by simp [hL], fun x _ => ⟨fun y hy => (by cases hy), fun y hy => (by cases hy), trivial, trivial⟩, fun x hx => (h1 x hx).1, fun x hx => (h1 x hx).2.1⟩
  have hb0 : bitM 0 0 = false ∧ bitM 0 1 = false := by decide +kernel
  refine ⟨_, mk0, fun _ _ => [], ⟨⟨hF, ⟨fun i v hv => ?_, fun _ _ _ => trivial, fun _ _ _ _ h => (by cases h), fun _ _ _ => List.nodup_nil, fun _ _ _ _ _ _ _ h => (by cases h)⟩, fun i v hv => ⟨by simp [mk0, hb0], by simp [mk0, hb0]⟩, fun s i hi => ⟨hb0.1, by simp [mk0, hb0, Kg, G0]⟩, fun s i hi => hb0⟩, ⟨fun s hs => (by cases hs), fun s _ hs => (by cases hs), fun s hs => (by cases hs), fun s hs => (by cases hs), fun s hs => (by cases hs), fun a b h0 hab hbV _ => ?_⟩, fun i v hv y => ?_, fun s hs => (by cases hs.1), fun i s hs => (by cases hs.1), fun i hi => ⟨?_, fun s hs => (by cases hs.1), fun s d hd _ => rfl, fun s hs => (by cases hs.1), fun s _ hs => (by cases hs.1), fun s hs => (by cases hs.1), fun u v hu hv he => ?_⟩⟩⟩
  · rw [h.low _ (by have := head_b hl hv.2 hv.1; have := ord_b hl; omega)]; rfl
  · exact h.low _ (edge_b hl ⟨h0, hab⟩ hbV).2
  · constructor
    · intro hy; cases hy
    · rintro ⟨s, d, _, _, hs, _⟩; cases hs.1
  · intro x hx hxl y hy; simp [hL] at hy; rw [hy]; exact hxl
  · have : l.vertex i u = l.vertex i v := by injection he
    rw [((vertex_inj hl hu hv).1 this).2]; exact .refl _
end
end Go.Tm

namespace Go.Tm
open MemLike Eng
set_option linter.unusedSectionVars false
set_option linter.unusedVariables false
theorem get!_app {α : Type} [Inhabited α] {a b : Array α} {j : Nat} (h : j < a.size) : (a ++ b)[j]! = a[j]! := by
  rw [getElem!_pos (a ++ b) j (by simp; omega), getElem!_pos a j h, Array.getElem_append_left h]
theorem get!_app2 {α : Type} [Inhabited α] {a b : Array α} {j : Nat} (h : j < b.size) : (a ++ b)[a.size + j]! = b[j]! := by
  rw [getElem!_pos (a ++ b) (a.size + j) (by simp; omega), getElem!_pos b j h, Array.getElem_append_right (by omega)]
  simp
theorem get!_set {α : Type} [Inhabited α] {a : Array α} {i j : Nat} {x : α} (h : j < a.size) : (a.setIfInBounds i x)[j]! = if i = j then x else a[j]! := by
  rw [getElem!_pos (a.setIfInBounds i x) j (by simpa using h), getElem!_pos a j h, Array.getElem_setIfInBounds]
theorem grN_mem {f : Nat → EdR} {lv : Int} : ∀ {n k : Nat}, k < (grN f lv n).size → ∃ i, i < n ∧ (f i).tr = true ∧ lv ≤ (f i).lv ∧ (grN f lv n)[k]! = ((f i).u, (f i).v)
  | 0, k, h => by simp [grN] at h
  | n + 1, k, h => by
    by_cases hc : (f n).tr = true ∧ lv ≤ (f n).lv
    · rw [grN, if_pos hc] at h ⊢
      by_cases hk : k < (grN f lv n).size
      · obtain ⟨i, h1, h2, h3, h4⟩ := grN_mem hk
        exact ⟨i, by omega, h2, h3, by rw [get!_app hk]; exact h4⟩
      · have : k = (grN f lv n).size + 0 := by simp at h; omega
        exact ⟨n, by omega, hc.1, hc.2, by rw [this, get!_app2 (by simp)]; rfl⟩
    · rw [grN, if_neg hc] at h ⊢
      obtain ⟨i, h1, h2, h3, h4⟩ := grN_mem h
      exact ⟨i, by omega, h2, h3, h4⟩
theorem grN_has {f : Nat → EdR} {lv : Int} : ∀ {n i : Nat}, i < n → (f i).tr = true → lv ≤ (f i).lv → ∃ k, k < (grN f lv n).size ∧ (grN f lv n)[k]! = ((f i).u, (f i).v)
  | n + 1, i, hi, ht, hl => by
    by_cases hc : (f n).tr = true ∧ lv ≤ (f n).lv
    · rw [grN, if_pos hc]
      by_cases he : i = n
      · subst he; exact ⟨(grN f lv i).size + 0, by simp, by rw [get!_app2 (by simp)]; rfl⟩
      · obtain ⟨k, h1, h2⟩ := grN_has (n := n) (by omega) ht hl
        exact ⟨k, by simp; omega, by rw [get!_app h1]; exact h2⟩
    · rw [grN, if_neg hc]
      have he : i ≠ n := fun he => hc (by rw [← he]; exact ⟨ht, hl⟩)
      exact grN_has (n := n) (by omega) ht hl
theorem slotN_cases {f : Nat → EdR} {s : Int} {n : Nat} : (slotN f s n = -1 ∧ ∀ j, j < n → (f j).slot ≠ s) ∨ ∃ i, i < n ∧ slotN f s n = (i : Int) ∧ (f i).slot = s := by
  induction n with
  | zero => exact .inl ⟨rfl, fun j hj => absurd hj (Nat.not_lt_zero _)⟩
  | succ n ih =>
    rcases ih with ⟨h, hn⟩ | ⟨i, hi, h, hs⟩
    · by_cases he : (f n).slot = s
      · exact .inr ⟨n, by omega, by rw [slotN, h, if_neg (by decide), if_pos he], he⟩
      · refine .inl ⟨by rw [slotN, h, if_neg (by decide), if_neg he], fun j hj => ?_⟩
        by_cases hj' : j = n
        · rw [hj']; exact he
        · exact hn j (by omega)
    · exact .inr ⟨i, by omega, by rw [slotN, h, if_pos (by omega)], hs⟩
structure Mt (g : G) (d : Array EdR) : Prop where
  row : ∀ i, i < d.size → g.has d[i]!.slot = true ∧ g.u d[i]!.slot = d[i]!.u ∧ g.v d[i]!.slot = d[i]!.v ∧ g.lv d[i]!.slot = d[i]!.lv ∧ g.tr d[i]!.slot = d[i]!.tr
  cov : ∀ s, g.has s = true → ∃ i, i < d.size ∧ d[i]!.slot = s
  inj : ∀ i j, i < d.size → j < d.size → d[i]!.slot = d[j]!.slot → i = j
def Rel (l : Lay) (pr : Int → Int) (σ : M) (d : Array EdR) : Prop := ∃ g, Right l pr σ g ∧ Mt g d
theorem Mt.nil : Mt G0 #[] := ⟨fun i hi => absurd hi (Nat.not_lt_zero i), fun s (hs : false = true) => (by cases hs), fun i j hi => absurd hi (Nat.not_lt_zero i)⟩
section
variable {l : Lay} (hl : l.Ok) {p : Pen} (hp : PenOk p) {pr : Int → Int} {σ σ' : M} {g : G} {d : Array EdR}
include hl
theorem Rel.size (h : Rel l pr σ d) : d.size ≤ l.S := by
  obtain ⟨g, hR, hM⟩ := h
  have := nodup_len l.S ((List.range d.size).map fun i => d[i]!.slot + 1) (by
    refine List.Pairwise.map _ (fun i j hij => hij) (List.Pairwise.imp_of_mem (R := fun i j => i ≠ j) (fun {i j} hi hj hij he => ?_) List.nodup_range)
    exact hij (hM.inj i j (List.mem_range.1 hi) (List.mem_range.1 hj) (by omega))) (fun x hx => by
    obtain ⟨i, hi, rfl⟩ := List.mem_map.1 hx
    have := (hR.rng hl (hM.row i (List.mem_range.1 hi)).1).1
    omega)
  simpa using this
theorem Rel.rng (h : Rel l pr σ d) {i : Nat} (hi : i < d.size) : (0 ≤ d[i]!.slot ∧ d[i]!.slot < l.S) ∧ (0 ≤ d[i]!.u ∧ d[i]!.u < d[i]!.v ∧ d[i]!.v < l.V) ∧ 0 ≤ d[i]!.lv ∧ d[i]!.lv < l.lev := by
  obtain ⟨g, hR, hM⟩ := h
  obtain ⟨h1, h2, h3, h4, h5⟩ := hM.row i hi
  have := hR.rng hl h1
  rw [h2, h3, h4] at this; exact this
theorem forestB_iff (hR : Right l pr σ g) (hM : Mt g d) {i u v : Int} : forestB d i u v = true ↔ Jn g i u v := by
  unfold forestB joinB
  rw [@decide_eq_true_eq _ (Classical.propDecidable _)]
  unfold CN Jn
  constructor
  · intro h
    induction h with
    | refl => exact .refl _
    | @step w x _ k hk hex ih =>
      obtain ⟨j, h1, h2, h3, h4⟩ := grN_mem (f := fun i => d[i]!) (lv := i) (n := d.size) (k := k.toNat) (by omega)
      obtain ⟨r1, r2, r3, r4, r5⟩ := hM.row j h1
      dsimp only at hex h4
      rw [h4] at hex
      exact .step ih d[j]!.slot ⟨r1, by rw [r5]; exact h2, by rw [r4]; exact h3⟩ (by rw [r2, r3]; exact hex)
  · intro h
    induction h with
    | refl => exact .refl _
    | @step w x _ s hs hex ih =>
      obtain ⟨j, h1, rfl⟩ := hM.cov s hs.1
      obtain ⟨r1, r2, r3, r4, r5⟩ := hM.row j h1
      obtain ⟨k, h2, h3⟩ := grN_has (f := fun i => d[i]!) (lv := i) h1 (by rw [← r5]; exact hs.2.1) (by rw [← r4]; exact hs.2.2)
      rw [r2, r3] at hex
      have hr := (hR.rng hl r1).2.1
      rw [r2, r3] at hr
      refine .step ih (k : Int) ⟨by omega, by omega, ?_⟩ ?_
      · dsimp only; rw [Int.toNat_natCast, h3]; exact hr.1
      · dsimp only; rw [Int.toNat_natCast, h3]; exact hex
theorem Mt.put (hR : Right l pr σ g) (hM : Mt g d) {s u v : Int} {t : Bool} (hno : g.has s = false) : Mt (g.put s u v 0 t) (d ++ #[⟨s, u, v, 0, t⟩]) := by
  have hold : ∀ i, i < d.size → d[i]!.slot ≠ s := fun i hi he => by have := (hM.row i hi).1; rw [he, hno] at this; cases this
  refine ⟨fun i hi => ?_, fun q hq => ?_, fun i j hi hj he => ?_⟩
  · by_cases h : i < d.size
    · rw [get!_app h]
      have := hM.row i h
      unfold G.put updB updI
      dsimp only
      rw [if_neg (hold i h), if_neg (hold i h), if_neg (hold i h), if_neg (hold i h), if_neg (hold i h)]; exact this
    · have : i = d.size + 0 := by simp at hi; omega
      rw [this, get!_app2 (by simp)]
      unfold G.put updB updI
      simp
  · unfold G.put updB at hq
    dsimp only at hq
    by_cases h : q = s
    · exact ⟨d.size + 0, by simp, by rw [get!_app2 (by simp)]; exact h.symm⟩
    · rw [if_neg h] at hq
      obtain ⟨i, h1, h2⟩ := hM.cov q hq
      exact ⟨i, by simp; omega, by rw [get!_app h1]; exact h2⟩
  · simp at hi hj
    by_cases h : i < d.size <;> by_cases h' : j < d.size
    · rw [get!_app h, get!_app h'] at he; exact hM.inj i j h h' he
    · have e : j = d.size + 0 := by omega
      rw [get!_app h, e, get!_app2 (by simp)] at he
      exact absurd he (hold i h)
    · have e : i = d.size + 0 := by omega
      rw [get!_app h', e, get!_app2 (by simp)] at he
      exact absurd he.symm (hold j h')
    · omega
theorem cutA_size {i : Nat} (hi : i < d.size) : (cutA d i).size = d.size - 1 := by unfold cutA; simp [rngE_size]; omega
theorem cutA_get {i j : Nat} (hi : i < d.size) (hj : j < d.size - 1) : (cutA d i)[j]! = if j < i then d[j]! else d[j + 1]! := by
  unfold cutA
  by_cases h : j < i
  · rw [if_pos h, get!_app (by rw [rngE_size]; exact h), rngE_get _ h]
  · rw [if_neg h]
    have e : j = (rngE (fun j => d[j]!) i).size + (j - i) := by rw [rngE_size]; omega
    rw [e, get!_app2 (by rw [rngE_size]; omega), rngE_get _ (by omega), rngE_size]
    congr 1; omega
theorem Mt.del (hM : Mt g d) {i : Nat} (hi : i < d.size) : Mt (g.del d[i]!.slot) (cutA d i) := by
  have hne : ∀ j, j < d.size → j ≠ i → d[j]!.slot ≠ d[i]!.slot := fun j hj h he => h (hM.inj j i hj hi he)
  have hsz := cutA_size hl hi
  refine ⟨fun j hj => ?_, fun q hq => ?_, fun j k hj hk he => ?_⟩
  · rw [hsz] at hj
    rw [cutA_get hl hi hj]
    have key : ∀ k, k < d.size → k ≠ i → (g.del d[i]!.slot).has d[k]!.slot = true ∧ (g.del d[i]!.slot).u d[k]!.slot = d[k]!.u ∧ (g.del d[i]!.slot).v d[k]!.slot = d[k]!.v ∧ (g.del d[i]!.slot).lv d[k]!.slot = d[k]!.lv ∧ (g.del d[i]!.slot).tr d[k]!.slot = d[k]!.tr := fun k hk hki => by
      unfold G.del updB
      dsimp only
      rw [if_neg (hne k hk hki)]; exact hM.row k hk
    split
    · exact key j (by omega) (by omega)
    · exact key (j + 1) (by omega) (by omega)
  · unfold G.del updB at hq
    dsimp only at hq
    split at hq
    · cases hq
    · rename_i h
      obtain ⟨j, h1, h2⟩ := hM.cov q hq
      have hji : j ≠ i := fun he => h (by rw [← h2, he])
      by_cases hlt : j < i
      · exact ⟨j, by omega, by rw [cutA_get hl hi (by omega), if_pos hlt]; exact h2⟩
      · refine ⟨j - 1, by omega, ?_⟩
        rw [cutA_get hl hi (by omega), if_neg (by omega), show j - 1 + 1 = j by omega]; exact h2
  · rw [hsz] at hj hk
    rw [cutA_get hl hi hj, cutA_get hl hi hk] at he
    split at he <;> split at he
    · exact hM.inj j k (by omega) (by omega) he
    · have := hM.inj j (k + 1) (by omega) (by omega) he; omega
    · have := hM.inj (j + 1) k (by omega) (by omega) he; omega
    · have := hM.inj (j + 1) (k + 1) (by omega) (by omega) he; omega
theorem Mt.lift (hM : Mt g d) {i : Nat} (hi : i < d.size) {x : Int} : Mt (g.lift d[i]!.slot x) (d.setIfInBounds i { d[i]! with lv := x }) := by
  have hslot : ∀ j, j < d.size → (d.setIfInBounds i { d[i]! with lv := x })[j]!.slot = d[j]!.slot := fun j hj => by
    rw [get!_set hj]; split
    · rename_i h; subst h; rfl
    · rfl
  refine ⟨fun j hj => ?_, fun q hq => ?_, fun j k hj hk he => ?_⟩
  · simp at hj
    rw [hslot j hj, get!_set hj]
    obtain ⟨r1, r2, r3, r4, r5⟩ := hM.row j hj
    unfold G.lift updI
    dsimp only
    by_cases h : i = j
    · subst h; rw [if_pos rfl, if_pos rfl]; exact ⟨r1, r2, r3, rfl, r5⟩
    · rw [if_neg h, if_neg (fun he => h (hM.inj i j hi hj he.symm))]; exact ⟨r1, r2, r3, r4, r5⟩
  · obtain ⟨j, h1, h2⟩ := hM.cov q hq
    exact ⟨j, by simpa using h1, by rw [hslot j h1]; exact h2⟩
  · simp at hj hk
    rw [hslot j hj, hslot k hk] at he; exact hM.inj j k hj hk he
theorem P1_ok : PenOk P1 := ⟨by decide, by decide⟩
theorem Rel.put (h : Rel l pr σ d) {o : OpR} (hv : ¬ (o.u = o.v ∨ o.u < 0 ∨ l.V ≤ o.u ∨ o.v < 0 ∨ l.V ≤ o.v ∨ o.slot < 0 ∨ l.S ≤ o.slot)) (hs : slotN (fun i => d[i]!) o.slot d.size = -1) :
    ∃ σ2 d2, putA l 561 σ d o = some (σ2, d2) ∧ Rel l pr σ2 d2 := by
  obtain ⟨g, hR, hM⟩ := h
  have hno : g.has o.slot = false := by
    rw [Bool.eq_false_iff]; intro hc
    obtain ⟨i, h1, h2⟩ := hM.cov _ hc
    rcases slotN_cases (f := fun i => d[i]!) (s := o.slot) (n := d.size) with ⟨_, hn⟩ | ⟨j, _, hj, _⟩
    · exact hn i h1 h2
    · omega
  unfold putA
  by_cases hd : dupB d (min o.u o.v) (max o.u o.v)
  · rw [if_pos hd]; exact ⟨σ, d, rfl, g, hR, hM⟩
  · rw [if_neg hd]
    have hfree : ∀ s, g.has s = true → ¬ (g.u s = min o.u o.v ∧ g.v s = max o.u o.v) := fun s hs he => by
      obtain ⟨i, h1, rfl⟩ := hM.cov s hs
      obtain ⟨r1, r2, r3, _⟩ := hM.row i h1
      exact hd ⟨i, h1, by rw [← r2]; exact he.1, by rw [← r3]; exact he.2⟩
    have hfi := forestB_iff hl hR hM (i := 0) (u := min o.u o.v) (v := max o.u o.v)
    cases hf : forestB d 0 (min o.u o.v) (max o.u o.v) with
    | true =>
      obtain ⟨σ', e, hR'⟩ := hR.put_add hl (P1_ok hl) (s := o.slot) (a := o.u) (b := o.v) (k := 561) ⟨by omega, by omega⟩ (by omega) (by omega) (by omega) hno hfree (by decide)
      rw [if_pos rfl, e]
      exact ⟨σ', _, rfl, _, hR', hM.put hl hR hno⟩
    | false =>
      have hj : ¬ Jn g 0 (min o.u o.v) (max o.u o.v) := fun hj => by rw [← hfi, hf] at hj; cases hj
      obtain ⟨σ', e, hR'⟩ := hR.put_plant hl (P1_ok hl) (s := o.slot) (a := o.u) (b := o.v) (k := 561) ⟨by omega, by omega⟩ (by omega) (by omega) (by omega) hno hfree hj (by decide)
      rw [if_neg (by decide), e]
      exact ⟨σ', _, rfl, _, hR', hM.put hl hR hno⟩
theorem Rel.fell (h : Rel l pr σ d) {i : Nat} (hi : i < d.size) (ht : d[i]!.tr = true) : ∃ σ1, Go.Tm.fell l P1 561 σ d[i]!.slot = some σ1 ∧ Rel l pr (eremove l σ1 d[i]!.u d[i]!.v) (cutA d i) := by
  obtain ⟨g, hR, hM⟩ := h
  obtain ⟨r1, r2, r3, r4, r5⟩ := hM.row i hi
  obtain ⟨σ', e, hR'⟩ := hR.fell_del hl (P1_ok hl) r1 (by rw [r5]; exact ht) (k := 561) (by decide)
  rw [r2, r3] at hR'
  exact ⟨σ', e, _, hR', hM.del hl hi⟩
theorem Rel.remove (h : Rel l pr σ d) {i : Nat} (hi : i < d.size) (ht : d[i]!.tr = false) : ∃ σ1, Go.Tm.remove l 561 σ d[i]!.slot = some σ1 ∧ Rel l pr (eremove l σ1 d[i]!.u d[i]!.v) (cutA d i) := by
  obtain ⟨g, hR, hM⟩ := h
  obtain ⟨r1, r2, r3, r4, r5⟩ := hM.row i hi
  obtain ⟨σ', e, hR'⟩ := hR.remove_del hl r1 (by rw [r5]; exact ht) (k := 561) (by decide)
  rw [r2, r3] at hR'
  exact ⟨σ', e, _, hR', hM.del hl hi⟩
theorem Rel.treeUp (h : Rel l pr σ d) {i : Nat} (hi : i < d.size) (ht : d[i]!.tr = true) (hv : d[i]!.lv + 1 < l.lev) : ∃ σ1, Go.Tm.treeUp l P1 561 σ d[i]!.slot = some σ1 ∧ Rel l pr σ1 (d.setIfInBounds i { d[i]! with lv := d[i]!.lv + 1 }) := by
  obtain ⟨g, hR, hM⟩ := h
  obtain ⟨r1, r2, r3, r4, r5⟩ := hM.row i hi
  obtain ⟨σ', e, hR'⟩ := hR.treeUp hl (P1_ok hl) r1 (by rw [r5]; exact ht) (by rw [r4]; exact hv) (k := 561) (by decide)
  rw [r4] at hR'
  exact ⟨σ', e, _, hR', hM.lift hl hi⟩
theorem Rel.plain (h : Rel l pr σ d) {i : Nat} (hi : i < d.size) (ht : d[i]!.tr = false) (hv : d[i]!.lv + 1 < l.lev) : ∃ σ1, Go.Tm.plain l 561 σ d[i]!.slot = some σ1 ∧ Rel l pr σ1 (d.setIfInBounds i { d[i]! with lv := d[i]!.lv + 1 }) := by
  obtain ⟨g, hR, hM⟩ := h
  obtain ⟨r1, r2, r3, r4, r5⟩ := hM.row i hi
  obtain ⟨σ', e, hR'⟩ := hR.plain hl r1 (by rw [r5]; exact ht) (by rw [r4]; exact hv) (k := 561) (by decide)
  rw [r4] at hR'
  exact ⟨σ', e, _, hR', hM.lift hl hi⟩
theorem Rel.born {dn : Nat} {fd : Nat → Int} (hfd : ∀ i, i < dn → 0 ≤ fd i ∧ fd i < 18446744073709551616) {N : Nat} (hN : (N : Int) = l.cells) : Rel l (fun x => if dn = 0 then 0 else fd (x.toNat % dn)) (bornF l dn fd l.nodes.toNat (Array.replicate N 0)) #[] := by
  have hb := nodes_b hl
  have := BI.born hl (P1_ok hl) hfd hN l.nodes.toNat (by omega)
  rw [show ((l.nodes.toNat : Nat) : Int) = l.nodes by omega] at this
  exact ⟨G0, this.right hl, Mt.nil⟩
end
theorem CN_col {f : Nat → Int × Int} {n : Nat} {u v : Int} (c : Int → Nat) (h : ∀ k, k < n → c (f k).1 = c (f k).2) (huv : c u ≠ c v) : ¬ CN f n u v := fun hc => by
  refine huv ?_
  unfold CN at hc
  induction hc with
  | refl => rfl
  | @step w x _ k hk hex ih =>
    have h1 := h k.toNat (by omega)
    have h2 : c w = c x := by rcases hex with ⟨e1, e2⟩ | ⟨e1, e2⟩ <;> rw [← e1, ← e2, h1]
    by_cases h3 : c u = c w
    · rw [h3, h2]
    · exact (ih h3).trans h2
end Go.Tm

namespace Go.Tm
open MemLike Eng
set_option linter.unusedSectionVars false
set_option linter.unusedVariables false
def okL (V S T : Int) : Prop := 1 ≤ V ∧ V ≤ 16 ∧ 0 ≤ S ∧ S ≤ 48 ∧ 1 ≤ T ∧ T ≤ 8
instance (V S T : Int) : Decidable (okL V S T) := by unfold okL; infer_instance
theorem okL_lay {V S T : Int} (h : okL V S T) : ∃ l : Lay, l.Ok ∧ V = l.V ∧ S = l.S ∧ T = l.T := by
  unfold okL at h
  exact ⟨⟨V.toNat, S.toNat, T.toNat⟩, ⟨by dsimp only; omega, by dsimp only; omega, by dsimp only; omega, by dsimp only; omega, by dsimp only; omega⟩, by dsimp only; omega, by dsimp only; omega, by dsimp only; omega⟩
theorem putA_plant {l : Lay} {k : Nat} {σ σ1 : M} {d : Array EdR} {o : OpR} (hd : ¬ dupB d (min o.u o.v) (max o.u o.v)) (hf : forestB d 0 (min o.u o.v) (max o.u o.v) = false) (h : plant l P1 k (eput l σ o.slot o.u o.v 0 false) o.slot = some σ1) : putA l k σ d o = some (σ1, d ++ #[⟨o.slot, min o.u o.v, max o.u o.v, 0, true⟩]) := by
  unfold putA
  rw [if_neg hd, hf, if_neg (by decide), h]; rfl
theorem putA_add {l : Lay} {k : Nat} {σ σ1 : M} {d : Array EdR} {o : OpR} (hd : ¬ dupB d (min o.u o.v) (max o.u o.v)) (hf : forestB d 0 (min o.u o.v) (max o.u o.v) = true) (h : add l k (eput l σ o.slot o.u o.v 0 false) o.slot = some σ1) : putA l k σ d o = some (σ1, d ++ #[⟨o.slot, min o.u o.v, max o.u o.v, 0, false⟩]) := by
  unfold putA
  rw [if_neg hd, hf, if_pos rfl, h]; rfl
noncomputable def cntF (d : Array EdR) (lv u : Int) (k : Nat) : Nat := (List.range k).countP fun w : Nat => forestB d lv u (w : Int)
theorem cntF_T {d : Array EdR} {lv u : Int} {k : Nat} (h : forestB d lv u (k : Int) = true) : cntF d lv u k + 1 = cntF d lv u (k + 1) := by
  unfold cntF; rw [List.range_succ, List.countP_append]; simp [h]
theorem cntF_F {d : Array EdR} {lv u : Int} {k : Nat} (h : forestB d lv u (k : Int) = false) : cntF d lv u k = cntF d lv u (k + 1) := by
  unfold cntF; rw [List.range_succ, List.countP_append]; simp [h]
theorem cntF_le {d : Array EdR} {lv u : Int} {k : Nat} : cntF d lv u k ≤ k := by
  unfold cntF; have := List.countP_le_length (p := fun w : Nat => forestB d lv u (w : Int)) (l := List.range k); simpa using this
theorem Rel.smaller {l : Lay} (hl : l.Ok) {pr : Int → Int} {σ : M} {d : Array EdR} (h : Rel l pr σ d) {i u v : Int} (hu : l.okV i u) (hv : l.okV i v) : Go.Tm.smaller l 561 σ i u v = some (if cntF d i v l.V < cntF d i u l.V then v else u, σ) := by
  obtain ⟨g, hR, hM⟩ := h
  have hc : ∀ w, nv l g i w = cntF d i w l.V := fun w => by
    unfold nv cntF
    refine List.countP_congr fun x _ => ?_
    rw [@decide_eq_true_eq _ (Classical.propDecidable _)]
    exact (forestB_iff hl hR hM).symm
  rw [hR.smaller hl hu hv (k := 561) (by decide), hc, hc]
def l13 : Lay := ⟨4, 3, 1⟩
theorem l13_ok : l13.Ok := by unfold Lay.Ok; decide
def s13 : M := bornF l13 0 (fun _ => 0) l13.nodes.toNat (Array.replicate l13.cells.toNat 0)
def aw13 : Option (Int × Bool × (Int × Bool) × Bool × Bool) :=
  (plant l13 P1 50 (eput l13 s13 0 0 1 0 false) 0).bind fun a1 => (plant l13 P1 50 (eput l13 a1 1 1 2 0 false) 1).bind fun a2 => (add l13 50 (eput l13 a2 2 0 2 0 false) 2).bind fun a3 =>
    (smaller l13 50 a3 0 0 3).bind fun r4 => (treeUp l13 P1 50 r4.2 0).bind fun a5 => (linkedT l13 50 a5 1 0).bind fun r6 => (fell l13 P1 50 r6.2 1).bind fun a7 => (seek l13 50 a7 0 2).bind fun r8 =>
      (linkedT l13 50 r8.2 0 1).bind fun r9 => (same l13 50 r9.2 1 0 1).bind fun r10 => some (r4.1, r6.1, r8.1, r9.1, r10.1)
set_option maxRecDepth 100000 in
theorem aw13_eq : aw13 = some (3, true, (2, true), false, true) := by decide +kernel
theorem forest_no {d : Array EdR} {u v : Int} (c : Int → Nat) (h : ∀ k, k < (grN (fun i => d[i]!) 0 d.size).size → c (grN (fun i => d[i]!) 0 d.size)[k]!.1 = c (grN (fun i => d[i]!) 0 d.size)[k]!.2) (huv : c u ≠ c v) : forestB d 0 u v = false := by
  unfold forestB joinB
  rw [@decide_eq_false_iff_not _ (Classical.propDecidable _)]
  exact CN_col c h huv
theorem aw13_run : ∃ a1 a2 a3 a4 a5 a6 a7 a8 a9 a10 : M, putA l13 50 s13 #[] ⟨1, 0, 0, 1⟩ = some (a1, #[⟨0, 0, 1, 0, true⟩]) ∧ putA l13 50 a1 #[⟨0, 0, 1, 0, true⟩] ⟨1, 1, 1, 2⟩ = some (a2, #[⟨0, 0, 1, 0, true⟩, ⟨1, 1, 2, 0, true⟩]) ∧
    putA l13 50 a2 #[⟨0, 0, 1, 0, true⟩, ⟨1, 1, 2, 0, true⟩] ⟨1, 2, 0, 2⟩ = some (a3, #[⟨0, 0, 1, 0, true⟩, ⟨1, 1, 2, 0, true⟩, ⟨2, 0, 2, 0, false⟩]) ∧ smaller l13 50 a3 0 0 3 = some (3, a4) ∧ treeUp l13 P1 50 a4 0 = some a5 ∧ linkedT l13 50 a5 1 0 = some (true, a6) ∧
    fell l13 P1 50 a6 1 = some a7 ∧ seek l13 50 a7 0 2 = some ((2, true), a8) ∧ linkedT l13 50 a8 0 1 = some (false, a9) ∧ same l13 50 a9 1 0 1 = some (true, a10) := by
  have h := aw13_eq
  unfold aw13 at h
  obtain ⟨a1, h1, h⟩ := Option.bind_eq_some_iff.1 h
  obtain ⟨a2, h2, h⟩ := Option.bind_eq_some_iff.1 h
  obtain ⟨a3, h3, h⟩ := Option.bind_eq_some_iff.1 h
  obtain ⟨⟨r4, a4⟩, h4, h⟩ := Option.bind_eq_some_iff.1 h
  obtain ⟨a5, h5, h⟩ := Option.bind_eq_some_iff.1 h
  obtain ⟨⟨r6, a6⟩, h6, h⟩ := Option.bind_eq_some_iff.1 h
  obtain ⟨a7, h7, h⟩ := Option.bind_eq_some_iff.1 h
  obtain ⟨⟨r8, a8⟩, h8, h⟩ := Option.bind_eq_some_iff.1 h
  obtain ⟨⟨r9, a9⟩, h9, h⟩ := Option.bind_eq_some_iff.1 h
  obtain ⟨⟨r10, a10⟩, h10, h⟩ := Option.bind_eq_some_iff.1 h
  simp only [Option.some.injEq, Prod.mk.injEq] at h
  obtain ⟨rfl, rfl, rfl, rfl, rfl⟩ := h
  refine ⟨a1, a2, a3, a4, a5, a6, a7, a8, a9, a10, ?_, ?_, ?_, h4, h5, h6, h7, h8, h9, h10⟩
  · exact putA_plant (o := ⟨1, 0, 0, 1⟩) (by rintro ⟨j, hj, _⟩; simp at hj) (forest_no (fun x => x.toNat) (by decide) (by decide)) h1
  · exact putA_plant (o := ⟨1, 1, 1, 2⟩) (by rintro ⟨j, hj, h⟩; revert h; revert j; decide) (forest_no (fun x => if x = 2 then 1 else 0) (by decide) (by decide)) h2
  · refine putA_add (o := ⟨1, 2, 0, 2⟩) (by rintro ⟨j, hj, h⟩; revert h; revert j; decide) ?_ h3
    unfold forestB joinB
    rw [@decide_eq_true_eq _ (Classical.propDecidable _)]
    exact CN.step (k := 1) (x := 1) (CN.step (k := 0) (x := 0) (Conn.refl _) (by decide) (by decide) (by decide)) (by decide) (by decide) (by decide)
end Go.Tm

