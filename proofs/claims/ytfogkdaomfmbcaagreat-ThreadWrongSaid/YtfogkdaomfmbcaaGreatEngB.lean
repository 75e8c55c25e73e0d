import Derived.Test.YtfogkdaomfmbcaaGreatEng
import Derived.Laws.MakeOwn
import Derived.Laws.Pointers
set_option linter.unusedVariables false
set_option linter.unusedSimpArgs false
/-! memory that is reckoned with: an arena's block of words -/
namespace Go.Eng
open Go.Tm
def encM (σ : Array UInt64) : Array Value := σ.map fun x => .int .u64 (x.toNat : Int)
theorem encM_size (σ : Array UInt64) : (encM σ).size = σ.size := by simp [encM]
theorem encM_get (σ : Array UInt64) {i : Nat} (h : i < σ.size) : (encM σ)[i]? = some (.int .u64 (σ[i]!.toNat : Int)) := by
  rw [encM, Array.getElem?_map, Array.getElem?_eq_getElem h, getElem!_pos σ i h]; rfl
theorem encM_set (σ : Array UInt64) (i : Nat) (x : UInt64) : (encM σ).setIfInBounds i (.int .u64 (x.toNat : Int)) = encM (σ.setIfInBounds i x) := by
  unfold encM
  apply Array.ext_getElem?
  intro j
  rw [Array.getElem?_setIfInBounds, Array.getElem?_map, Array.getElem?_map, Array.getElem?_setIfInBounds]
  by_cases h : i = j
  · subst h
    by_cases hs : i < σ.size <;> simp [hs]
  · simp [h]
theorem u64_lt (x : UInt64) : (x.toNat : Int) < 18446744073709551616 := by have := x.toNat_lt; omega
theorem u64_of {v : Int} (h : 0 ≤ v ∧ v < 18446744073709551616) : ((UInt64.ofNat v.toNat).toNat : Int) = v := by
  rw [UInt64.toNat_ofNat', Nat.mod_eq_of_lt (by omega)]; omega
instance : MemLike (Array UInt64) where
  get σ i := if 0 ≤ i ∧ i < σ.size then (σ[i.toNat]!.toNat : Int) else 0
  ld σ _ := σ
  st σ i v := if 0 ≤ i ∧ i < σ.size then σ.setIfInBounds i.toNat (UInt64.ofNat v.toNat) else σ
  rng σ i := by
    have := u64_lt σ[i.toNat]!
    split <;> omega
theorem am_get (σ : Array UInt64) (i : Int) : MemLike.get σ i = if 0 ≤ i ∧ i < σ.size then (σ[i.toNat]!.toNat : Int) else 0 := rfl
theorem am_ld (σ : Array UInt64) (i : Int) : MemLike.ld σ i = σ := rfl
theorem am_st (σ : Array UInt64) (i v : Int) : MemLike.st σ i v = if 0 ≤ i ∧ i < σ.size then σ.setIfInBounds i.toNat (UInt64.ofNat v.toNat) else σ := rfl
section
variable {P : Program} {w0 : World} {R : Assn} {n : Nat} {Q : Exit → Act → World → Prop} {env : List (Nat × Value)} {L : List (Nat × Assn)}
variable {ks : List Nat} {L0 : List (Nat × Assn)} {ops : Array Oper} {rest : List (Bool × Oper)}
variable {fl : Bool} {d : Option Tmp} {x y z : Operand} {ty T z' : TypeId} {ps : String} {af : Array Edge} {g : Option (Nat × Bool)}
theorem TL.ldM (k : Nat) {b : Nat} {i : Int} {σ : Array UInt64} {T' : TypeId} (hx : evO env x = some (.pointer (some ⟨b, 0 + i.toNat * 1, none⟩))) (hL : lk (bif fl then sel L0 ks else L) k = some (pt b (.cells (encM σ) T'))) (h0 : 0 ≤ i) (hi : i < σ.size) (hT : scalB P T = true)
    (hg : guardV ops env g = some true) (hd : okD n d = true) (h : TL P w0 R n ks L0 ops Q rest (setE env d (.int .u64 (MemLike.get σ i))) L) : TL P w0 R n ks L0 ops Q ((fl, ⟨d, .load T x, ty, ps, af, g⟩) :: rest) env L := by
  refine TL.ld k (.int .u64 (MemLike.get σ i)) hx hL ?_ hT hg hd h
  rw [nth_eq, Array.getElem?_toList, Nat.zero_add, Nat.mul_one, encM_get σ (by omega), am_get, if_pos ⟨h0, hi⟩]
theorem TL.stM (k : Nat) {b : Nat} {i v : Int} {σ : Array UInt64} {T' : TypeId} (hx : evO env x = some (.pointer (some ⟨b, 0 + i.toNat * 1, none⟩))) (hy : evO env y = some (.int .u64 v)) (hL : lk L k = some (pt b (.cells (encM σ) T'))) (h0 : 0 ≤ i) (hi : i < σ.size) (hv : 0 ≤ v ∧ v < 18446744073709551616) (hT : scalB P T = true)
    (hg : guardV ops env g = some true) (hd : okD n d = true) (hk : Keep L0 ((k, pt b (.cells (encM (MemLike.st σ i v)) T')) :: L) ks)
    (h : TL P w0 R n ks L0 ops Q rest (setE env d undef) ((k, pt b (.cells (encM (MemLike.st σ i v)) T')) :: L)) : TL P w0 R n ks L0 ops Q ((false, ⟨d, .store T x y, ty, ps, af, g⟩) :: rest) env L := by
  refine TL.st k (encM (MemLike.st σ i v)) (.int .u64 v) hx hy rfl hL (by rw [Nat.blt_eq, encM_size]; omega) ?_ hT hg hd hk h
  have e := encM_set σ i.toNat (UInt64.ofNat v.toNat)
  rw [u64_of hv] at e
  rw [Nat.zero_add, Nat.mul_one, e, am_st, if_pos ⟨h0, hi⟩]
/-- 'make([]E, n)', E of one cell -/
theorem TL.mks (k : Nat) {E : TypeId} {N : Nat} {zv : Value} {i : TypeInfo} (hx : evO env x = some (.int .i64 (N : Int))) (hy : evO env y = some (.int .i64 (N : Int))) (hS : sliceB P T E 1 = true) (hi : P.info? E = some i) (hz : i.zero = some zv) (hone : one zv = true) (hb : i.bytes ≤ 1000) (hN : N ≤ 1000000)
    (hg : guardV ops env g = some true) (hd : okD n d = true)
    (h : ∀ b, Keep L0 ((k, pt b (.cells (Array.replicate N zv) E)) :: L) ks ∧ TL P w0 R n ks L0 ops Q rest (setE env d (.slice (some ⟨b, 0, none⟩) N N)) ((k, pt b (.cells (Array.replicate N zv) E)) :: L)) :
    TL P w0 R n ks L0 ops Q ((false, ⟨d, .makeSlice T x y, ty, ps, af, g⟩) :: rest) env L := by
  obtain ⟨ii, h2, h3, h4⟩ := sliceB_spec hS
  rw [h3] at hi; cases hi
  refine TL.act hg hd fun a w ha hs => ?_
  refine ⟨_, _, _, .inl ?_, hs.alloc k (.cells (Array.replicate N zv) E), (h w.heap.size).1, (h w.heap.size).2⟩
  have hzc : zv.cells = #[zv] := one_cells hone
  have hlt : (i.bytes : Int) * (N : Int) ≤ 281474976710656 := by
    have : i.bytes * N ≤ 1000 * 1000000 := Nat.mul_le_mul hb hN
    have h9 : ((i.bytes * N : Nat) : Int) ≤ 1000 * 1000000 := by omega
    rw [Int.natCast_mul] at h9
    omega
  have hr := run_make (P := P) w T E i zv h2 h3 hz .i64 .i64 N N (by omega) (Int.le_refl _) hlt (by omega)
  simp only [Int.toNat_natCast, h4, Nat.mul_one, hzc] at hr
  have hrow : madeCells #[zv] N = Array.replicate N zv := by
    apply Array.ext
    · simp [madeCells]
    · intro j h1 h2
      simp [madeCells, Nat.mod_one]
  rw [hrow] at hr
  simp only [execOp, ha.eval hx, ha.eval hy, run_bind, hr]
  rfl
end
section
variable {P : Program} {w0 : World} {R : Assn} {n : Nat} {Q : Exit → Act → World → Prop} {env : List (Nat × Value)} {L : List (Nat × Assn)}
variable {ks : List Nat} {L0 : List (Nat × Assn)} {ops : Array Oper} {rest : List (Bool × Oper)}
variable {d : Option Tmp} {x y : Operand} {ty T : TypeId} {ps : String} {af : Array Edge} {g : Option (Nat × Bool)}
theorem TL.mkS (k : Nat) {E : TypeId} {N : Nat} {zv : Value} (hx : evO env x = some (.int .i64 (N : Int))) (hy : evO env y = some (.int .i64 (N : Int))) (hT : appB P T E 1 = true) (hz : zeroV P E = some zv) (hone : one zv = true) (hN : N ≤ 1000000)
    (hg : guardV ops env g = some true) (hd : okD n d = true)
    (h : ∀ b, Keep L0 ((k, pt b (.cells (Array.replicate N zv) E)) :: L) ks ∧ TL P w0 R n ks L0 ops Q rest (setE env d (.slice (some ⟨b, 0, none⟩) N N)) ((k, pt b (.cells (Array.replicate N zv) E)) :: L)) :
    TL P w0 R n ks L0 ops Q ((false, ⟨d, .makeSlice T x y, ty, ps, af, g⟩) :: rest) env L := by
  obtain ⟨h1, i, z, h2, h3, h4, h5, h6⟩ := appB_spec hT
  have hzi : i.zero = some zv := by unfold zeroV at hz; rw [h2] at hz; exact hz
  exact TL.mks k hx hy (by unfold sliceB; rw [h1, h2]; simp [Nat.beq_eq, h4]) h2 hzi hone h6 hN hg hd h
end
/-- a method of a type that is no pointer, of its own -/
def methB (P : Program) (t : TypeId) (name : String) (f : FuncId) : Bool :=
  match P.info? t, P.underlying t with
  | some i, some d => (match i.methods.find? (·.name == name) with
    | some m => m.path.isEmpty && (match m.func with | some (g, p) => Nat.beq g f && !p | none => false)
    | none => false) && (match d with | .pointer _ => false | _ => true)
  | _, _ => false
theorem meth_val {P : Program} {t : TypeId} {name : String} {f : FuncId} {v : Value} (h : methB P t name f = true) (hf : callB P f = true) : Meth P (.iface t v) name f v := by
  intro args w
  unfold methB at h
  split at h
  · rename_i i d hi hd
    simp only [Bool.and_eq_true] at h
    obtain ⟨h1, h2⟩ := h
    split at h1
    · rename_i m hm
      simp only [Bool.and_eq_true] at h1
      obtain ⟨hp, h3⟩ := h1
      split at h3
      · rename_i g p hg
        simp only [Bool.and_eq_true, Bool.not_eq_true'] at h3
        obtain ⟨h4, rfl⟩ := h3
        obtain rfl := Nat.eq_of_beq_eq_true h4
        have hpath : m.path = #[] := by simpa using hp
        have hpr : (program : Sem Program).run P w = .ok P w := by simp [program, Sem.run]
        have hpos : 0 < Made.depth := by decide
        have hfuel : ∃ k, P.types.size + Made.depth = k + 1 := ⟨P.types.size + Made.depth - 1, (by omega)⟩
        obtain ⟨k, hk⟩ := hfuel
        have hmeth : (method (k + 1) t v name).run P w = .ok (g, v) w := by
          simp only [method, run_bind, run_typeInfo hi, hm, hpath, hg, follow, List.toList_toArray, run_pure, receiverAt, run_underlying hd]
          cases d <;> first | (cases h2; done) | simp [run_bind, run_underlying hd, Place.get]
        simp only [callMethod, run_bind, hpr, hk, hmeth]
        exact run_callFunc hf
      · cases h3
    · cases h1
  · cases h
theorem nil_val {P : Program} {t : TypeId} {name : String} {f : FuncId} {v : Value} (h : methB P t name f = true) (w : World) : (nilAhead (P.types.size + Made.depth) t v name).run P w = .ok (some false) w := by
  unfold methB at h
  split at h
  · rename_i i d hi hd
    simp only [Bool.and_eq_true] at h
    obtain ⟨h1, h2⟩ := h
    split at h1
    · rename_i m hm
      simp only [Bool.and_eq_true] at h1
      obtain ⟨hp, h3⟩ := h1
      split at h3
      · rename_i g p hg
        simp only [Bool.and_eq_true, Bool.not_eq_true'] at h3
        obtain ⟨h4, rfl⟩ := h3
        have hpath : m.path = #[] := by simpa using hp
        have hpos : 0 < Made.depth := by decide
        have hfuel : ∃ k, P.types.size + Made.depth = k + 1 := ⟨P.types.size + Made.depth - 1, (by omega)⟩
        obtain ⟨k, hk⟩ := hfuel
        rw [hk]
        simp only [nilAhead, run_bind, run_typeInfo hi, hm, hpath, hg, followBlind, List.toList_toArray, run_pure, run_underlying hd]
        cases d <;> first | (cases h2; done) | rfl
      · cases h3
    · cases h1
  · cases h
section
variable {P : Program} {w0 : World} {R : Assn} {n : Nat} {Q : Exit → Act → World → Prop} {env : List (Nat × Value)} {L : List (Nat × Assn)}
variable {ks : List Nat} {L0 : List (Nat × Assn)} {ops : Array Oper} {rest : List (Bool × Oper)}
variable {fl : Bool} {d : Option Tmp} {x y : Operand} {ty T z' : TypeId} {ps : String} {af : Array Edge} {g : Option (Nat × Bool)}
/-- a method value is no nil -/
theorem TL.ncM {t : TypeId} {name : String} {f : FuncId} {v : Value} (hm : methB P t name f = true) (hx : evO env x = some (.func (.method name) #[.iface t v] #[])) (hg : guardV ops env g = some true) (hd : okD n d = true)
    (h : TL P w0 R n ks L0 ops Q rest (setE env d (.func (.method name) #[.iface t v] #[])) L) : TL P w0 R n ks L0 ops Q ((fl, ⟨d, .nilCheck x, ty, ps, af, g⟩) :: rest) env L :=
  TL.pure hg hd (fun a w ha => by
    have hpr : (program : Sem Program).run P w = .ok P w := by simp [program, Sem.run]
    have hn := nil_val (v := v) hm w
    simp only [execOp, ha.eval hx]
    simp [run_bind, hpr, hn]) h
def nilR : BinOp → Option Addr → Option Bool
  | .eql, p => some p.isNone
  | .neq, p => some !p.isNone
  | _, _ => none
theorem TL.nilP {op : BinOp} (v : Bool) {p : Option Addr} (hx : evO env x = some (.pointer p)) (hy : evO env y = some (.pointer none)) (hT : ptrB P T = true) (hv : nilR op p = some v) (hg : guardV ops env g = some true) (hd : okD n d = true)
    (h : TL P w0 R n ks L0 ops Q rest (setE env d (.bool v)) L) : TL P w0 R n ks L0 ops Q ((fl, ⟨d, .binOp op T x y z', ty, ps, af, g⟩) :: rest) env L := by
  obtain ⟨e, i, h1, _, _⟩ := ptrB_spec hT
  have hu : P.underlying T = some (.pointer (P.pointee T)) := by unfold Program.pointee; rw [h1]
  refine TL.pure hg hd (fun a w ha => ?_) h
  have he := run_equalIn_pointer_nil (P := P) w 9999 T p hu
  cases op <;> simp only [nilR, Option.some.injEq] at hv <;> first | (cases hv; done) | skip
  · have e1 : (eqGuard .eql T x y (.pointer p) (.pointer none)).run P w = .ok () w := by unfold eqGuard; rfl
    have e2 : (binOp .eql T (.pointer p) (.pointer none)).run P w = .ok (.bool v) w := by
      have : binOp .eql T (.pointer p) (.pointer none) = (do Pure.pure (.bool (← Op.equalIn (9999 + 1) T (.pointer p) (.pointer none)))) := rfl
      rw [this, run_bind, he, ← hv]; rfl
    simp only [execOp, ha.eval hx, ha.eval hy, run_bind, e1, e2]; rfl
  · have e1 : (eqGuard .neq T x y (.pointer p) (.pointer none)).run P w = .ok () w := by unfold eqGuard; rfl
    have e2 : (binOp .neq T (.pointer p) (.pointer none)).run P w = .ok (.bool v) w := by
      have : binOp .neq T (.pointer p) (.pointer none) = (do Pure.pure (.bool (!(← Op.equalIn (9999 + 1) T (.pointer p) (.pointer none))))) := rfl
      rw [this, run_bind, he, ← hv]; rfl
    simp only [execOp, ha.eval hx, ha.eval hy, run_bind, e1, e2]; rfl
end
/-! ### an arena: its own block, and its words' -/
structure Cnt where
  c1 : Int
  c2 : Int
  c3 : Int
  c4 : Int
  c5 : Int
def arO (ab mb N : Nat) (T : TypeId) (c : Cnt) : Assn := pt ab (.cells #[.slice (some ⟨mb, 0, none⟩) N N, .int .i64 c.c1, .int .i64 c.c2, .int .i64 c.c3, .int .i64 c.c4, .int .i64 c.c5] T)
/-- an arena with these words -/
def arenaA (ab mb : Nat) (T T' : TypeId) (σ : Array UInt64) : Assn := ex fun c : Cnt => star (arO ab mb σ.size T c) (pt mb (.cells (encM σ) T'))
/-- a contract over the two blocks is one over the arena -/
theorem Fn.arena {P : Program} {f : FuncId} {args : List Value} {ab mb : Nat} {T T' : TypeId} {σ σ' : Array UInt64} {r : Value} (hsz : σ'.size = σ.size)
    (h : ∀ c, Fn P f args [arO ab mb σ.size T c, pt mb (.cells (encM σ) T')] (fun v Bs => v = r ∧ ∃ c', Bs = [arO ab mb σ.size T c', pt mb (.cells (encM σ') T')])) : FnD P f args [arenaA ab mb T T' σ] r [arenaA ab mb T T' σ'] := by
  intro w0 R w hs
  obtain ⟨c, hs1⟩ := hs.open_ex (k := 0) lk_cons_eq
  have hs2 := hs1.open_star (k := 0) lk_cons_eq 1 (by omega)
  have hs3 : Sat w0 (lab 0 [arO ab mb σ.size T c, pt mb (.cells (encM σ) T')]) R w := hs2.weaken fun k A hk => by
    rw [lk_lab0] at hk
    match k with
    | 0 => simp at hk; subst hk; rfl
    | 1 => simp at hk; subst hk; rfl
    | k + 2 => simp at hk
  refine (h c w0 R w hs3).mono ?_
  rintro e w' ⟨v, Bs, rfl, ⟨rfl, c', rfl⟩, hs4⟩
  refine ⟨_, _, rfl, ⟨rfl, rfl⟩, ?_⟩
  have hs5 := hs4.close_star (k := 0) (n := 1) (A := arO ab mb σ.size T c') (B := pt mb (.cells (encM σ') T')) rfl rfl (by omega)
  have hs6 := hs5.conseq (k := 0) (A := star (arO ab mb σ.size T c') (pt mb (.cells (encM σ') T'))) (B := arenaA ab mb T T' σ') rfl (fun x hx => ⟨c', by rw [hsz]; exact hx⟩)
  refine hs6.weaken fun k A hk => ?_
  rw [lk_lab0] at hk
  match k with
  | 0 => simp at hk; subst hk; rfl
  | k + 1 => simp at hk
theorem encM_rep (N : Nat) : Array.replicate N (Value.int .u64 0) = encM (Array.replicate N 0) := by
  unfold encM; rw [Array.map_replicate]; rfl
theorem TQ.arena {w0 : World} {R : Assn} {n : Nat} {Q : Exit → Act → World → Prop} {env : List (Nat × Value)} {L : List (Nat × Assn)} {e : Exit} (k1 k2 : Nat) {ab mb N : Nat} {T T' : TypeId} {σ : Array UInt64} {c : Cnt} (hN : σ.size = N) (h1 : lk L k1 = some (arO ab mb N T c)) (h2 : lk L k2 = some (pt mb (.cells (encM σ) T'))) (hne : k2 ≠ k1)
    (h : TQ w0 R n Q e env ((k1, arenaA ab mb T T' σ) :: (k2, emp) :: L)) : TQ w0 R n Q e env L := fun a w ha hs => by
  subst hN
  have hs1 := hs.close_star h1 h2 hne
  have hs2 := hs1.conseq (k := k1) (A := star (arO ab mb σ.size T c) (pt mb (.cells (encM σ) T'))) (B := arenaA ab mb T T' σ) (by rw [lk_cons_ne hne, lk_cons_eq]) (fun x hx => ⟨c, hx⟩)
  refine h a w ha (hs2.weaken fun j A hj => ?_)
  rw [lk_cons] at hj
  by_cases e1 : k1 = j
  · rw [if_pos e1] at hj; rw [← hj, ← e1]; exact lk_cons_eq
  · rw [if_neg e1] at hj
    rw [lk_cons_ne e1]
    rw [lk_cons] at hj ⊢
    by_cases e2 : k2 = j
    · rw [if_pos e2] at hj ⊢; exact hj
    · rw [if_neg e2] at hj ⊢; rw [lk_cons_ne e1]; exact hj
theorem arr_st_size (σ : Array UInt64) (i v : Int) : (MemLike.st σ i v : Array UInt64).size = σ.size := by
  rw [am_st]; split <;> simp
end Go.Eng

namespace Go.Eng
/-! two operations that may come up first: both ways -/
def QB (P : Program) (ops : Array Oper) (Q : Exit → Act → World → Prop) (S : World → Prop) (r1 r2 : List (Bool × Oper)) : Exit → Act → World → Prop
  | .normal, a, w => wpL P ops Q S r1 a w ∧ wpL P ops Q S r2 a w
  | .exit id, a, w => Q (.exit id) a w
  | .goto t, a, w => Q (.goto t) a w
  | .ret, a, w => Q .ret a w
  | .panic c, a, w => Q (.panic c) a w
  | .outgrown, a, w => Q .outgrown a w
def okOrdB (ops : Array Oper) (i j : Nat) (ri rj : List (Nat × Bool)) : List Nat → Array Bool → Bool
  | [], listed => (Region.ready .any ops listed == [i, j]) && (ops[i]?).isSome && (ops[j]?).isSome && okOrd ops ri (listed.setIfInBounds i true) && okOrd ops rj (listed.setIfInBounds j true)
  | k :: r, listed => (Region.ready .any ops listed).contains k && Region.free .any ops listed k && (ops[k]?).isSome && okOrdB ops i j ri rj r (listed.setIfInBounds k true)
def flg (l : List Nat) : List (Nat × Bool) := l.map fun k => (k, true)
section
variable {P : Program} {ops : Array Oper} {Q : Exit → Act → World → Prop} {S : World → Prop}
theorem wpL_orderB [hQ : PanicOk Q] (hs : Region.noSelect ops = true) {i j : Nat} {ri rj : List (Nat × Bool)} : ∀ (ord : List Nat) (fuel : Nat) (listed : Array Bool) (a : Act) (w : World),
    ord.length + 1 + max ri.length rj.length ≤ fuel → okOrdB ops i j ri rj ord listed = true → S w → wpL P ops (QB P ops Q S (pick ops.toList ((i, false) :: ri)) (pick ops.toList ((j, false) :: rj))) S (pick ops.toList (flg ord)) a w → wpAnyH P .any ops Q S fuel listed a w
  | [], 0, _, _, _, hl, _, _, _ => by simp at hl
  | [], fuel + 1, listed, a, w, hl, hok, hS, h => by
    simp only [okOrdB, Bool.and_eq_true, beq_iff_eq] at hok
    obtain ⟨⟨⟨⟨h1, hi⟩, hj⟩, h4⟩, h5⟩ := hok
    obtain ⟨oi, hoi⟩ := Option.isSome_iff_exists.1 hi
    obtain ⟨oj, hoj⟩ := Option.isSome_iff_exists.1 hj
    have hoi' : ops.toList[i]? = some oi := by simpa using hoi
    have hoj' : ops.toList[j]? = some oj := by simpa using hoj
    have h' : wpL P ops Q S (pick ops.toList ((i, false) :: ri)) a w ∧ wpL P ops Q S (pick ops.toList ((j, false) :: rj)) a w := h
    obtain ⟨ha, hb⟩ := h'
    simp only [pick, hoi', wpL] at ha
    simp only [pick, hoj', wpL] at hb
    refine wpAnyH_all h1 (by simp) fun q hq => ?_
    simp only [List.length_nil, Nat.zero_add] at hl
    rcases List.mem_cons.1 hq with rfl | hq
    · unfold wpOp
      simp only [hoi]
      split
      · rename_i hw; rw [if_pos hw] at ha
        exact .inl (Oper.wp_mono (fun a' w' h' => ⟨h'.1, wpL_order hs ri fuel _ _ _ (by omega) h4 h'.1 h'.2⟩) ha)
      · rename_i hw; rw [if_neg hw] at ha
        exact ⟨hS, wpL_order hs ri fuel _ _ _ (by omega) h4 hS ha⟩
    · obtain rfl : q = j := by simpa using hq
      unfold wpOp
      simp only [hoj]
      split
      · rename_i hw; rw [if_pos hw] at hb
        exact .inl (Oper.wp_mono (fun a' w' h' => ⟨h'.1, wpL_order hs rj fuel _ _ _ (by omega) h5 h'.1 h'.2⟩) hb)
      · rename_i hw; rw [if_neg hw] at hb
        exact ⟨hS, wpL_order hs rj fuel _ _ _ (by omega) h5 hS hb⟩
  | k :: r, 0, _, _, _, hl, _, _, _ => by simp at hl
  | k :: r, fuel + 1, listed, a, w, hl, hok, hS, h => by
    simp only [okOrdB, Bool.and_eq_true] at hok
    obtain ⟨⟨⟨h1, h2⟩, h3⟩, h4⟩ := hok
    obtain ⟨o, ho⟩ := Option.isSome_iff_exists.1 h3
    have ho' : ops.toList[k]? = some o := by simpa using ho
    simp only [flg, List.map_cons, pick, ho', wpL] at h
    obtain ⟨v, hy, hr⟩ := h
    simp only [List.length_cons] at hl
    exact wpAnyH_take ho hs h2 h1 (fun c a w => hQ.ok c a o.dst v w) (YieldsIf.weak hy) hS (wpL_orderB hs r fuel _ _ _ (by omega) h4 hS hr)
end
def regOkB (l : List Oper) (ord : List Nat) (i j : Nat) (ri rj : List (Nat × Bool)) : Bool :=
  Region.noSelect l.toArray && Nat.ble (ord.length + 1 + max ri.length rj.length) l.length && okOrdB l.toArray i j ri rj ord (Array.replicate l.length false)
section
variable {P : Program} {w0 : World} {R : Assn} {n : Nat} {Q : Exit → Act → World → Prop} {env : List (Nat × Value)} {L : List (Nat × Assn)}
theorem TC.drawB {id : Nat} {l : List Oper} (ord : List Nat) (i j : Nat) (ri rj : List (Nat × Bool)) (ks : List Nat) (hm : P.follows .mixedOrders = true) (hok : regOkB l ord i j ri rj = true) [PanicOk Q]
    (h : TL P w0 R n ks L l.toArray (QB P l.toArray Q (SS w0 ks L) (pick l ((i, false) :: ri)) (pick l ((j, false) :: rj))) (pick l (flg ord)) env L) : TC P w0 R n (.region id l.toArray true) Q env L := by
  intro a w ha hs
  simp only [regOkB, Bool.and_eq_true] at hok
  obtain ⟨⟨h1, h2⟩, h3⟩ := hok
  have hs' := hs.drawn (w.drawn + 1)
  refine wp_region_held hm (S := SS w0 ks L) (wpL_orderB h1 ord _ _ _ _ ?_ (by simpa using h3) (SS.of hs' (Keep.refl L ks)) ?_)
  · simpa [Nat.ble_eq] using h2
  · simpa using h a _ ha hs' (SS.of hs' (Keep.refl L ks))
variable {ks : List Nat} {L0 : List (Nat × Assn)} {ops : Array Oper}
theorem TL.branch {r1 r2 : List (Bool × Oper)} (h1 : TL P w0 R n ks L0 ops Q r1 env L) (h2 : TL P w0 R n ks L0 ops Q r2 env L) : TL P w0 R n ks L0 ops (QB P ops Q (SS w0 ks L0) r1 r2) [] env L :=
  fun a w ha hs hS => ⟨h1 a w ha hs hS, h2 a w ha hs hS⟩
/-- 'x.(T)', T no interface -/
def tyB (P : Program) (T : TypeId) : Bool := match P.underlying T with | some (.interface _) => false | some _ => true | none => false
end
section
variable {P : Program} {w0 : World} {R : Assn} {n : Nat} {Q : Exit → Act → World → Prop} {env : List (Nat × Value)} {L : List (Nat × Assn)}
variable {ks : List Nat} {L0 : List (Nat × Assn)} {ops : Array Oper} {rest : List (Bool × Oper)}
variable {fl : Bool} {d : Option Tmp} {x y z : Operand} {ty T xT : TypeId} {ps : String} {af : Array Edge} {g : Option (Nat × Bool)}
theorem TL.tyA {v : Value} (hT : tyB P T = true) (hx : evO env x = some (.iface T v)) (hg : guardV ops env g = some true) (hd : okD n d = true)
    (h : TL P w0 R n ks L0 ops Q rest (setE env d (.tuple #[v, .bool true])) L) : TL P w0 R n ks L0 ops Q ((fl, ⟨d, .typeAssert x xT T true, ty, ps, af, g⟩) :: rest) env L := by
  unfold tyB at hT
  split at hT
  · cases hT
  · rename_i D hne hD
    refine TL.pure hg hd (fun a w ha => ?_) h
    simp only [execOp, ha.eval hx, run_bind, Instr.typeAssert, run_underlying hD]
    cases D <;> first | (exact absurd hD (hne _)) | simp
  · cases hT
theorem set_set {α : Type} (d : Array α) (i : Nat) (a b : α) : (d.setIfInBounds i a).setIfInBounds i b = d.setIfInBounds i b := by
  apply Array.ext_getElem?
  intro j
  rw [Array.getElem?_setIfInBounds, Array.getElem?_setIfInBounds, Array.getElem?_setIfInBounds]
  by_cases h : i = j
  · subst h; simp
  · simp [h]
theorem own_val2 {α : Type} [Inhabited α] {enc : α → List Value} {m e : Nat} {v : Value} {d : Array α} {h : HF} (hA : ownA enc m e v d h) : ∃ a g c, v = .slice a d.size c ∧ d.size ≤ c ∧ (0 < d.size → a = some ⟨g, 0, none⟩) := by
  obtain ⟨a, b, c, h1, h2, h3, _⟩ := own_row hA
  exact ⟨a, b, c, h1, h2, h3⟩
theorem own_rowOf {α : Type} [Inhabited α] {enc : α → List Value} {m e g c : Nat} {a : Option Addr} {d : Array α} (ha : 0 < d.size → a = some ⟨g, 0, none⟩) : RowOf (ownA enc m e (.slice a d.size c) d) enc m g 0 d.size (fun i => d[i]!) := by
  intro h hA i hi
  rcases hA with ⟨h1, h2⟩ | ⟨g', cap, cur, h1, h2, h3, h4, h5, h6⟩
  · omega
  · rw [ha (by omega)] at h1
    cases h1
    exact ⟨cur, e, (0, 0), h2, by rw [Nat.zero_add]; exact h6 i hi⟩
theorem TL.ownW {α : Type} [Inhabited α] (k : Nat) {enc : α → List Value} {m e : Nat} {v : Value} {d : Array α} (hL : lk L k = some (ownA enc m e v d)) (h : ∀ a g c, v = .slice a d.size c → d.size ≤ c → (0 < d.size → a = some ⟨g, 0, none⟩) → TL P w0 R n ks L0 ops Q rest env L) : TL P w0 R n ks L0 ops Q rest env L := fun a w ha hs hS => by
  obtain ⟨X, hX, _, _⟩ := Sat.some hs hL
  obtain ⟨a', g', c, h1, h2, h3⟩ := own_val2 hX
  exact h a' g' c h1 h2 h3 a w ha hs hS
theorem TC.ownW {α : Type} [Inhabited α] {x : Code} (k : Nat) {enc : α → List Value} {m e : Nat} {v : Value} {d : Array α} (hL : lk L k = some (ownA enc m e v d)) (h : ∀ a g c, v = .slice a d.size c → d.size ≤ c → (0 < d.size → a = some ⟨g, 0, none⟩) → TC P w0 R n x Q env L) : TC P w0 R n x Q env L := fun a w ha hs => by
  obtain ⟨X, hX, _, _⟩ := Sat.some hs hL
  obtain ⟨a', g', c, h1, h2, h3⟩ := own_val2 hX
  exact h a' g' c h1 h2 h3 a w ha hs
/-- a field of an element of an own slice is stored -/
theorem TL.stOF {α : Type} [Inhabited α] (k : Nat) {enc : α → List Value} {m e gb c o i len : Nat} {D : Array α} {cur u : α} {val : Value} (hlen : D.size = len) (hx : evO env x = some (.pointer (some ⟨gb, 0 + i * m + o, none⟩))) (hy : evO env y = some val) (h1 : one val = true)
    (hL : lk L k = some (ownA enc m e (.slice (some ⟨gb, 0, none⟩) len c) D)) (hi : i < D.size) (hcur : D[i]! = cur) (he : (enc cur).length = m ∧ Nat.blt o m = true) (hu : enc u = (enc cur).set o val) (hT : scalB P T = true) (hg : guardV ops env g = some true) (hd : okD n d = true)
    (hk : Keep L0 ((k, ownA enc m e (.slice (some ⟨gb, 0, none⟩) len c) (D.setIfInBounds i u)) :: L) ks)
    (h : TL P w0 R n ks L0 ops Q rest (setE env d undef) ((k, ownA enc m e (.slice (some ⟨gb, 0, none⟩) len c) (D.setIfInBounds i u)) :: L)) : TL P w0 R n ks L0 ops Q ((false, ⟨d, .store T x y, ty, ps, af, g⟩) :: rest) env L := by
  subst hlen
  obtain ⟨he1, he2⟩ := he
  have ho : o < m := by simpa [Nat.blt_eq] using he2
  refine TL.act hg hd fun a w ha hs => ?_
  obtain ⟨X, hX, hsub, hto⟩ := Sat.some hs hL
  rcases hX with ⟨hh, _⟩ | ⟨g', cap, cr, hh, hb, h3, h4, h5, h6⟩
  · cases hh
  · simp only [Value.slice.injEq, Option.some.injEq, Addr.mk.injEq] at hh
    obtain ⟨⟨rfl, _⟩, _, rfl⟩ := hh
    have hs1 := hto (pt gb (.cells cr e)) hb
    have hle := Nat.mul_le_mul_right m (show i + 1 ≤ D.size by omega)
    have hle2 := Nat.mul_le_mul_right m h3
    rw [Nat.add_mul, Nat.one_mul] at hle
    have hlt : i * m + o < cr.size := by omega
    have hbw := hsub _ _ hb
    have hcell : w.cell? ⟨gb, 0 + i * m + o, none⟩ = some cr[i * m + o] := by rw [Nat.zero_add]; simp [World.cell?, hbw, hlt]
    obtain ⟨dd, i', h7, h8, h9, h10⟩ := scalB_spec hT
    have hfz : w.frozen? ⟨gb, 0 + i * m + o, none⟩ = false := by simp [World.frozen?, hbw]
    have hst := run_store (P := P) hcell hfz h1
    have hs2 := (hs1.setCell lk_cons_eq (0 + i * m + o) val).conseq (B := ownA enc m e (.slice (some ⟨gb, 0, none⟩) D.size c) (D.setIfInBounds i u)) lk_cons_eq fun y hy => by
      refine .inr ⟨gb, c, _, by simp, hy, by simpa using h3, h4, by simpa using h5, fun j hj => ?_⟩
      have hj' : j < D.size := by simpa using hj
      rw [set_get! hi]
      by_cases hji : i = j
      · subst hji
        rw [if_pos rfl]
        have hrow := h6 i hi
        rw [hcur] at hrow
        have hul : (enc u).length = m := by rw [hu]; simpa using he1
        refine lkCs_of hul fun q hq => ?_
        rw [hu, Array.getElem?_setIfInBounds, Nat.zero_add]
        by_cases hqo : q = o
        · subst hqo
          rw [if_pos rfl, if_pos hlt, List.getElem?_set_self (by omega)]
        · rw [if_neg (by omega), List.getElem?_set_ne (by omega)]
          exact (lkCs_get hrow).2 q (by omega)
      · rw [if_neg hji, ← h6 j hj']
        refine lkCs_congr fun q h1 h2 => ?_
        rw [Array.getElem?_setIfInBounds, Nat.zero_add, if_neg]
        intro hq
        have := mul_off (k := m) hji
        omega
    refine ⟨undef, _, _, .inr ⟨rfl, ?_⟩, hs2.weaken fun j A hA => ?_, hk, h⟩
    · have hcs : val.cells = #[val] := one_cells h1
      simp only [execOp, ha.eval hx, ha.eval hy, run_bind, Instr.storeAt, Instr.sureAddr, storeVar, run_pure, hcs, run_sizeOf h9, h10, List.size_toArray, List.length_singleton, ne_eq, not_true, if_false, List.toList_toArray, storeCells, Addr.add, if_true, hst]
    · rw [lk_cons] at hA
      by_cases ej : k = j
      · rw [if_pos ej] at hA; rw [← hA, ← ej]; exact lk_cons_eq
      · rw [if_neg ej] at hA; rw [lk_cons_ne ej, lk_cons_ne ej, lk_cons_ne ej]; exact hA
end
end Go.Eng

