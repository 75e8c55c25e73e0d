import Derived.Test.YtaccjjpfmnbaaaaEng
import Derived.Sort.AssemblyPlain
import Derived.Test.YtaccjjpfmnbaaaaProg
import Derived.KernelRfl
import Derived.Tactics2
import Derived.StillTactics
import Derived.Laws.Tables
set_option linter.unusedVariables false
set_option linter.unusedSimpArgs false
set_option maxRecDepth 20000
namespace Go.Proofs.Ytaccjjpfmnbaaaa
open Go.Eng Go.Sort
open Go.Eng Go.Sort
structure Ans where
  kind : Int
  u : Int
  v : Int
  thread : Int
  beg : Int
  point : Int
  fin : Int
  yes : Bool
  code : Int
  deriving Inhabited, DecidableEq
def encA (x : Ans) : List Value := [.int .i64 x.kind, .int .i64 x.u, .int .i64 x.v, .int .i64 x.thread, .int .i64 x.beg, .int .i64 x.point, .int .i64 x.fin, .bool x.yes, .int .i64 x.code]
theorem encA_ok (x : Ans) : (encA x).length = 9 ∧ ones (encA x) = true := ⟨rfl, rfl⟩
def cmpI (x y : Int) : Int := if x < y then -1 else if y < x then 1 else 0
def ltf (cf : Ans → Ans → Int) (x y : Ans) : Bool := decide (cf x y < 0)
theorem ltT {cf : Ans → Ans → Int} {x y : Ans} (h : cf x y < 0) : ltf cf x y = true := decide_eq_true h
theorem ltF {cf : Ans → Ans → Int} {x y : Ans} (h : ¬ cf x y < 0) : ltf cf x y = false := decide_eq_false h
abbrev rw9 (b off n : Nat) (d : Array Ans) : Assn := rowW encA 9 b off n d
section
variable {α : Type} [Inhabited α] {lt : α → α → Bool}
theorem insInner_stop {lo j : Nat} {d r : Array α} (h : insInner lt lo j d = r) (hc : j ≤ lo ∨ (1 ≤ j ∧ lt d[j]! d[j - 1]! = false)) : d = r := by
  cases j with
  | zero => exact h
  | succ j =>
    rw [insInner, if_neg] at h
    · exact h
    · rcases hc with hc | ⟨_, hc⟩
      · simp; omega
      · simp at hc; simp [hc]
theorem insInner_step {lo j : Nat} {d r : Array α} (h : insInner lt lo j d = r) (hj : lo < j) (hl : lt d[j]! d[j - 1]! = true) : insInner lt lo (j - 1) (swp d j (j - 1)) = r := by
  cases j with
  | zero => omega
  | succ j =>
    simp at hl
    rw [insInner, if_pos (by simp [hl]; omega)] at h
    exact h
end
theorem quoN {x k : Nat} (hx : x < 4611686018427387904) : IntKind.i64.wrap ((x : Int).tdiv (k : Int)) = ((x / k : Nat) : Int) := by
  have h : ((x : Int).tdiv (k : Int)) = ((x / k : Nat) : Int) := by rw [Int.ofNat_tdiv]
  rw [h]
  have h2 := Nat.div_le_self x k
  generalize x / k = y at *
  exact wr64 (by omega)
section
variable {α : Type} [Inhabited α] {lt : α → α → Bool}
theorem sift_end {hi first root : Nat} {d r : Array α} (h : siftDown lt hi first root d = r) (h1 : hi ≤ 2 * root + 1) : d = r := by
  rw [siftDown, dif_pos h1] at h; exact h
def childOf (lt : α → α → Bool) (hi first root c : Nat) (d : Array α) : Prop :=
  (2 * root + 1 + 1 < hi ∧ lt d[first + (2 * root + 1)]! d[first + (2 * root + 1) + 1]! = true ∧ c = 2 * root + 1 + 1) ∨ ((hi ≤ 2 * root + 1 + 1 ∨ lt d[first + (2 * root + 1)]! d[first + (2 * root + 1) + 1]! = false) ∧ c = 2 * root + 1)
theorem sift_go {hi first root c : Nat} {d r : Array α} (h : siftDown lt hi first root d = r) (h1 : 2 * root + 1 < hi) (hc : childOf lt hi first root c d) (hl : lt d[first + root]! d[first + c]! = true) :
    siftDown lt hi first c (swp d (first + root) (first + c)) = r := by
  rw [siftDown, dif_neg (by omega)] at h
  rcases hc with ⟨h2, h3, rfl⟩ | ⟨h2, rfl⟩
  · rw [if_pos (by simp [h3, h2]), show 2 * root + 2 = 2 * root + 1 + 1 from rfl, if_neg (by simp [hl]), dif_pos h2] at h
    exact h
  · rw [if_neg (by rcases h2 with h2 | h2 <;> simp [h2]; intro h3; omega), if_neg (by simp [hl])] at h
    exact h
theorem sift_ret {hi first root c : Nat} {d r : Array α} (h : siftDown lt hi first root d = r) (h1 : 2 * root + 1 < hi) (hc : childOf lt hi first root c d) (hl : lt d[first + root]! d[first + c]! = false) : d = r := by
  rw [siftDown, dif_neg (by omega)] at h
  rcases hc with ⟨h2, h3, rfl⟩ | ⟨h2, rfl⟩
  · rw [if_pos (by simp [h3, h2]), show 2 * root + 2 = 2 * root + 1 + 1 from rfl, if_pos (by simp [hl])] at h
    exact h
  · rw [if_neg (by rcases h2 with h2 | h2 <;> simp [h2]; intro h3; omega), if_pos (by simp [hl])] at h
    exact h
theorem rev_go {i j : Nat} {d r : Array α} (h : reverseLoop i j d = r) (hij : i < j) : reverseLoop (i + 1) (j - 1) (swp d i j) = r := by
  rw [reverseLoop, if_pos hij] at h; exact h
theorem rev_end {i j : Nat} {d r : Array α} (h : reverseLoop i j d = r) (hij : ¬ i < j) : d = r := by
  rw [reverseLoop, if_neg hij] at h; exact h
theorem order2_T {d : Array α} {a b s : Nat} (h : lt d[b]! d[a]! = true) : order2 lt d a b s = (b, a, s + 1) := by rw [order2, if_pos h]
theorem order2_F {d : Array α} {a b s : Nat} (h : lt d[b]! d[a]! = false) : order2 lt d a b s = (a, b, s) := by rw [order2, if_neg (by simp [h])]
theorem order2_bd {d : Array α} {a b s n : Nat} (ha : a < n) (hb : b < n) : (order2 lt d a b s).1 < n ∧ (order2 lt d a b s).2.1 < n ∧ (order2 lt d a b s).2.2 ≤ s + 1 := by
  unfold order2; split <;> simp <;> omega
end
theorem nT {cf : Ans → Ans → Int} {x y : Ans} (h : cf x y < 0) : (!ltf cf x y) = false := by rw [ltT h]; rfl
theorem nF {cf : Ans → Ans → Int} {x y : Ans} (h : ¬ cf x y < 0) : (!ltf cf x y) = true := by rw [ltF h]; rfl
section
variable {α : Type} [Inhabited α] {lt : α → α → Bool}
theorem scanUp_stop {p : α → Bool} {d : Array α} {j i : Nat} (h : j < i ∨ p d[i]! = false) : scanUp p d j i = i := by
  rw [scanUp, if_neg]
  rcases h with h | h
  · simp; intro h2; omega
  · simp [h]
theorem scanUp_go {p : α → Bool} {d : Array α} {j i : Nat} (h : i ≤ j) (hp : p d[i]! = true) : scanUp p d j (i + 1) = scanUp p d j i := by
  conv => rhs; rw [scanUp, if_pos (by simp [h, hp])]
theorem scanDown_stop {p : α → Bool} {d : Array α} {j i : Nat} (h : j < i ∨ p d[j]! = false) : scanDown p d i j = j := by
  cases j with
  | zero => rfl
  | succ j =>
    rw [scanDown, if_neg]
    rcases h with h | h
    · simp; intro h2; omega
    · simp [h]
theorem scanDown_go {p : α → Bool} {d : Array α} {j i : Nat} (h : i ≤ j) (h1 : 1 ≤ j) (hp : p d[j]! = true) : scanDown p d i (j - 1) = scanDown p d i j := by
  cases j with
  | zero => omega
  | succ j => conv => rhs; rw [scanDown, if_pos (by simp [h, hp])]
              rfl
theorem ploop_end {a i j i2 j2 : Nat} {d : Array α} {r : Nat × Array α} (h : partLoop lt a i j d = r) (h1 : scanUp (fun x => lt x d[a]!) d j i = i2) (h2 : scanDown (fun x => !lt x d[a]!) d i2 j = j2) (h3 : j2 < i2) : r = (j2, d) := by
  rw [partLoop] at h; simp only [h1, h2] at h; rw [if_pos h3] at h; exact h.symm
theorem ploop_go {a i j i2 j2 : Nat} {d : Array α} {r : Nat × Array α} (h : partLoop lt a i j d = r) (h1 : scanUp (fun x => lt x d[a]!) d j i = i2) (h2 : scanDown (fun x => !lt x d[a]!) d i2 j = j2) (h3 : ¬ j2 < i2) (h4 : i ≤ i2) (h5 : j2 ≤ j) :
    partLoop lt a (i2 + 1) (j2 - 1) (swp d i2 j2) = r := by
  rw [partLoop] at h; simp only [h1, h2] at h; rw [if_neg h3, dif_pos (by omega)] at h; exact h
theorem part_T {a b pv i j : Nat} {d : Array α} (h1 : scanUp (fun x => lt x (swp d a pv)[a]!) (swp d a pv) (b - 1) (a + 1) = i) (h2 : scanDown (fun x => !lt x (swp d a pv)[a]!) (swp d a pv) i (b - 1) = j) (h : j < i) :
    partition lt d a b pv = (j, true, swp (swp d a pv) j a) := by
  unfold partition; dsimp only; rw [h1, h2, if_pos h]
theorem part_F {a b pv i j : Nat} {d : Array α} {r : Nat × Array α} (h1 : scanUp (fun x => lt x (swp d a pv)[a]!) (swp d a pv) (b - 1) (a + 1) = i) (h2 : scanDown (fun x => !lt x (swp d a pv)[a]!) (swp d a pv) i (b - 1) = j) (h : ¬ j < i)
    (h3 : partLoop lt a (i + 1) (j - 1) (swp (swp d a pv) i j) = r) : partition lt d a b pv = (r.1, false, swp r.2 r.1 a) := by
  unfold partition; dsimp only; rw [h1, h2, if_neg h, h3]
theorem qloop_end {a i j i2 j2 : Nat} {d : Array α} {r : Nat × Array α} (h : partEqLoop lt a i j d = r) (h1 : scanUp (fun x => !lt d[a]! x) d j i = i2) (h2 : scanDown (fun x => lt d[a]! x) d i2 j = j2) (h3 : j2 < i2) : r = (i2, d) := by
  rw [partEqLoop] at h; simp only [h1, h2] at h; rw [if_pos h3] at h; exact h.symm
theorem qloop_go {a i j i2 j2 : Nat} {d : Array α} {r : Nat × Array α} (h : partEqLoop lt a i j d = r) (h1 : scanUp (fun x => !lt d[a]! x) d j i = i2) (h2 : scanDown (fun x => lt d[a]! x) d i2 j = j2) (h3 : ¬ j2 < i2) (h4 : i ≤ i2) (h5 : j2 ≤ j) :
    partEqLoop lt a (i2 + 1) (j2 - 1) (swp d i2 j2) = r := by
  rw [partEqLoop] at h; simp only [h1, h2] at h; rw [if_neg h3, dif_pos (by omega)] at h; exact h
theorem scanSorted_stop {d : Array α} {b i : Nat} (h : b ≤ i ∨ lt d[i]! d[i - 1]! = true) : scanSorted lt d b i = i := by
  rw [scanSorted, if_neg]
  rcases h with h | h
  · simp; intro h2; omega
  · simp [h]
theorem scanSorted_go {d : Array α} {b i : Nat} (h : i < b) (hp : lt d[i]! d[i - 1]! = false) : scanSorted lt d b (i + 1) = scanSorted lt d b i := by
  conv => rhs; rw [scanSorted, if_pos (by simp [h, hp])]
end
theorem blTab {s : ByteArray} {x : Nat} (h1 : x ≤ 40) (hs : (List.range 41).map (fun i => (s[i]?).map (fun b => (b.toNat : Int))) = (List.range 41).map (fun i => some ((bitsLen i : Nat) : Int))) : (s[((x : Nat) : Int).toNat]?).map (fun b => (b.toNat : Int)) = some ((bitsLen x : Nat) : Int) := by
  have h2 := congrArg (fun l => l[x]?) hs
  simp only [List.getElem?_map, List.getElem?_range (show x < 41 by omega), Option.map_some] at h2
  rw [Int.toNat_natCast]
  exact Option.some.inj h2
theorem bl_le {x : Nat} (h : x ≤ 40) : bitsLen x ≤ 6 := (bitsLen_le_iff x 6).2 (by omega)
theorem wruN {t c : Int} (h : 0 ≤ t ∧ t < 18446744073709551616 ∧ t = c) : IntKind.u64.wrap t = c := by
  rw [wru64 ⟨h.1, h.2.1⟩]; exact h.2.2
theorem u_lt (r : UInt64) : (r.toNat : Int) < 18446744073709551616 := by have := r.toNat_lt; omega
theorem bv_of (x : Nat) : BitVec.ofInt 64 ((x : Nat) : Int) = BitVec.ofNat 64 x := BitVec.ofInt_natCast 64 x
theorem u_and {x y : Nat} (hx : x < 18446744073709551616) (hy : y < 18446744073709551616) : bitsV .and .u64 (x : Int) (y : Int) = ((x &&& y : Nat) : Int) := by
  unfold bitsV IntKind.bits
  dsimp only
  rw [bv_of, bv_of, BitVec.toNat_and, BitVec.toNat_ofNat, BitVec.toNat_ofNat, Nat.mod_eq_of_lt (by simpa using hx), Nat.mod_eq_of_lt (by simpa using hy)]
  have h := Nat.and_le_left (n := x) (m := y)
  exact wru64 (by omega)
theorem u_xor (a b : UInt64) : bitsV .xor .u64 (a.toNat : Int) (b.toNat : Int) = ((a ^^^ b).toNat : Int) := by
  unfold bitsV IntKind.bits
  dsimp only
  have ha : BitVec.ofNat 64 a.toNat = a.toBitVec := BitVec.ofNat_toNat 64 a.toBitVec ▸ (by simp)
  have hb : BitVec.ofNat 64 b.toNat = b.toBitVec := BitVec.ofNat_toNat 64 b.toBitVec ▸ (by simp)
  rw [bv_of, bv_of, ha, hb]
  have h := u_lt (a ^^^ b)
  exact wru64 ⟨by omega, h⟩
theorem u_shl (r : UInt64) (k : Nat) (hk : k < 64) : IntKind.u64.wrap ((r.toNat : Int) * 2 ^ k) = ((r <<< (UInt64.ofNat k)).toNat : Int) := by
  rw [UInt64.toNat_shiftLeft]
  have h1 : (UInt64.ofNat k).toNat % 64 = k := by
    rw [UInt64.toNat_ofNat', Nat.mod_eq_of_lt (show k < 2 ^ 64 by omega)]; omega
  rw [h1, Nat.shiftLeft_eq]
  unfold IntKind.wrap IntKind.bits IntKind.signed
  simp only [Bool.false_and, Bool.false_eq_true, if_false]
  have : ((r.toNat : Int) * 2 ^ k) = ((r.toNat * 2 ^ k : Nat) : Int) := by push_cast; rfl
  rw [this]
  rfl
theorem u_shr (r : UInt64) (k : Nat) (hk : k < 64) : Int.fdiv (r.toNat : Int) (2 ^ k) = ((r >>> (UInt64.ofNat k)).toNat : Int) := by
  rw [UInt64.toNat_shiftRight]
  have h1 : (UInt64.ofNat k).toNat % 64 = k := by
    rw [UInt64.toNat_ofNat', Nat.mod_eq_of_lt (show k < 2 ^ 64 by omega)]; omega
  rw [h1, Nat.shiftRight_eq_div_pow]
  have : (2 : Int) ^ k = ((2 ^ k : Nat) : Int) := by push_cast; rfl
  rw [this, Int.ofNat_fdiv]
theorem u_ofNat {x : Nat} (h : x < 18446744073709551616) : IntKind.u64.wrap (x : Int) = ((UInt64.ofNat x).toNat : Int) := by
  rw [UInt64.toNat_ofNat', Nat.mod_eq_of_lt (by simpa using h)]
  exact wru64 (by omega)
theorem shl_one {b : Nat} (h : b ≤ 6) : IntKind.u64.wrap (1 * 2 ^ (min ((b : Nat) : Int).toNat IntKind.u64.bits)) = ((1 <<< b : Nat) : Int) := by
  have : b = 0 ∨ b = 1 ∨ b = 2 ∨ b = 3 ∨ b = 4 ∨ b = 5 ∨ b = 6 := by omega
  rcases this with rfl | rfl | rfl | rfl | rfl | rfl | rfl <;> rfl
def hintI : Hint → Int
  | .unknown => 0
  | .increasing => 1
  | .decreasing => 2
theorem mod_bd {len : Nat} (h : 0 < len) (h2 : len ≤ 1000) : 1 ≤ 1 <<< bitsLen len ∧ (1 <<< bitsLen len) ≤ 2 * len := by
  rw [Nat.shiftLeft_eq, Nat.one_mul]
  exact ⟨Nat.one_le_two_pow, two_pow_bitsLen_le h⟩
section
variable {α : Type} [Inhabited α]
def bpIter (a length modulus : Nat) : Nat → Nat → UInt64 × Array α → UInt64 × Array α
  | 0, _, st => st
  | k + 1, idx, st => bpIter a length modulus k (idx + 1) (breakStep a length modulus st idx)
def bpO (length modulus : Nat) (r : UInt64) : Nat := if (xorNext r).toNat &&& (modulus - 1) ≥ length then ((xorNext r).toNat &&& (modulus - 1)) - length else (xorNext r).toNat &&& (modulus - 1)
theorem breakStep_eq {a length modulus idx : Nat} {r : UInt64} {d : Array α} : breakStep a length modulus (r, d) idx = (xorNext r, swp d idx (a + bpO length modulus r)) := rfl
end
section
variable {α : Type} [Inhabited α]
/-- a part that is to be sorted; T: what a sorted permutation of it meets -/
structure PI (lt : α → α → Bool) (n lo hi : Nat) (T : Array α → Prop) (d : Array α) : Prop where
  le : lo ≤ hi
  hn : hi ≤ n
  sz : d.size = n
  bel : Below lt lo hi d
  go : ∀ R, PermIn lo hi d R → SortedIn lt lo hi R → T R
variable {lt : α → α → Bool} {n lo hi p : Nat} {T : Array α → Prop} {d : Array α}
theorem PI.perm {d' : Array α} (h : PI lt n lo hi T d) (hp : PermIn lo hi d d') : PI lt n lo hi T d' :=
  ⟨h.le, h.hn, hp.1.trans h.sz, h.bel.perm (by rw [h.sz]; exact h.hn) hp, fun R h1 h2 => h.go R (permIn_trans _ _ _ _ _ hp h1) h2⟩
theorem PI.ins (h : PI lt n lo hi T d) (hS : SWO lt) : T (insertionSort lt d lo hi) := by
  have := insertionSort_holds hS d lo hi h.le (by rw [h.sz]; exact h.hn)
  exact h.go _ this.1 this.2
theorem PI.heap (h : PI lt n lo hi T d) (hS : SWO lt) : T (heapSort lt d lo hi) := by
  have := heapSort_holds hS d lo hi h.le (by rw [h.sz]; exact h.hn)
  exact h.go _ this.1 this.2
theorem PI.brk (h : PI lt n lo hi T d) : PI lt n lo hi T (breakPatterns d lo hi) := h.perm (breakPatterns_holds d lo hi h.le (by rw [h.sz]; exact h.hn))
theorem PI.rev (h : PI lt n lo hi T d) : PI lt n lo hi T (reverseRange d lo hi) := h.perm (reverseRange_holds d lo hi h.le (by rw [h.sz]; exact h.hn))
theorem PI.pins (h : PI lt n lo hi T d) (hS : SWO lt) (hl : lo < hi) : PI lt n lo hi T (partialInsertionSort lt d lo hi).1 ∧ ((partialInsertionSort lt d lo hi).2 = true → T (partialInsertionSort lt d lo hi).1) := by
  have := partialInsertionSort_holds hS d lo hi hl (by rw [h.sz]; exact h.hn) h.bel
  exact ⟨h.perm this.1, fun e => h.go _ this.1 (this.2 e)⟩
theorem PI.eq (h : PI lt n lo hi T d) (hS : SWO lt) (h0 : 0 < lo) (hp1 : lo ≤ p) (hp2 : p < hi) (hnl : lt d[lo - 1]! d[p]! = false) :
    lo < (partitionEqual lt d lo hi p).1 ∧ (partitionEqual lt d lo hi p).1 ≤ hi ∧ PI lt n (partitionEqual lt d lo hi p).1 hi T (partitionEqual lt d lo hi p).2 := by
  obtain ⟨h1, h2, h3, h4, h5⟩ := round_eq (mid := (partitionEqual lt d lo hi p).1) (d4 := (partitionEqual lt d lo hi p).2) hS (partitionEqual_holds lt) h0 hp1 hp2 (by rw [h.sz]; exact h.hn) h.bel hnl rfl
  exact ⟨h1, h2, h2, h.hn, h3.trans h.sz, h4, fun R h6 h7 => h.go R (h5 R h6 h7).1 (h5 R h6 h7).2⟩
theorem PI.part (h : PI lt n lo hi T d) (hS : SWO lt) (hp1 : lo ≤ p) (hp2 : p < hi) :
    lo ≤ (partition lt d lo hi p).1 ∧ (partition lt d lo hi p).1 < hi ∧
    PI lt n lo (partition lt d lo hi p).1 (PI lt n ((partition lt d lo hi p).1 + 1) hi T) (partition lt d lo hi p).2.2 ∧
    PI lt n ((partition lt d lo hi p).1 + 1) hi (PI lt n lo (partition lt d lo hi p).1 T) (partition lt d lo hi p).2.2 := by
  obtain ⟨h1, h2, h3, h4, h5, h6, h7⟩ := round_part (mid := (partition lt d lo hi p).1) (ap := (partition lt d lo hi p).2.1) (d4 := (partition lt d lo hi p).2.2) hS (partition_holds lt) hp1 hp2 (by rw [h.sz]; exact h.hn) h.bel rfl
  have hn := h.hn
  refine ⟨h1, h2, ⟨h1, by omega, h3.trans h.sz, h4, fun L hL hsL => ?_⟩, ⟨by omega, hn, h3.trans h.sz, h5, fun L hL hsL => ?_⟩⟩
  · obtain ⟨h8, h9⟩ := h6 L hL hsL
    exact ⟨by omega, hn, hL.1.trans (h3.trans h.sz), h8, fun R h10 h11 => h.go R (h9 R h10 h11).1 (h9 R h10 h11).2⟩
  · obtain ⟨h8, h9⟩ := h7 L hL hsL
    exact ⟨h1, by omega, hL.1.trans (h3.trans h.sz), h8, fun R h10 h11 => h.go R (h9 R h10 h11).1 (h9 R h10 h11).2⟩
end
def goesA (x : Ans) : Bool := decide (x.fin = 0)
def aheadA (x y : Ans) : Bool := !goesA x && decide (x.fin < y.beg)
def rightA (x : Ans) : Bool :=
  if x.thread < 1 ∨ x.beg < 1 then false else if x.fin = 0 then decide (x.point = 0) && !x.yes && decide (x.code = 0) else decide (x.beg < x.point) && decide (x.point ≤ x.fin)
def unlikeA (x y : Ans) : Bool :=
  if x.beg = y.beg then false else if ¬ x.fin = 0 ∧ ¬ y.fin = 0 ∧ (x.fin = y.fin ∨ x.point = y.point) then false else decide (x.thread ≠ y.thread) || aheadA x y
def oneL (x : Ans) : Bool := !(decide (x.thread < 1) || decide (x.beg < 1) || (decide (x.fin = 0) && (decide (x.point ≠ 0) || x.yes || decide (x.code ≠ 0))) || (decide (x.fin ≠ 0) && (decide (x.point ≤ x.beg) || decide (x.fin < x.point))))
def twoL (x y : Ans) : Bool := !(decide (x.beg = y.beg) || (decide (x.fin ≠ 0) && decide (y.fin ≠ 0) && (decide (x.fin = y.fin) || decide (x.point = y.point))) || (decide (x.thread = y.thread) && decide (x.beg < y.beg) && (decide (x.fin = 0) || decide (x.fin ≥ y.beg))))
def rightL (n : Nat) (f : Nat → Ans) : Bool := decide (∀ i, i < n → oneL (f i) = true ∧ ∀ k, k < n → i ≠ k → twoL (f i) (f k) = true)
theorem rightL_F1 {n : Nat} {f : Nat → Ans} {i : Nat} (hi : i < n) (h : oneL (f i) = false) : Value.bool false = .bool (rightL n f) := by
  unfold rightL; rw [decide_eq_false]; intro h2; rw [(h2 i hi).1] at h; cases h
theorem rightL_F2 {n : Nat} {f : Nat → Ans} {i k : Nat} (hi : i < n) (hk : k < n) (hne : i ≠ k) (h : twoL (f i) (f k) = false) : Value.bool false = .bool (rightL n f) := by
  unfold rightL; rw [decide_eq_false]; intro h2; rw [(h2 i hi).2 k hk hne] at h; cases h
def atB (x y : Ans) : Bool := decide (y.beg ≤ x.beg) && (decide (y.fin = 0) || decide (y.fin ≥ x.beg))
def cntB (f : Nat → Ans) (x : Ans) : Nat → Int
  | 0 => 0
  | k + 1 => if atB x (f k) then cntB f x k + 1 else cntB f x k
def widthL (n : Nat) (f : Nat → Ans) : Nat → Int
  | 0 => 0
  | k + 1 => max (widthL n f k) (cntB f (f k) n)
theorem cntB_bd (f : Nat → Ans) (x : Ans) : ∀ k, 0 ≤ cntB f x k ∧ cntB f x k ≤ k
  | 0 => by simp [cntB]
  | k + 1 => by have := cntB_bd f x k; rw [cntB]; split <;> omega
theorem cntB_T {f : Nat → Ans} {x : Ans} {k : Nat} (h : atB x (f k) = true) : cntB f x k + 1 = cntB f x (k + 1) := by rw [cntB, if_pos h]
theorem cntB_F {f : Nat → Ans} {x : Ans} {k : Nat} (h : atB x (f k) = false) : cntB f x k = cntB f x (k + 1) := by rw [cntB, if_neg (by simp [h])]
def rightS (n : Nat) (d : Array Ans) : Bool := decide (∀ i, i < n → rightA d[i]! = true ∧ ∀ k, k < n - (i + 1) → unlikeA d[i]! d[i + 1 + k]! = true)
theorem rightS_F1 {n : Nat} {d : Array Ans} {i : Nat} (hi : i < n) (h : rightA d[i]! = false) : Value.bool false = .bool (rightS n d) := by
  unfold rightS; rw [decide_eq_false]; intro h2; rw [(h2 i hi).1] at h; cases h
theorem rightS_F2 {n : Nat} {d : Array Ans} {i k : Nat} (hi : i < n) (hk : k < n - (i + 1)) (h : unlikeA d[i]! d[i + 1 + k]! = false) : Value.bool false = .bool (rightS n d) := by
  unfold rightS; rw [decide_eq_false]; intro h2; rw [(h2 i hi).2 k hk] at h; cases h
/-- sorted by Begin, from the elements f 0 .. f (n - 1) -/
def ByBeg (n : Nat) (f : Nat → Ans) (d : Array Ans) : Prop := d.size = n ∧ d.toList.Perm ((List.range n).map f) ∧ SortedIn (ltf fun x y => cmpI x.beg y.beg) 0 n d
theorem one_eq (x : Ans) : rightA x = oneL x := by
  unfold rightA oneL
  rw [Bool.eq_iff_iff]
  by_cases h1 : x.thread < 1 <;> by_cases h2 : x.beg < 1 <;> by_cases h3 : x.fin = 0 <;> by_cases h4 : x.yes = true <;> simp [h1, h2, h3, h4] <;> omega
theorem two_eq {x y : Ans} (h : x.beg ≤ y.beg) : unlikeA x y = true ↔ twoL x y = true ∧ twoL y x = true := by
  unfold unlikeA twoL aheadA goesA
  by_cases h1 : x.beg = y.beg <;> by_cases h2 : x.fin = 0 <;> by_cases h3 : y.fin = 0 <;> by_cases h4 : x.thread = y.thread <;> by_cases h5 : x.fin = y.fin <;> by_cases h6 : x.point = y.point <;> simp [*] <;> omega
theorem rightS_iff {n : Nat} {d : Array Ans} (hn : d.size = n) : rightS n d = true ↔ (∀ x ∈ d.toList, rightA x = true) ∧ d.toList.Pairwise fun x y => unlikeA x y = true := by
  subst hn
  unfold rightS
  rw [decide_eq_true_iff, List.pairwise_iff_getElem]
  constructor
  · intro h
    refine ⟨fun x hx => ?_, fun i j hi hj hij => ?_⟩
    · obtain ⟨i, hi, rfl⟩ := List.getElem_of_mem hx
      have := (h i (by simpa using hi)).1
      rwa [getElem!_pos d i (by simpa using hi)] at this
    · have hj' : j < d.size := by simpa using hj
      have := (h i (by omega)).2 (j - (i + 1)) (by omega)
      rw [show i + 1 + (j - (i + 1)) = j by omega, getElem!_pos d i (by omega), getElem!_pos d j hj'] at this
      simpa using this
  · rintro ⟨h1, h2⟩ i hi
    refine ⟨?_, fun k hk => ?_⟩
    · rw [getElem!_pos d i hi]; exact h1 _ (by simp)
    · have := h2 i (i + 1 + k) (by simpa using hi) (by simp; omega) (by omega)
      rw [getElem!_pos d i hi, getElem!_pos d (i + 1 + k) (by omega)]
      simpa using this
theorem rightL_iff {n : Nat} {f : Nat → Ans} : rightL n f = true ↔ (∀ x ∈ (List.range n).map f, oneL x = true) ∧ ((List.range n).map f).Pairwise fun x y => twoL x y = true ∧ twoL y x = true := by
  unfold rightL
  rw [decide_eq_true_iff, List.pairwise_iff_getElem]
  constructor
  · intro h
    refine ⟨fun x hx => ?_, fun i j hi hj hij => ?_⟩
    · obtain ⟨i, hi, rfl⟩ := List.mem_map.1 hx
      exact (h i (by simpa using hi)).1
    · have hi' : i < n := by simpa using hi
      have hj' : j < n := by simpa using hj
      simp only [List.getElem_map, List.getElem_range]
      exact ⟨(h i hi').2 j hj' (by omega), (h j hj').2 i hi' (by omega)⟩
  · rintro ⟨h1, h2⟩ i hi
    refine ⟨h1 _ (List.mem_map.2 ⟨i, by simpa using hi, rfl⟩), fun k hk hne => ?_⟩
    rcases Nat.lt_or_ge i k with h | h
    · have := h2 i k (by simpa using hi) (by simpa using hk) h
      simp only [List.getElem_map, List.getElem_range] at this
      exact this.1
    · have := h2 k i (by simpa using hk) (by simpa using hi) (by omega)
      simp only [List.getElem_map, List.getElem_range] at this
      exact this.2
theorem beg_le {x y : Ans} (h : ltf (fun x y => cmpI x.beg y.beg) y x = false) : x.beg ≤ y.beg := by
  unfold ltf cmpI at h
  have h2 := of_decide_eq_false h
  dsimp only at h2
  split at h2
  · exact absurd (by decide) h2
  · omega
theorem rightS_eq {n : Nat} {f : Nat → Ans} {d : Array Ans} (h : ByBeg n f d) : rightS n d = rightL n f := by
  obtain ⟨hn, hp, hs⟩ := h
  rw [Bool.eq_iff_iff, rightS_iff hn, rightL_iff]
  have hall : (∀ x ∈ d.toList, rightA x = true) ↔ ∀ x ∈ (List.range n).map f, oneL x = true := by
    constructor
    · intro h x hx; rw [← one_eq]; exact h x (hp.mem_iff.2 hx)
    · intro h x hx; rw [one_eq]; exact h x (hp.mem_iff.1 hx)
  have hpw : (d.toList.Pairwise fun x y => unlikeA x y = true) ↔ d.toList.Pairwise fun x y => twoL x y = true ∧ twoL y x = true := by
    rw [List.pairwise_iff_getElem, List.pairwise_iff_getElem]
    have key : ∀ i j (hi : i < d.toList.length) (hj : j < d.toList.length), i < j → (d.toList[i]).beg ≤ (d.toList[j]).beg := fun i j hi hj hij => by
      have hj' : j < n := by rw [← hn]; simpa using hj
      have := hs i j (Nat.zero_le _) hij hj'
      rw [getElem!_pos d i (by omega), getElem!_pos d j (by omega)] at this
      simpa using beg_le this
    constructor
    · intro h i j hi hj hij; exact (two_eq (key i j hi hj hij)).1 (h i j hi hj hij)
    · intro h i j hi hj hij; exact (two_eq (key i j hi hj hij)).2 (h i j hi hj hij)
  rw [hall, hpw, hp.pairwise_iff (fun h => ⟨h.2, h.1⟩)]
theorem encA_one (x : Ans) : (encA x).length = 9 ∧ ∀ u ∈ encA x, u.oneCell' = true := ⟨rfl, by intro u hu; simp only [encA, List.mem_cons, List.not_mem_nil, or_false] at hu; rcases hu with rfl | rfl | rfl | rfl | rfl | rfl | rfl | rfl | rfl <;> rfl⟩
theorem swo_cmp (k : Ans → Int) : SWO (ltf fun x y => cmpI (k x) (k y)) := by
  have e : ∀ x y, ltf (fun x y => cmpI (k x) (k y)) x y = decide (k x < k y) := by
    intro x y; unfold ltf cmpI; dsimp only
    rw [Bool.eq_iff_iff, decide_eq_true_iff, decide_eq_true_iff]
    split
    · omega
    · split <;> omega
  refine ⟨fun x => ?_, fun x y z h1 h2 => ?_, fun x y z h1 h2 => ?_⟩
  · rw [e]; simp
  · rw [e] at *; simp at *; omega
  · rw [e] at *; simp at *; omega
theorem perm_all {n : Nat} {f : Nat → Ans} {d : Array Ans} (h : PermIn 0 n ((List.range n).map f).toArray d) : d.size = n ∧ d.toList.Perm ((List.range n).map f) := by
  obtain ⟨h1, _, h3⟩ := h
  rw [rng_size] at h1
  refine ⟨h1, ?_⟩
  have e1 : d.extract 0 n = d := by rw [← h1]; exact Array.extract_size
  have e2 : ((List.range n).map f).toArray.extract 0 n = ((List.range n).map f).toArray := by
    have := Array.extract_size (xs := ((List.range n).map f).toArray)
    rwa [rng_size] at this
  rw [e1, e2] at h3
  exact h3
theorem byBeg_of {n : Nat} {f : Nat → Ans} {d : Array Ans} (h : PermIn 0 n ((List.range n).map f).toArray d) (hs : SortedIn (ltf fun x y => cmpI x.beg y.beg) 0 n d) : ByBeg n f d := ⟨(perm_all h).1, (perm_all h).2, hs⟩
theorem Fn_mono {P : Program} {f : FuncId} {args : List Value} {As : List Assn} {Φ Ψ : Value → List Assn → Prop} (h : Go.Eng.Fn P f args As Φ) (hm : ∀ v Bs, Φ v Bs → Ψ v Bs) : Go.Eng.Fn P f args As Ψ :=
  fun w0 R w hs => (h w0 R w hs).mono fun _ _ ⟨v, Bs, he, hp, hs'⟩ => ⟨v, Bs, he, hm v Bs hp, hs'⟩
/-- the elements that do not meet pr, among the first j -/
def kp (pr : Ans → Bool) (g : Nat → Ans) (j : Nat) : List Ans := ((List.range j).map g).filter fun x => !pr x
theorem kp_zero {pr : Ans → Bool} {g : Nat → Ans} : kp pr g 0 = [] := rfl
theorem kp_T {pr : Ans → Bool} {g : Nat → Ans} {j : Nat} (h : pr (g j) = true) : kp pr g (j + 1) = kp pr g j := by simp [kp, List.range_succ, h]
theorem kp_F {pr : Ans → Bool} {g : Nat → Ans} {j : Nat} (h : pr (g j) = false) : kp pr g (j + 1) = kp pr g j ++ [g j] := by simp [kp, List.range_succ, h]
theorem kp_len {pr : Ans → Bool} {g : Nat → Ans} {j : Nat} : (kp pr g j).length ≤ j := by
  have := List.length_filter_le (fun x => !pr x) ((List.range j).map g)
  simpa [kp] using this
theorem kp_all {pr : Ans → Bool} {g : Nat → Ans} : ∀ {j : Nat}, (∀ q, q < j → pr (g q) = false) → kp pr g j = (List.range j).map g
  | 0, _ => rfl
  | j + 1, h => by rw [kp_F (h j (by omega)), kp_all fun q hq => h q (by omega), List.range_succ]; simp
theorem kp_congr {pr : Ans → Bool} {g g' : Nat → Ans} {j : Nat} (h : ∀ q, q < j → g q = g' q) : kp pr g j = kp pr g' j := by
  unfold kp; congr 1; apply List.map_congr_left; intro q hq; exact h q (by simpa using hq)
/-- what DeleteFunc has reached -/
structure DelI (pr : Ans → Bool) (d : Array Ans) (i j : Nat) (d1 : Array Ans) : Prop where
  sz : d1.size = d.size
  len : (kp pr (fun q => d[q]!) j).length = i
  head : ∀ q, q < i → d1[q]! = (kp pr (fun q => d[q]!) j)[q]!
  tail : ∀ q, j ≤ q → d1[q]! = d[q]!
theorem DelI.start {pr : Ans → Bool} {d : Array Ans} {i : Nat} (hi : pr d[i]! = true) (hb : ∀ j, j < i → pr d[j]! = false) : DelI pr d i (i + 1) d := by
  have e : kp pr (fun q => d[q]!) (i + 1) = (List.range i).map fun q => d[q]! := by rw [kp_T hi, kp_all hb]
  refine ⟨rfl, by rw [e]; simp, fun q hq => ?_, fun q _ => rfl⟩
  rw [e, getElem!_pos ((List.range i).map fun q => d[q]!) q (by simpa using hq)]; simp
theorem DelI.drop {pr : Ans → Bool} {d d1 : Array Ans} {i j : Nat} (h : DelI pr d i j d1) (hp : pr d1[j]! = true) : DelI pr d i (j + 1) d1 := by
  have e : kp pr (fun q => d[q]!) (j + 1) = kp pr (fun q => d[q]!) j := kp_T (by rw [← h.tail j (Nat.le_refl _)]; exact hp)
  exact ⟨h.sz, by rw [e]; exact h.len, fun q hq => by rw [e]; exact h.head q hq, fun q hq => h.tail q (by omega)⟩
theorem DelI.keep {pr : Ans → Bool} {d d1 : Array Ans} {i j : Nat} (h : DelI pr d i j d1) (hij : i < j) (hj : j < d.size) (hp : pr d1[j]! = false) : DelI pr d (i + 1) (j + 1) (d1.setIfInBounds i d1[j]!) := by
  have e : kp pr (fun q => d[q]!) (j + 1) = kp pr (fun q => d[q]!) j ++ [d[j]!] := kp_F (by rw [← h.tail j (Nat.le_refl _)]; exact hp)
  have hsz := h.sz
  refine ⟨by simpa using h.sz, by rw [e]; simp [h.len], fun q hq => ?_, fun q hq => ?_⟩
  · rw [set_get! (by omega), e]
    by_cases hq2 : i = q
    · subst hq2
      have hl := h.len
      rw [if_pos rfl, h.tail j (Nat.le_refl _), getElem!_pos (kp pr (fun q => d[q]!) j ++ [d[j]!]) i (by rw [List.length_append, hl]; simp), List.getElem_append_right (by omega)]
      simp
    · have hl := h.len
      rw [if_neg hq2, h.head q (by omega), getElem!_pos (kp pr (fun q => d[q]!) j) q (by omega), getElem!_pos (kp pr (fun q => d[q]!) j ++ [d[j]!]) q (by rw [List.length_append]; omega), List.getElem_append_left (by omega)]
  · rw [set_get! (by omega), if_neg (by omega)]; exact h.tail q (by omega)
theorem DelI.fin {pr : Ans → Bool} {d d1 : Array Ans} {i j n : Nat} (h : DelI pr d i j d1) (hj : j = n) (hi : i ≤ n) (hn : d.size = n) : (d1.extract 0 i).size = i ∧ (d1.extract 0 i).toList = kp pr (fun q => d[q]!) n := by
  have hsz := h.sz
  subst hj
  refine ⟨by simp; omega, ?_⟩
  apply List.ext_getElem?
  intro q
  by_cases hq : q < i
  · have h1 := h.head q hq
    rw [getElem!_pos _ _ (by omega), getElem!_pos _ _ (by rw [h.len]; exact hq)] at h1
    rw [List.getElem?_eq_getElem (by simp; omega), List.getElem?_eq_getElem (by rw [h.len]; exact hq), ← h1]
    simp
  · rw [List.getElem?_eq_none (by simp; omega), List.getElem?_eq_none (by rw [h.len]; omega)]
theorem arr_map {d : Array Ans} {n : Nat} (h : d.size = n) : (List.range n).map (fun q => d[q]!) = d.toList := by
  subst h
  apply List.ext_getElem
  · simp
  · intro i h1 h2; simp at h1 ⊢; rw [getElem!_pos d i h1]
/-- those that have ended -/
def endL (n : Nat) (f : Nat → Ans) : List Ans := kp goesA f n
theorem perm_self {d d' : Array Ans} (h : PermIn 0 d.size d d') : d'.size = d.size ∧ d'.toList.Perm d.toList := by
  obtain ⟨h1, _, h3⟩ := h
  refine ⟨h1, ?_⟩
  have e1 : d'.extract 0 d.size = d' := by rw [← h1]; exact Array.extract_size
  have e2 : d.extract 0 d.size = d := Array.extract_size
  rw [e1, e2] at h3
  exact h3
def aw1 : Ans := ⟨0, 0, 0, 1, 1, 3, 5, false, 0⟩
def aw2 : Ans := ⟨0, 0, 0, 2, 2, 4, 4, true, 0⟩
def aw3 : Ans := ⟨0, 0, 0, 2, 9, 0, 0, false, 0⟩
theorem aw_r3 : rightL 3 (fun i => (#[aw1, aw2, aw3] : Array Ans)[i]!) = true := by decide +kernel
theorem aw_r4 : rightL 4 (fun i => (#[aw1, aw2, aw3] ++ #[aw1] : Array Ans)[i]!) = false := by decide +kernel
theorem aw_ended {d : Array Ans} (h : d.toList = endL 3 (fun i => (#[aw1, aw2, aw3] : Array Ans)[i]!)) : d.size = 2 := by
  have := congrArg List.length h
  rw [Array.length_toList] at this
  rw [this]; rfl
theorem perm2 {α : Type} {l : List α} {x y : α} (h : l.Perm [x, y]) : l = [x, y] ∨ l = [y, x] := by
  have hl := h.length_eq
  match l, hl with
  | [p, q], _ =>
    rcases List.mem_cons.1 (h.mem_iff.1 (List.mem_cons_self .. : p ∈ [p, q])) with rfl | hp
    · have := (List.perm_cons p).1 h
      rw [List.perm_singleton] at this
      exact .inl (by rw [this])
    · have hp : p = y := by simpa using hp
      subst hp
      have h2 := h.trans (List.Perm.swap p x [])
      have := (List.perm_cons p).1 h2
      rw [List.perm_singleton] at this
      exact .inr (by rw [this])
theorem aw_pts {d : Array Ans} (h : d.toList.Perm (endL 3 (fun i => (#[aw1, aw2, aw3] : Array Ans)[i]!))) (hs : SortedIn (ltf fun x y => cmpI x.point y.point) 0 d.size d) : d.size = 2 ∧ d[1]!.yes = true := by
  have e : endL 3 (fun i => (#[aw1, aw2, aw3] : Array Ans)[i]!) = [aw1, aw2] := rfl
  rw [e] at h
  rcases perm2 h with h | h
  · obtain ⟨l⟩ := d
    simp only at h
    subst h
    exact ⟨rfl, rfl⟩
  · obtain ⟨l⟩ := d
    simp only at h
    subst h
    exact absurd (hs 0 1 (Nat.le_refl _) (by decide) (by decide)) (by decide)
theorem kpA_F {pr : Ans → Bool} {g : Nat → Ans} {j : Nat} (h : pr (g j) = false) : (kp pr g j).toArray ++ #[g j] = (kp pr g (j + 1)).toArray := by rw [kp_F h]; simp
theorem kpA_T {pr : Ans → Bool} {g : Nat → Ans} {j : Nat} (h : pr (g j) = true) : (kp pr g j).toArray = (kp pr g (j + 1)).toArray := by rw [kp_T h]
theorem get!_mem {d : Array Ans} {i : Nat} (h : i < d.size) : d[i]! ∈ d.toList := by rw [getElem!_pos d i h]; simp
theorem pt_le {x y : Ans} (h : ltf (fun x y => cmpI x.point y.point) y x = false) : x.point ≤ y.point := by
  unfold ltf cmpI at h
  have h2 := of_decide_eq_false h
  dsimp only at h2
  split at h2
  · exact absurd (by decide) h2
  · omega
theorem endL_mem {n : Nat} {f : Nat → Ans} {x : Ans} (hr : rightL n f = true) (h : x ∈ endL n f) : x.fin ≠ 0 ∧ x.beg < x.point ∧ x.point ≤ x.fin := by
  have h1 := (rightL_iff.1 hr).1
  unfold endL kp at h
  obtain ⟨h2, h3⟩ := List.mem_filter.1 h
  have h4 := h1 x h2
  unfold goesA at h3
  unfold oneL at h4
  simp at h3 h4
  refine ⟨h3, ?_, ?_⟩ <;> omega
theorem parts_ok {n : Nat} {f : Nat → Ans} {d : Array Ans} (hr : rightL n f = true) (hp : d.toList.Perm (endL n f)) (hs : SortedIn (ltf fun x y => cmpI x.point y.point) 0 d.size d) :
    (∀ i, i < d.size → ∃ j, j < (kp goesA f n).length ∧ d[i]! = (kp goesA f n).toArray[j]!) ∧ (∀ i, 0 < i → i < d.size → ¬ d[i]!.point ≤ d[i - 1]!.point) ∧ (∀ i j, j < i → i < d.size → ¬ d[i]!.fin < d[j]!.beg) := by
  have hmem : ∀ i, i < d.size → d[i]! ∈ endL n f := fun i hi => hp.mem_iff.1 (get!_mem hi)
  have hpw : d.toList.Pairwise fun x y => twoL x y = true ∧ twoL y x = true := by
    rw [hp.pairwise_iff (fun h => ⟨h.2, h.1⟩)]
    exact (rightL_iff.1 hr).2.filter _
  refine ⟨fun i hi => ?_, fun i h0 hi => ?_, fun i j hj hi => ?_⟩
  · obtain ⟨j, hj, he⟩ := List.getElem_of_mem (hmem i hi)
    refine ⟨j, hj, ?_⟩
    have hj2 : j < (kp goesA f n).toArray.size := by simpa using (show j < (kp goesA f n).length from hj)
    rw [getElem!_pos _ j hj2]
    rw [← he]; rfl
  · have h1 := pt_le (hs (i - 1) i (Nat.zero_le _) (by omega) hi)
    have h2 := List.pairwise_iff_getElem.1 hpw (i - 1) i (by simp; omega) (by simpa using hi) (by omega)
    have h3 := endL_mem hr (hmem i hi)
    have h4 := endL_mem hr (hmem (i - 1) (by omega))
    simp only [Array.getElem_toList] at h2
    rw [← getElem!_pos d i hi, ← getElem!_pos d (i - 1) (by omega)] at h2
    have h5 := h2.1
    unfold twoL at h5
    simp [h3.1, h4.1] at h5
    omega
  · have h1 := pt_le (hs j i (Nat.zero_le _) hj hi)
    have h3 := endL_mem hr (hmem i hi)
    have h4 := endL_mem hr (hmem j (by omega))
    omega
/-! ### the width -/
def atA (t : Int) (y : Ans) : Bool := decide (0 < t) && decide (y.beg ≤ t) && (decide (y.fin = 0) || decide (t ≤ y.fin))
def cntA (f : Nat → Ans) (t : Int) : Nat → Int
  | 0 => 0
  | k + 1 => if atA t (f k) then cntA f t k + 1 else cntA f t k
theorem cntA_bd (f : Nat → Ans) (t : Int) : ∀ k, 0 ≤ cntA f t k ∧ cntA f t k ≤ k
  | 0 => by simp [cntA]
  | k + 1 => by have := cntA_bd f t k; rw [cntA]; split <;> omega
theorem cntA_T {f : Nat → Ans} {t : Int} {k : Nat} (h : atA t (f k) = true) : cntA f t k + 1 = cntA f t (k + 1) := by rw [cntA, if_pos h]
theorem cntA_F {f : Nat → Ans} {t : Int} {k : Nat} (h : atA t (f k) = false) : cntA f t k = cntA f t (k + 1) := by rw [cntA, if_neg (by simp [h])]
def mostA (n : Nat) (f : Nat → Ans) : Nat → Int
  | 0 => 0
  | i + 1 => max (max (mostA n f i) (cntA f (f i).beg n)) (cntA f (f i).fin n)
def mostB (n : Nat) (f : Nat → Ans) (i : Nat) : Nat → Int
  | 0 => mostA n f i
  | q + 1 => max (mostB n f i q) (cntA f ((#[(f i).beg, (f i).fin] : Array Int)[q]!) n)
def keysA (f : Nat → Ans) : Nat → List Int
  | 0 => []
  | i + 1 => insK (keysA f i) (f i).thread
theorem cntA_eq (f : Nat → Ans) (t : Int) : ∀ k, cntA f t k = (((List.range k).map f).countP (atA t) : Nat)
  | 0 => rfl
  | k + 1 => by
    rw [cntA, cntA_eq f t k, List.range_succ, List.map_append, List.countP_append]
    by_cases h : atA t (f k) = true
    · rw [if_pos h]; simp [h]
    · rw [if_neg h]; simp [h]
theorem cntB_eq (f : Nat → Ans) (x : Ans) : ∀ k, cntB f x k = (((List.range k).map f).countP (atB x) : Nat)
  | 0 => rfl
  | k + 1 => by
    rw [cntB, cntB_eq f x k, List.range_succ, List.map_append, List.countP_append]
    by_cases h : atB x (f k) = true
    · rw [if_pos h]; simp [h]
    · rw [if_neg h]; simp [h]
theorem widthL_le {n : Nat} {f : Nat → Ans} {W : Int} (h0 : 0 ≤ W) : ∀ k, (∀ i, i < k → cntB f (f i) n ≤ W) → widthL n f k ≤ W
  | 0, _ => h0
  | k + 1, h => by
    have := widthL_le h0 k (fun i hi => h i (by omega))
    have := h k (by omega)
    rw [widthL]; omega
theorem le_widthL {n : Nat} {f : Nat → Ans} : ∀ {k i : Nat}, i < k → cntB f (f i) n ≤ widthL n f k
  | k + 1, i, h => by
    rw [widthL]
    by_cases e : i = k
    · subst e; omega
    · have := le_widthL (n := n) (f := f) (k := k) (i := i) (by omega); omega
theorem widthL_nn (n : Nat) (f : Nat → Ans) : ∀ k, 0 ≤ widthL n f k
  | 0 => Int.le_refl _
  | k + 1 => by have := widthL_nn n f k; rw [widthL]; omega
theorem mostA_le {n : Nat} {f : Nat → Ans} {W : Int} (h0 : 0 ≤ W) (h : ∀ t, cntA f t n ≤ W) : ∀ k, mostA n f k ≤ W
  | 0 => h0
  | k + 1 => by
    have h1 := mostA_le h0 h k
    have h2 := h (f k).beg
    have h3 := h (f k).fin
    rw [mostA]; omega
theorem le_mostA {n : Nat} {f : Nat → Ans} : ∀ {k i : Nat}, i < k → cntA f (f i).beg n ≤ mostA n f k
  | k + 1, i, h => by
    rw [mostA]
    by_cases e : i = k
    · subst e; omega
    · have := le_mostA (n := n) (f := f) (k := k) (i := i) (by omega); omega
theorem mostA_nn (n : Nat) (f : Nat → Ans) : ∀ k, 0 ≤ mostA n f k
  | 0 => Int.le_refl _
  | k + 1 => by have := mostA_nn n f k; rw [mostA]; omega
theorem exMax : ∀ (l : List Ans), l ≠ [] → ∃ x ∈ l, ∀ y ∈ l, y.beg ≤ x.beg
  | [], h => absurd rfl h
  | [x], _ => ⟨x, by simp, by simp⟩
  | x :: y :: r, _ => by
    obtain ⟨z, hz, hm⟩ := exMax (y :: r) (by simp)
    by_cases h : x.beg ≤ z.beg
    · exact ⟨z, List.mem_cons_of_mem _ hz, fun w hw => by rcases List.mem_cons.1 hw with rfl | hw; exact h; exact hm w hw⟩
    · exact ⟨x, List.mem_cons_self .., fun w hw => by
        rcases List.mem_cons.1 hw with rfl | hw
        · exact Int.le_refl _
        · have := hm w hw; omega⟩
theorem cntA_le_width {n : Nat} {f : Nat → Ans} (t : Int) : cntA f t n ≤ widthL n f n := by
  rw [cntA_eq, List.countP_eq_length_filter]
  by_cases h : ((List.range n).map f).filter (atA t) = []
  · rw [h]; exact widthL_nn n f n
  · obtain ⟨x, hx, hm⟩ := exMax _ h
    obtain ⟨hx1, hx2⟩ := List.mem_filter.1 hx
    obtain ⟨i, hi, rfl⟩ := List.mem_map.1 hx1
    refine Int.le_trans ?_ (le_widthL (n := n) (f := f) (k := n) (i := i) (by simpa using hi))
    rw [cntB_eq, ← List.countP_eq_length_filter]
    refine Int.ofNat_le.2 (List.countP_mono_left fun y hy hp => ?_)
    have h1 := hm y (List.mem_filter.2 ⟨hy, hp⟩)
    unfold atA at hp hx2
    unfold atB
    simp at hp hx2 ⊢
    omega
theorem nodup_len : ∀ {l1 l2 : List Int}, l1.Nodup → (∀ x ∈ l1, x ∈ l2) → l1.length ≤ l2.length
  | [], _, _, _ => Nat.zero_le _
  | a :: r, l2, hn, hs => by
    obtain ⟨h1, h2⟩ := List.nodup_cons.1 hn
    have ha := hs a (List.mem_cons_self ..)
    have := nodup_len (l2 := l2.erase a) h2 (fun x hx => (List.mem_erase_of_ne (by rintro rfl; exact h1 hx)).2 (hs x (List.mem_cons_of_mem _ hx)))
    rw [List.length_erase_of_mem ha] at this
    have := List.length_pos_of_mem ha
    simp; omega
theorem keysA_mem {f : Nat → Ans} : ∀ {k i : Nat}, i < k → (f i).thread ∈ keysA f k
  | k + 1, i, h => by
    rw [keysA, insK]
    by_cases e : i = k
    · subst e
      split
      · assumption
      · simp
    · have := keysA_mem (f := f) (k := k) (i := i) (by omega)
      split
      · exact this
      · exact List.mem_append_left _ this
theorem width_plain {n : Nat} {f : Nat → Ans} (hr : rightL n f = true) : widthL n f n = mostA n f n ∧ mostA n f n ≤ ((keysA f n).length : Nat) := by
  obtain ⟨h1, h2⟩ := rightL_iff.1 hr
  refine ⟨Int.le_antisymm (widthL_le (mostA_nn n f n) n fun i hi => ?_) (mostA_le (widthL_nn n f n) (fun t => cntA_le_width t) n), mostA_le (Int.natCast_nonneg _) (fun t => ?_) n⟩
  · refine Int.le_trans (Int.le_of_eq ?_) (le_mostA hi)
    rw [cntA_eq, cntB_eq]
    congr 1
    refine List.countP_congr fun y _ => ?_
    have h3 := h1 (f i) (List.mem_map.2 ⟨i, by simpa using hi, rfl⟩)
    unfold oneL at h3
    unfold atA atB
    simp at h3 ⊢
    omega
  · rw [cntA_eq, List.countP_eq_length_filter]
    have hpw : (((List.range n).map f).filter (atA t)).Pairwise fun x y => twoL x y = true ∧ twoL y x = true := h2.filter _
    have hnd : ((((List.range n).map f).filter (atA t)).map (·.thread)).Nodup := by
      unfold List.Nodup
      rw [List.pairwise_map]
      refine hpw.imp_of_mem fun {x y} hx hy hxy he => ?_
      have hx2 := (List.mem_filter.1 hx).2
      have hy2 := (List.mem_filter.1 hy).2
      obtain ⟨h5, h6⟩ := hxy
      unfold twoL at h5 h6
      unfold atA at hx2 hy2
      simp at h5 h6 hx2 hy2
      omega
    have := nodup_len (l2 := keysA f n) hnd (fun z hz => by
      obtain ⟨x, hx, rfl⟩ := List.mem_map.1 hz
      obtain ⟨i, hi, rfl⟩ := List.mem_map.1 (List.mem_filter.1 hx).1
      exact keysA_mem (by simpa using hi))
    rw [List.length_map] at this
    omega
/-! ### cuts -/
def cutZ (x : Ans) : Ans := { x with point := 0, fin := 0, yes := false, code := 0 }
def cutA (mo : Int) (x : Ans) : Ans := if mo < x.fin then cutZ x else x
def cutL (mo : Int) (f : Nat → Ans) : Nat → List Ans
  | 0 => []
  | i + 1 => if mo < (f i).beg then cutL mo f i else cutL mo f i ++ [cutA mo (f i)]
theorem cutL_len (mo : Int) (f : Nat → Ans) : ∀ n, (cutL mo f n).length ≤ n
  | 0 => Nat.le_refl _
  | n + 1 => by have := cutL_len mo f n; rw [cutL]; split <;> simp <;> omega
theorem cutA_0 {mo : Int} {f : Nat → Ans} {i : Nat} (h : mo < (f i).beg) : (cutL mo f i).toArray = (cutL mo f (i + 1)).toArray := by rw [cutL, if_pos h]
theorem cutA_1 {mo : Int} {f : Nat → Ans} {i : Nat} (h : ¬ mo < (f i).beg) (h2 : mo < (f i).fin) : (cutL mo f i).toArray ++ #[cutZ (f i)] = (cutL mo f (i + 1)).toArray := by rw [cutL, if_neg h, cutA, if_pos h2]; simp
theorem cutA_2 {mo : Int} {f : Nat → Ans} {i : Nat} (h : ¬ mo < (f i).beg) (h2 : ¬ mo < (f i).fin) : (cutL mo f i).toArray ++ #[f i] = (cutL mo f (i + 1)).toArray := by rw [cutL, if_neg h, cutA, if_neg h2]; simp
theorem cutL_eq (mo : Int) (f : Nat → Ans) : ∀ n, cutL mo f n = (((List.range n).map f).filter fun x => decide (x.beg ≤ mo)).map (cutA mo)
  | 0 => rfl
  | n + 1 => by
    rw [cutL, cutL_eq mo f n, List.range_succ, List.map_append, List.filter_append, List.map_append]
    by_cases h : mo < (f n).beg
    · have h2 : decide ((f n).beg ≤ mo) = false := by simp; omega
      rw [if_pos h]; simp [h2]
    · have h2 : decide ((f n).beg ≤ mo) = true := by simp; omega
      rw [if_neg h]; simp [h2]
theorem list_map {l : List Ans} : (List.range l.length).map (fun j => l.toArray[j]!) = l := by
  have := arr_map (d := l.toArray) (n := l.length) (by simp)
  simpa using this
theorem cuts_plain {mo : Int} {n : Nat} {f : Nat → Ans} (hr : rightL n f = true) : rightL (cutL mo f n).length (fun j => (cutL mo f n).toArray[j]!) = true ∧ widthL (cutL mo f n).length (fun j => (cutL mo f n).toArray[j]!) (cutL mo f n).length ≤ widthL n f n := by
  obtain ⟨h1, h2⟩ := rightL_iff.1 hr
  refine ⟨?_, ?_⟩
  · rw [rightL_iff, list_map, cutL_eq]
    refine ⟨fun x hx => ?_, ?_⟩
    · obtain ⟨y, hy, rfl⟩ := List.mem_map.1 hx
      obtain ⟨hy1, hy2⟩ := List.mem_filter.1 hy
      have h3 := h1 y hy1
      unfold cutA
      split
      · unfold oneL at h3 ⊢
        unfold cutZ
        simp at h3 ⊢
        omega
      · exact h3
    · rw [List.pairwise_map]
      refine (h2.filter _).imp_of_mem fun {x y} hx hy hxy => ?_
      have hx2 := (List.mem_filter.1 hx).2
      have hy2 := (List.mem_filter.1 hy).2
      obtain ⟨h5, h6⟩ := hxy
      unfold cutA
      unfold twoL at h5 h6 ⊢
      simp at h5 h6 hx2 hy2
      by_cases c1 : mo < x.fin <;> by_cases c2 : mo < y.fin <;> simp [c1, c2, cutZ] <;> omega
  · refine widthL_le (widthL_nn n f n) _ fun j hj => ?_
    rw [cntB_eq, list_map]
    have hm : (cutL mo f n).toArray[j]! ∈ cutL mo f n := by
      rw [getElem!_pos _ j (by simpa using hj)]; simp
    generalize (cutL mo f n).toArray[j]! = c at hm
    rw [cutL_eq] at hm ⊢
    obtain ⟨x, hx, rfl⟩ := List.mem_map.1 hm
    obtain ⟨hx1, hx2⟩ := List.mem_filter.1 hx
    obtain ⟨i, hi, rfl⟩ := List.mem_map.1 hx1
    refine Int.le_trans ?_ (le_widthL (n := n) (f := f) (k := n) (i := i) (by simpa using hi))
    rw [cntB_eq, List.countP_map, List.countP_filter]
    refine Int.ofNat_le.2 (List.countP_mono_left fun y hy hp => ?_)
    have hb : (cutA mo (f i)).beg = (f i).beg := by unfold cutA; split <;> rfl
    have hb2 : (cutA mo y).beg = y.beg := by unfold cutA; split <;> rfl
    simp only [Function.comp, atB, hb, hb2] at hp
    unfold atB
    unfold cutA cutZ at hp
    simp at hp hx2 ⊢
    by_cases c : mo < y.fin <;> simp [c] at hp <;> omega

theorem fc_c30 : callB Try.prog 30 = true := by kernel_rfl
theorem fc_f29_3_5 : fldB Try.prog 29 3 5 = true := by kernel_rfl
theorem fc_s3 : scalB Try.prog 3 = true := by kernel_rfl
theorem fc_c23 : callB Try.prog 23 = true := by kernel_rfl
theorem fc_f29_2_4 : fldB Try.prog 29 2 4 = true := by kernel_rfl
theorem fc_m : Try.prog.follows .mixedOrders = true := by kernel_rfl
theorem fc_l22_29_9 : sliceB Try.prog 22 29 9 = true := by kernel_rfl
theorem fc_a29_9 : aggB Try.prog 29 9 = true := by kernel_rfl
theorem fc_c44 : callB Try.prog 44 = true := by kernel_rfl
theorem fc_u62 : (Try.prog.underlying 62).isSome = true := by kernel_rfl
theorem fc_i5_u8 : intB Try.prog 5 .u8 = true := by kernel_rfl
theorem fc_str : Try.prog.underlying 9 = some .string := by kernel_rfl
theorem fc_u5 : (Try.prog.underlying 5).isSome = true := by kernel_rfl
theorem fc_i3_i64 : intB Try.prog 3 .i64 = true := by kernel_rfl
theorem fc_c42 : callB Try.prog 42 = true := by kernel_rfl
theorem fc_u3 : (Try.prog.underlying 3).isSome = true := by kernel_rfl
theorem fc_i48_u64 : intB Try.prog 48 .u64 = true := by kernel_rfl
theorem fc_c29 : callB Try.prog 29 = true := by kernel_rfl
theorem fc_s64 : scalB Try.prog 64 = true := by kernel_rfl
theorem fc_i64_u64 : intB Try.prog 64 .u64 = true := by kernel_rfl
theorem fc_z64 : zeroV Try.prog 64 = some (.int .u64 0) := by kernel_rfl
theorem fc_c45 : callB Try.prog 45 = true := by kernel_rfl
theorem fc_c46 : callB Try.prog 46 = true := by kernel_rfl
theorem fc_u48 : (Try.prog.underlying 48).isSome = true := by kernel_rfl
theorem fc_c49 : callB Try.prog 49 = true := by kernel_rfl
theorem fc_z3 : zeroV Try.prog 3 = some (.int .i64 0) := by kernel_rfl
theorem fc_c48 : callB Try.prog 48 = true := by kernel_rfl
theorem fc_c33 : callB Try.prog 33 = true := by kernel_rfl
theorem fc_c34 : callB Try.prog 34 = true := by kernel_rfl
theorem fc_c35 : callB Try.prog 35 = true := by kernel_rfl
theorem fc_c36 : callB Try.prog 36 = true := by kernel_rfl
theorem fc_c37 : callB Try.prog 37 = true := by kernel_rfl
theorem fc_c38 : callB Try.prog 38 = true := by kernel_rfl
theorem fc_c40 : callB Try.prog 40 = true := by kernel_rfl
theorem fc_c28 : callB Try.prog 28 = true := by kernel_rfl
theorem fc_c39 : callB Try.prog 39 = true := by kernel_rfl
theorem fc_f29_4_6 : fldB Try.prog 29 4 6 = true := by kernel_rfl
theorem fc_c18 : callB Try.prog 18 = true := by kernel_rfl
theorem fc_f29_1_3 : fldB Try.prog 29 1 3 = true := by kernel_rfl
theorem fc_f29_5_7 : fldB Try.prog 29 5 7 = true := by kernel_rfl
theorem fc_s4 : scalB Try.prog 4 = true := by kernel_rfl
theorem fc_f29_6_8 : fldB Try.prog 29 6 8 = true := by kernel_rfl
theorem fc_s27 : scalB Try.prog 27 = true := by kernel_rfl
theorem fc_c10 : callB Try.prog 10 = true := by kernel_rfl
theorem fc_z29 : zeroV Try.prog 29 = some (.agg #[.int .i64 0, .int .i64 0, .int .i64 0, .int .i64 0, .int .i64 0, .int .i64 0, .int .i64 0, .bool false, .int .i64 0]) := by kernel_rfl
theorem fc_s22 : scalB Try.prog 22 = true := by kernel_rfl
theorem fc_c32 : callB Try.prog 32 = true := by kernel_rfl
theorem fc_k22_29_9 : appB Try.prog 22 29 9 = true := by kernel_rfl
theorem fc_c43 : callB Try.prog 43 = true := by kernel_rfl
theorem fc_c31 : callB Try.prog 31 = true := by kernel_rfl
theorem fc_c21 : callB Try.prog 21 = true := by kernel_rfl
theorem fc_c26 : callB Try.prog 26 = true := by kernel_rfl
theorem fc_c25 : callB Try.prog 25 = true := by kernel_rfl
theorem fc_c24 : callB Try.prog 24 = true := by kernel_rfl
theorem fc_c15 : callB Try.prog 15 = true := by kernel_rfl
theorem fc_c16 : callB Try.prog 16 = true := by kernel_rfl
theorem fc_c17 : callB Try.prog 17 = true := by kernel_rfl
theorem fc_c27 : callB Try.prog 27 = true := by kernel_rfl
theorem fc_c20 : callB Try.prog 20 = true := by kernel_rfl
theorem fc_c19 : callB Try.prog 19 = true := by kernel_rfl
theorem fc_c11 : callB Try.prog 11 = true := by kernel_rfl
theorem fc_c22 : callB Try.prog 22 = true := by kernel_rfl
theorem fc_q29 : placesB Try.prog 29 [(0, 3), (3, 1), (4, 1), (5, 1), (6, 1), (7, 1), (8, 1)] = true := by kernel_rfl
theorem fc_c13 : callB Try.prog 13 = true := by kernel_rfl
theorem fc_c7 : callB Try.prog 7 = true := by kernel_rfl
theorem fc_c12 : callB Try.prog 12 = true := by kernel_rfl
theorem fc_c14 : callB Try.prog 14 = true := by kernel_rfl
theorem fc_c9 : callB Try.prog 9 = true := by kernel_rfl
theorem fc_c8 : callB Try.prog 8 = true := by kernel_rfl
theorem fc_b4 : boolB Try.prog 4 = true := by kernel_rfl
theorem fc_eg29 : Try.prog.eqGuardType Try.prog.depth 29 = false := by kernel_rfl
theorem fc_j33 : mapB Try.prog 33 = true := by kernel_rfl
theorem fc_l34_3_1 : sliceB Try.prog 34 3 1 = true := by kernel_rfl

theorem isnan_ok {x : Int} : FnD Try.prog 30 [.int .i64 x] [] (.bool false) [] := by
  refine Fn.enter (Try.func30) rfl rfl (fun w0 R => ?_)
  refine TC.seq ?_
  refine TC.region ?_
  refine TL.asg (.bool false) rfl rfl rfl ?_
  refine TL.done ?_
  refine TQ.then ?_
  refine TC.seq ?_
  refine TC.region ?_
  refine TL.mv (.int _ _) rfl rfl rfl ?_
  refine TL.mv (.int _ _) rfl rfl rfl ?_
  refine TL.neqV rfl rfl rfl rfl ?_
  refine TL.asg (.bool _) rfl rfl rfl ?_
  refine TL.done ?_
  refine TQ.then ?_
  refine TC.ret ?_
  refine FQ.ret1 (v := (.bool _)) (Bs := []) [] rfl rfl rfl trivial ?_
  exact ⟨congrArg Value.bool (by simp), rfl⟩

theorem compare_ok {x y : Int} : FnD Try.prog 23 [.int .i64 x, .int .i64 y] [] (.int .i64 (cmpI x y)) [] := by
  refine Fn.enter (Try.func23) rfl rfl (fun w0 R => ?_)
  refine TC.seq ?_
  refine TC.region ?_
  refine TL.asg (.int _ _) rfl rfl rfl ?_
  refine TL.done ?_
  refine TQ.then ?_
  refine TC.seq ?_
  refine TC.region ?_
  refine TL.mv (.int _ _) rfl rfl rfl ?_
  refine TL.callD [] [] isnan_ok ⟨rfl, trivial⟩ trivial fc_c30 rfl rfl rfl rfl rfl trivial ?_
  refine TL.asg (.bool false) rfl rfl rfl ?_
  refine TL.done ?_
  refine TQ.then ?_
  refine TC.seq ?_
  refine TC.region ?_
  refine TL.mv (.int _ _) rfl rfl rfl ?_
  refine TL.callD [] [] isnan_ok ⟨rfl, trivial⟩ trivial fc_c30 rfl rfl rfl rfl rfl trivial ?_
  refine TL.asg (.bool false) rfl rfl rfl ?_
  refine TL.done ?_
  refine TQ.then ?_
  refine TC.seq ?_
  refine TC.seq ?_
  refine TC.region ?_
  refine TL.mv (.bool false) rfl rfl rfl ?_
  refine TL.done ?_
  refine TQ.then ?_
  refine TC.condF rfl ?_
  refine TC.skip ?_
  refine TQ.then ?_
  refine TC.seq ?_
  refine TC.seq ?_
  refine TC.region ?_
  refine TL.mv (.bool false) rfl rfl rfl ?_
  refine TL.done ?_
  refine TQ.then ?_
  refine TC.condF rfl ?_
  refine TC.skip ?_
  refine TQ.then ?_
  refine TC.seq ?_
  refine TC.seq ?_
  refine TC.region ?_
  refine TL.mv (.int _ _) rfl rfl rfl ?_
  refine TL.mv (.int _ _) rfl rfl rfl ?_
  refine TL.lss rfl rfl rfl rfl (fun q1 => ?_) (fun q1 => ?_)
  · skip
    refine TL.done ?_
    refine TQ.then ?_
    refine TC.condT rfl ?_
    refine TC.seq ?_
    refine TC.region ?_
    refine TL.asg (.int _ _) rfl rfl rfl ?_
    refine TL.done ?_
    refine TQ.then ?_
    refine TC.ret ?_
    refine TQ.thenRet ?_
    refine FQ.ret1 (v := (.int _ _)) (Bs := []) [] rfl rfl rfl trivial ?_
    exact ⟨iE (by unfold cmpI; simp only [*, if_true, if_false]), rfl⟩
  · skip
    refine TL.done ?_
    refine TQ.then ?_
    refine TC.condF rfl ?_
    refine TC.skip ?_
    refine TQ.then ?_
    refine TC.seq ?_
    refine TC.seq ?_
    refine TC.region ?_
    refine TL.mv (.int _ _) rfl rfl rfl ?_
    refine TL.mv (.int _ _) rfl rfl rfl ?_
    refine TL.gtr rfl rfl rfl rfl (fun q2 => ?_) (fun q2 => ?_)
    · skip
      refine TL.done ?_
      refine TQ.then ?_
      refine TC.condT rfl ?_
      refine TC.seq ?_
      refine TC.region ?_
      refine TL.asg (.int _ _) rfl rfl rfl ?_
      refine TL.done ?_
      refine TQ.then ?_
      refine TC.ret ?_
      refine TQ.thenRet ?_
      refine FQ.ret1 (v := (.int _ _)) (Bs := []) [] rfl rfl rfl trivial ?_
      exact ⟨iE (by unfold cmpI; simp only [*, if_true, if_false]), rfl⟩
    · skip
      refine TL.done ?_
      refine TQ.then ?_
      refine TC.condF rfl ?_
      refine TC.skip ?_
      refine TQ.then ?_
      refine TC.seq ?_
      refine TC.region ?_
      refine TL.asg (.int _ _) rfl rfl rfl ?_
      refine TL.done ?_
      refine TQ.then ?_
      refine TC.ret ?_
      refine FQ.ret1 (v := (.int _ _)) (Bs := []) [] rfl rfl rfl trivial ?_
      exact ⟨iE (by unfold cmpI; simp only [*, if_true, if_false]), rfl⟩

theorem byPoint_ok {x y : Ans} : FnD Try.prog 22 [.agg #[.int .i64 x.kind, .int .i64 x.u, .int .i64 x.v, .int .i64 x.thread, .int .i64 x.beg, .int .i64 x.point, .int .i64 x.fin, .bool x.yes, .int .i64 x.code], .agg #[.int .i64 y.kind, .int .i64 y.u, .int .i64 y.v, .int .i64 y.thread, .int .i64 y.beg, .int .i64 y.point, .int .i64 y.fin, .bool y.yes, .int .i64 y.code]] [] (.int .i64 (cmpI x.point y.point)) [] := by
  refine Fn.enter (Try.func22) rfl rfl (fun w0 R => ?_)
  refine TC.seq ?_
  refine TC.region ?_
  refine TL.boxA 0 rfl rfl rfl (fun _ => trivial) (fun bk0 => ?_)
  refine TL.boxA 1 rfl rfl rfl (fun _ => trivial) (fun bk1 => ?_)
  refine TL.asg (.int _ _) rfl rfl rfl ?_
  refine TL.done ?_
  refine TQ.then ?_
  refine TC.seq ?_
  refine TC.region ?_
  refine TL.fa 5 rfl fc_f29_3_5 rfl rfl ?_
  refine TL.ld 0 (.int _ _) rfl rfl rfl fc_s3 rfl rfl ?_
  refine TL.fa 5 rfl fc_f29_3_5 rfl rfl ?_
  refine TL.ld 1 (.int _ _) rfl rfl rfl fc_s3 rfl rfl ?_
  refine TL.callD [] [] compare_ok ⟨rfl, rfl, trivial⟩ trivial fc_c23 rfl rfl rfl rfl rfl trivial ?_
  refine TL.asg (.int _ _) rfl rfl rfl ?_
  refine TL.done ?_
  refine TQ.then ?_
  refine TC.ret ?_
  refine FQ.ret1 (v := (.int _ _)) (Bs := []) [] rfl rfl rfl trivial ?_
  exact ⟨rfl, rfl⟩

theorem byBeg_ok {x y : Ans} : FnD Try.prog 26 [.agg #[.int .i64 x.kind, .int .i64 x.u, .int .i64 x.v, .int .i64 x.thread, .int .i64 x.beg, .int .i64 x.point, .int .i64 x.fin, .bool x.yes, .int .i64 x.code], .agg #[.int .i64 y.kind, .int .i64 y.u, .int .i64 y.v, .int .i64 y.thread, .int .i64 y.beg, .int .i64 y.point, .int .i64 y.fin, .bool y.yes, .int .i64 y.code]] [] (.int .i64 (cmpI x.beg y.beg)) [] := by
  refine Fn.enter (Try.func26) rfl rfl (fun w0 R => ?_)
  refine TC.seq ?_
  refine TC.region ?_
  refine TL.boxA 0 rfl rfl rfl (fun _ => trivial) (fun bk0 => ?_)
  refine TL.boxA 1 rfl rfl rfl (fun _ => trivial) (fun bk1 => ?_)
  refine TL.asg (.int _ _) rfl rfl rfl ?_
  refine TL.done ?_
  refine TQ.then ?_
  refine TC.seq ?_
  refine TC.region ?_
  refine TL.fa 4 rfl fc_f29_2_4 rfl rfl ?_
  refine TL.ld 0 (.int _ _) rfl rfl rfl fc_s3 rfl rfl ?_
  refine TL.fa 4 rfl fc_f29_2_4 rfl rfl ?_
  refine TL.ld 1 (.int _ _) rfl rfl rfl fc_s3 rfl rfl ?_
  refine TL.callD [] [] compare_ok ⟨rfl, rfl, trivial⟩ trivial fc_c23 rfl rfl rfl rfl rfl trivial ?_
  refine TL.asg (.int _ _) rfl rfl rfl ?_
  refine TL.done ?_
  refine TQ.then ?_
  refine TC.ret ?_
  refine FQ.ret1 (v := (.int _ _)) (Bs := []) [] rfl rfl rfl trivial ?_
  exact ⟨rfl, rfl⟩

set_option maxHeartbeats 4000000 in
theorem ins_ok {a : Option Addr} {b off n c g : Nat} {d : Array Ans} {cf : Ans → Ans → Int} (ha : 0 < n → a = some ⟨b, off, none⟩) (hn : n ≤ 1000) (hcb : callB Try.prog g = true) (hcmp : ∀ x y, FnD Try.prog g [.agg (encA x).toArray, .agg (encA y).toArray] [] (.int .i64 (cf x y)) []) {lo hi : Nat} (hhi : hi ≤ n) (hlo : lo ≤ n) : FnD Try.prog 33 [.slice a n c, .int .i64 ((lo : Nat) : Int), .int .i64 ((hi : Nat) : Int), .func (.func g) #[] #[]] [rw9 b off n d] (.tuple #[]) [rw9 b off n (insertionSort (ltf cf) d lo hi)] := by
  refine Fn.enter (Try.func33) rfl rfl (fun w0 R => ?_)
  refine TC.seq ?_
  refine TC.region ?_
  refine TL.mv (.int _ _) rfl rfl rfl ?_
  refine TL.add (((lo + 1 : Nat) : Int)) rfl rfl (wrN (by omega)) rfl rfl ?_
  refine TL.asg (.int _ _) rfl rfl rfl ?_
  refine TL.done ?_
  refine TQ.then ?_
  refine TC.block ?_
  refine TC.loopK (X := Nat × Array Ans) [0, 1, 2, 3] [] (fun ⟨i, d1⟩ => [(8, .int .i64 ((i : Nat) : Int))]) (fun ⟨i, d1⟩ => [(0, rw9 b off n d1)]) (fun ⟨i, d1⟩ => insOuter (ltf cf) lo hi i d1 = insertionSort (ltf cf) d lo hi) (fun ⟨i, d1⟩ => hi - i) ((lo + 1, d)) rfl ⟨rfl, trivial⟩ ⟨rfl, trivial⟩ (fun y hI => ?_)
  obtain ⟨i, d1⟩ := y
  replace hI : insOuter (ltf cf) lo hi i d1 = insertionSort (ltf cf) d lo hi := hI
  refine TC.sub (env' := [(8, _), (0, _), (1, _), (2, _), (3, _)]) (L' := [(0, _)]) ⟨rfl, rfl, rfl, rfl, rfl, trivial⟩ ⟨rfl, trivial⟩ ?_
  refine TC.seq ?_
  refine TC.seq ?_
  refine TC.region ?_
  refine TL.mv (.int _ _) rfl rfl rfl ?_
  refine TL.mv (.int _ _) rfl rfl rfl ?_
  refine TL.lss rfl rfl rfl rfl (fun q1 => ?_) (fun q1 => ?_)
  · skip
    refine TL.done ?_
    refine TQ.then ?_
    refine TC.condT rfl ?_
    refine TC.skip ?_
    refine TQ.then ?_
    refine TC.seq ?_
    refine TC.block ?_
    refine TC.seq ?_
    refine TC.region ?_
    refine TL.mv (.int _ _) rfl rfl rfl ?_
    refine TL.asg (.int _ _) rfl rfl rfl ?_
    refine TL.done ?_
    refine TQ.then ?_
    refine TC.block ?_
    refine TC.loopK (X := Nat × Array Ans) [0, 1, 2, 3, 8] [] (fun ⟨j, d2⟩ => [(9, .int .i64 ((j : Nat) : Int))]) (fun ⟨j, d2⟩ => [(0, rw9 b off n d2)]) (fun ⟨j, d2⟩ => j ≤ i ∧ insInner (ltf cf) lo j d2 = insInner (ltf cf) lo i d1) (fun ⟨j, d2⟩ => j) ((i, d1)) ⟨Nat.le_refl _, rfl⟩ ⟨rfl, trivial⟩ ⟨rfl, trivial⟩ (fun y hI => ?_)
    obtain ⟨j, d2⟩ := y
    obtain ⟨hj, hI2⟩ := hI
    refine TC.sub (env' := [(9, _), (0, _), (1, _), (2, _), (3, _), (8, _)]) (L' := [(0, _)]) ⟨rfl, rfl, rfl, rfl, rfl, rfl, trivial⟩ ⟨rfl, trivial⟩ ?_
    refine TC.seq ?_
    refine TC.seq ?_
    refine TC.draw [(0, true), (1, true), (2, true), (3, true), (4, true), (5, true), (6, true), (7, true), (8, true), (9, true), (10, true), (11, true), (12, true), (13, true), (14, false), (15, true), (16, true)] [0] fc_m (by kernel_rfl) ?_
    refine TL.mv (.int _ _) rfl rfl rfl ?_
    refine TL.mv (.int _ _) rfl rfl rfl ?_
    refine TL.gtr rfl rfl rfl rfl (fun q2 => ?_) (fun q2 => ?_)
    · skip
      refine TL.mv (.bool true) rfl rfl rfl ?_
      refine TL.mv _ rfl rfl rfl ?_
      refine TL.mv (.slice _ _ _) rfl rfl rfl ?_
      refine TL.mv (.int _ _) rfl rfl rfl ?_
      refine TL.iaO rfl ha rfl fc_l22_29_9 (by omega) rfl rfl ?_
      refine TL.ldR 0 rfl rfl rowW_of (by omega) fc_a29_9 rfl rfl ?_
      refine TL.mv (.slice _ _ _) rfl rfl rfl ?_
      refine TL.mv (.int _ _) rfl rfl rfl ?_
      refine TL.sub (((j - 1 : Nat) : Int)) rfl rfl (wrN (by omega)) rfl rfl ?_
      refine TL.iaO rfl ha rfl fc_l22_29_9 (by omega) rfl rfl ?_
      refine TL.ldR 0 rfl rfl rowW_of (by omega) fc_a29_9 rfl rfl ?_
      refine TL.callC (c1 := []) (c2 := []) (vs := [_, _]) [] [] rfl (hcmp _ _) ⟨rfl, rfl, trivial⟩ trivial hcb rfl rfl rfl rfl rfl (.cons rfl rfl trivial) ?_
      refine TL.lss rfl rfl rfl rfl (fun q3 => ?_) (fun q3 => ?_)
      · skip
        refine TL.pickT (.bool true) rfl rfl rfl rfl ?_
        refine TL.done ?_
        refine TQ.then ?_
        refine TC.condT rfl ?_
        refine TC.skip ?_
        refine TQ.then ?_
        refine TC.seq ?_
        refine TC.block ?_
        refine TC.draw2 [(0, true), (1, true), (2, true), (3, true), (4, true), (5, true), (6, true), (7, true), (8, true), (9, true), (10, true), (11, true), (12, true), (13, true), (14, true)] 15 [(16, true), (17, false)] [0] fc_m (by kernel_rfl) ?_
        refine TL.mv (.slice _ _ _) rfl rfl rfl ?_
        refine TL.mv (.int _ _) rfl rfl rfl ?_
        refine TL.mv (.slice _ _ _) rfl rfl rfl ?_
        refine TL.mv (.int _ _) rfl rfl rfl ?_
        refine TL.sub (((j - 1 : Nat) : Int)) rfl rfl (wrN (by omega)) rfl rfl ?_
        refine TL.mv (.slice _ _ _) rfl rfl rfl ?_
        refine TL.mv (.int _ _) rfl rfl rfl ?_
        refine TL.sub (((j - 1 : Nat) : Int)) rfl rfl (wrN (by omega)) rfl rfl ?_
        refine TL.iaO rfl ha rfl fc_l22_29_9 (by omega) rfl rfl ?_
        refine TL.ldR 0 rfl rfl rowW_of (by omega) fc_a29_9 rfl rfl ?_
        refine TL.mv (.slice _ _ _) rfl rfl rfl ?_
        refine TL.mv (.int _ _) rfl rfl rfl ?_
        refine TL.iaO rfl ha rfl fc_l22_29_9 (by omega) rfl rfl ?_
        refine TL.ldR 0 rfl rfl rowW_of (by omega) fc_a29_9 rfl rfl ?_
        refine TL.iaO rfl ha rfl fc_l22_29_9 (by omega) rfl rfl ?_
        refine TL.late ?_
        refine TL.stR 0 rfl rfl rfl encA_ok (by omega) fc_a29_9 rfl rfl trivial ?_
        refine TL.iaO rfl ha rfl fc_l22_29_9 (by omega) rfl rfl ?_
        refine TL.stR 0 rfl rfl rfl encA_ok (by omega) fc_a29_9 rfl rfl trivial ?_
        refine TL.done ?_
        refine TQ.inBlock ?_
        refine TQ.then ?_
        refine TC.region ?_
        refine TL.mv (.int _ _) rfl rfl rfl ?_
        refine TL.sub (((j - 1 : Nat) : Int)) rfl rfl (wrN (by omega)) rfl rfl ?_
        refine TL.asg (.int _ _) rfl rfl rfl ?_
        refine TL.done ?_
        refine TQ.roundK ((j - 1, swp d2 j (j - 1))) ⟨⟨by omega, insInner_step hI2 (by omega) (ltT (by assumption))⟩, show j - 1 < j by omega⟩ ⟨rfl, trivial⟩ ⟨rfl, trivial⟩ (.cons rfl rfl (.cons rfl rfl (.cons rfl rfl (.cons rfl rfl (.cons rfl rfl trivial))))) trivial
      · skip
        refine TL.pickT (.bool false) rfl rfl rfl rfl ?_
        refine TL.done ?_
        refine TQ.then ?_
        refine TC.condF rfl ?_
        refine TC.exit ?_
        refine TQ.thenExit ?_
        refine TQ.thenExit ?_
        refine TQ.blockHere ?_
        refine TQ.inBlock ?_
        refine TQ.then ?_
        refine TC.region ?_
        refine TL.mv (.int _ _) rfl rfl rfl ?_
        refine TL.add (((i + 1 : Nat) : Int)) rfl rfl (wrN (by omega)) rfl rfl ?_
        refine TL.asg (.int _ _) rfl rfl rfl ?_
        refine TL.done ?_
        refine TQ.roundK ((i + 1, d2)) ⟨(by rw [insOuter, if_pos (by omega), ← insInner_stop hI2 (.inr ⟨by omega, ltF (by assumption)⟩)] at hI; exact hI), show hi - (i + 1) < hi - i by omega⟩ ⟨rfl, trivial⟩ ⟨rfl, trivial⟩ (.cons rfl rfl (.cons rfl rfl (.cons rfl rfl (.cons rfl rfl trivial)))) trivial
    · skip
      refine TL.mv (.bool false) rfl rfl rfl ?_
      refine TL.off rfl rfl ?_
      refine TL.off rfl rfl ?_
      refine TL.off rfl rfl ?_
      refine TL.off rfl rfl ?_
      refine TL.off rfl rfl ?_
      refine TL.off rfl rfl ?_
      refine TL.off rfl rfl ?_
      refine TL.off rfl rfl ?_
      refine TL.off rfl rfl ?_
      refine TL.off rfl rfl ?_
      refine TL.off rfl rfl ?_
      refine TL.off rfl rfl ?_
      refine TL.pickF (.bool false) rfl rfl rfl rfl ?_
      refine TL.done ?_
      refine TQ.then ?_
      refine TC.condF rfl ?_
      refine TC.exit ?_
      refine TQ.thenExit ?_
      refine TQ.thenExit ?_
      refine TQ.blockHere ?_
      refine TQ.inBlock ?_
      refine TQ.then ?_
      refine TC.region ?_
      refine TL.mv (.int _ _) rfl rfl rfl ?_
      refine TL.add (((i + 1 : Nat) : Int)) rfl rfl (wrN (by omega)) rfl rfl ?_
      refine TL.asg (.int _ _) rfl rfl rfl ?_
      refine TL.done ?_
      refine TQ.roundK ((i + 1, d2)) ⟨(by rw [insOuter, if_pos (by omega), ← insInner_stop hI2 (.inl (by omega))] at hI; exact hI), show hi - (i + 1) < hi - i by omega⟩ ⟨rfl, trivial⟩ ⟨rfl, trivial⟩ (.cons rfl rfl (.cons rfl rfl (.cons rfl rfl (.cons rfl rfl trivial)))) trivial
  · skip
    refine TL.done ?_
    refine TQ.then ?_
    refine TC.condF rfl ?_
    refine TC.exit ?_
    refine TQ.thenExit ?_
    refine TQ.thenExit ?_
    refine TQ.blockHere ?_
    refine FQ.end0 (Bs := [_]) [0] rfl rfl ⟨rfl, trivial⟩ ?_
    rw [insOuter, if_neg (by omega)] at hI; exact ⟨rfl, by rw [hI]⟩

set_option maxHeartbeats 4000000 in
theorem sift_ok {a : Option Addr} {b off n c g : Nat} {d : Array Ans} {cf : Ans → Ans → Int} (ha : 0 < n → a = some ⟨b, off, none⟩) (hn : n ≤ 1000) (hcb : callB Try.prog g = true) (hcmp : ∀ x y, FnD Try.prog g [.agg (encA x).toArray, .agg (encA y).toArray] [] (.int .i64 (cf x y)) []) {lo hi first : Nat} (hlo : lo ≤ 2000) (hf : first + hi ≤ n) : FnD Try.prog 44 [.slice a n c, .int .i64 ((lo : Nat) : Int), .int .i64 ((hi : Nat) : Int), .int .i64 ((first : Nat) : Int), .func (.func g) #[] #[]] [rw9 b off n d] (.tuple #[]) [rw9 b off n (siftDown (ltf cf) hi first lo d)] := by
  refine Fn.enter (Try.func44) rfl rfl (fun w0 R => ?_)
  refine TC.seq ?_
  refine TC.region ?_
  refine TL.mv (.int _ _) rfl rfl rfl ?_
  refine TL.asg (.int _ _) rfl rfl rfl ?_
  refine TL.done ?_
  refine TQ.then ?_
  refine TC.block ?_
  refine TC.loopK (X := Nat × Array Ans) [0, 2, 3, 4] [] (fun ⟨rt, d1⟩ => [(10, .int .i64 ((rt : Nat) : Int))]) (fun ⟨rt, d1⟩ => [(0, rw9 b off n d1)]) (fun ⟨rt, d1⟩ => rt ≤ 2000 ∧ siftDown (ltf cf) hi first rt d1 = siftDown (ltf cf) hi first lo d) (fun ⟨rt, d1⟩ => hi - rt) ((lo, d)) ⟨hlo, rfl⟩ ⟨rfl, trivial⟩ ⟨rfl, trivial⟩ (fun y hI => ?_)
  obtain ⟨rt, d1⟩ := y
  obtain ⟨hrt, hI⟩ := hI
  replace hI : siftDown (ltf cf) hi first rt d1 = siftDown (ltf cf) hi first lo d := hI
  refine TC.sub (env' := [(10, _), (0, _), (2, _), (3, _), (4, _)]) (L' := [(0, _)]) ⟨rfl, rfl, rfl, rfl, rfl, trivial⟩ ⟨rfl, trivial⟩ ?_
  refine TC.block ?_
  refine TC.seq ?_
  refine TC.region ?_
  refine TL.mv (.int _ _) rfl rfl rfl ?_
  refine TL.mul (((2 * rt : Nat) : Int)) rfl rfl (wrN (by omega)) rfl rfl ?_
  refine TL.add (((2 * rt + 1 : Nat) : Int)) rfl rfl (wrN (by omega)) rfl rfl ?_
  refine TL.asg (.int _ _) rfl rfl rfl ?_
  refine TL.done ?_
  refine TQ.then ?_
  refine TC.seq ?_
  refine TC.seq ?_
  refine TC.region ?_
  refine TL.mv (.int _ _) rfl rfl rfl ?_
  refine TL.mv (.int _ _) rfl rfl rfl ?_
  refine TL.geq rfl rfl rfl rfl (fun q1 => ?_) (fun q1 => ?_)
  · skip
    refine TL.done ?_
    refine TQ.then ?_
    refine TC.condT rfl ?_
    refine TC.exit ?_
    refine TQ.thenExit ?_
    refine TQ.blockOut rfl ?_
    refine TQ.thenExit ?_
    refine TQ.blockHere ?_
    refine FQ.end0 (Bs := [_]) [0] rfl rfl ⟨rfl, trivial⟩ ?_
    exact ⟨rfl, by rw [← sift_end hI (by omega)]⟩
  · skip
    refine TL.done ?_
    refine TQ.then ?_
    refine TC.condF rfl ?_
    refine TC.skip ?_
    refine TQ.then ?_
    refine TC.seq ?_
    refine TC.seq ?_
    refine TC.draw [(0, true), (1, true), (2, true), (3, true), (4, true), (5, true), (6, true), (7, true), (8, true), (9, true), (10, true), (11, true), (12, true), (13, true), (14, true), (15, true), (16, true), (17, true), (18, true), (19, false), (20, true), (21, true)] [0] fc_m (by kernel_rfl) ?_
    refine TL.mv (.int _ _) rfl rfl rfl ?_
    refine TL.add (((2 * rt + 1 + 1 : Nat) : Int)) rfl rfl (wrN (by omega)) rfl rfl ?_
    refine TL.mv (.int _ _) rfl rfl rfl ?_
    refine TL.lss rfl rfl rfl rfl (fun q2 => ?_) (fun q2 => ?_)
    · skip
      refine TL.mv (.bool true) rfl rfl rfl ?_
      refine TL.mv _ rfl rfl rfl ?_
      refine TL.mv (.slice _ _ _) rfl rfl rfl ?_
      refine TL.mv (.int _ _) rfl rfl rfl ?_
      refine TL.mv (.int _ _) rfl rfl rfl ?_
      refine TL.add (((first + (2 * rt + 1) : Nat) : Int)) rfl rfl (wrN (by omega)) rfl rfl ?_
      refine TL.iaO rfl ha rfl fc_l22_29_9 (by omega) rfl rfl ?_
      refine TL.ldR 0 rfl rfl rowW_of (by omega) fc_a29_9 rfl rfl ?_
      refine TL.mv (.slice _ _ _) rfl rfl rfl ?_
      refine TL.mv (.int _ _) rfl rfl rfl ?_
      refine TL.mv (.int _ _) rfl rfl rfl ?_
      refine TL.add (((first + (2 * rt + 1) : Nat) : Int)) rfl rfl (wrN (by omega)) rfl rfl ?_
      refine TL.add (((first + (2 * rt + 1) + 1 : Nat) : Int)) rfl rfl (wrN (by omega)) rfl rfl ?_
      refine TL.iaO rfl ha rfl fc_l22_29_9 (by omega) rfl rfl ?_
      refine TL.ldR 0 rfl rfl rowW_of (by omega) fc_a29_9 rfl rfl ?_
      refine TL.callC (c1 := []) (c2 := []) (vs := [_, _]) [] [] rfl (hcmp _ _) ⟨rfl, rfl, trivial⟩ trivial hcb rfl rfl rfl rfl rfl (.cons rfl rfl trivial) ?_
      refine TL.lss rfl rfl rfl rfl (fun q3 => ?_) (fun q3 => ?_)
      · skip
        refine TL.pickT (.bool true) rfl rfl rfl rfl ?_
        refine TL.done ?_
        refine TQ.then ?_
        refine TC.condT rfl ?_
        refine TC.region ?_
        refine TL.mv (.int _ _) rfl rfl rfl ?_
        refine TL.add (((2 * rt + 1 + 1 : Nat) : Int)) rfl rfl (wrN (by omega)) rfl rfl ?_
        refine TL.asg (.int _ _) rfl rfl rfl ?_
        refine TL.done ?_
        refine TQ.then ?_
        refine TC.seq ?_
        refine TC.seq ?_
        refine TC.draw [(0, true), (1, true), (2, true), (3, true), (4, true), (5, true), (6, true), (7, true), (8, true), (9, true), (10, true), (11, true), (12, true), (13, false), (14, true), (15, true)] [0] fc_m (by kernel_rfl) ?_
        refine TL.mv _ rfl rfl rfl ?_
        refine TL.mv (.slice _ _ _) rfl rfl rfl ?_
        refine TL.mv (.int _ _) rfl rfl rfl ?_
        refine TL.mv (.int _ _) rfl rfl rfl ?_
        refine TL.add (((first + rt : Nat) : Int)) rfl rfl (wrN (by omega)) rfl rfl ?_
        refine TL.iaO rfl ha rfl fc_l22_29_9 (by omega) rfl rfl ?_
        refine TL.ldR 0 rfl rfl rowW_of (by omega) fc_a29_9 rfl rfl ?_
        refine TL.mv (.slice _ _ _) rfl rfl rfl ?_
        refine TL.mv (.int _ _) rfl rfl rfl ?_
        refine TL.mv (.int _ _) rfl rfl rfl ?_
        refine TL.add (((first + (2 * rt + 1 + 1) : Nat) : Int)) rfl rfl (wrN (by omega)) rfl rfl ?_
        refine TL.iaO rfl ha rfl fc_l22_29_9 (by omega) rfl rfl ?_
        refine TL.ldR 0 rfl rfl rowW_of (by omega) fc_a29_9 rfl rfl ?_
        refine TL.callC (c1 := []) (c2 := []) (vs := [_, _]) [] [] rfl (hcmp _ _) ⟨rfl, rfl, trivial⟩ trivial hcb rfl rfl rfl rfl rfl (.cons rfl rfl trivial) ?_
        refine TL.lss rfl rfl rfl rfl (fun q4 => ?_) (fun q4 => ?_)
        · skip
          refine TL.not true false rfl rfl rfl rfl ?_
          refine TL.done ?_
          refine TQ.then ?_
          refine TC.condF rfl ?_
          refine TC.skip ?_
          refine TQ.then ?_
          refine TC.seq ?_
          refine TC.draw2 [(0, true), (1, true), (2, true), (3, true), (4, true), (5, true), (6, true), (7, true), (8, true), (9, true), (10, true), (11, true), (12, true), (13, true), (14, true), (15, true), (16, true), (17, true), (18, true), (19, true), (20, true)] 21 [(22, true), (23, false)] [0] fc_m (by kernel_rfl) ?_
          refine TL.mv (.slice _ _ _) rfl rfl rfl ?_
          refine TL.mv (.int _ _) rfl rfl rfl ?_
          refine TL.mv (.int _ _) rfl rfl rfl ?_
          refine TL.add (((first + rt : Nat) : Int)) rfl rfl (wrN (by omega)) rfl rfl ?_
          refine TL.mv (.slice _ _ _) rfl rfl rfl ?_
          refine TL.mv (.int _ _) rfl rfl rfl ?_
          refine TL.mv (.int _ _) rfl rfl rfl ?_
          refine TL.add (((first + (2 * rt + 1 + 1) : Nat) : Int)) rfl rfl (wrN (by omega)) rfl rfl ?_
          refine TL.mv (.slice _ _ _) rfl rfl rfl ?_
          refine TL.mv (.int _ _) rfl rfl rfl ?_
          refine TL.mv (.int _ _) rfl rfl rfl ?_
          refine TL.add (((first + (2 * rt + 1 + 1) : Nat) : Int)) rfl rfl (wrN (by omega)) rfl rfl ?_
          refine TL.iaO rfl ha rfl fc_l22_29_9 (by omega) rfl rfl ?_
          refine TL.ldR 0 rfl rfl rowW_of (by omega) fc_a29_9 rfl rfl ?_
          refine TL.mv (.slice _ _ _) rfl rfl rfl ?_
          refine TL.mv (.int _ _) rfl rfl rfl ?_
          refine TL.mv (.int _ _) rfl rfl rfl ?_
          refine TL.add (((first + rt : Nat) : Int)) rfl rfl (wrN (by omega)) rfl rfl ?_
          refine TL.iaO rfl ha rfl fc_l22_29_9 (by omega) rfl rfl ?_
          refine TL.ldR 0 rfl rfl rowW_of (by omega) fc_a29_9 rfl rfl ?_
          refine TL.iaO rfl ha rfl fc_l22_29_9 (by omega) rfl rfl ?_
          refine TL.late ?_
          refine TL.stR 0 rfl rfl rfl encA_ok (by omega) fc_a29_9 rfl rfl trivial ?_
          refine TL.iaO rfl ha rfl fc_l22_29_9 (by omega) rfl rfl ?_
          refine TL.stR 0 rfl rfl rfl encA_ok (by omega) fc_a29_9 rfl rfl trivial ?_
          refine TL.done ?_
          refine TQ.then ?_
          refine TC.region ?_
          refine TL.mv (.int _ _) rfl rfl rfl ?_
          refine TL.asg (.int _ _) rfl rfl rfl ?_
          refine TL.done ?_
          refine TQ.inBlock ?_
          refine TQ.roundK ((2 * rt + 1 + 1, swp d1 (first + rt) (first + (2 * rt + 1 + 1)))) ⟨⟨by omega, sift_go hI (by omega) (.inl ⟨by omega, ltT (by assumption), rfl⟩) (ltT (by assumption))⟩, by show hi - _ < hi - _; omega⟩ ⟨rfl, trivial⟩ ⟨rfl, trivial⟩ (.cons rfl rfl (.cons rfl rfl (.cons rfl rfl (.cons rfl rfl trivial)))) trivial
        · skip
          refine TL.not false true rfl rfl rfl rfl ?_
          refine TL.done ?_
          refine TQ.then ?_
          refine TC.condT rfl ?_
          refine TC.ret ?_
          refine TQ.thenRet ?_
          refine TQ.blockRet ?_
          refine TQ.thenRet ?_
          refine TQ.blockRet ?_
          refine FQ.ret0 (Bs := [_]) [0] rfl rfl ⟨rfl, trivial⟩ ?_
          exact ⟨rfl, by rw [← sift_ret hI (by omega) (.inl ⟨by omega, ltT (by assumption), rfl⟩) (ltF (by assumption))]⟩
      · skip
        refine TL.pickT (.bool false) rfl rfl rfl rfl ?_
        refine TL.done ?_
        refine TQ.then ?_
        refine TC.condF rfl ?_
        refine TC.skip ?_
        refine TQ.then ?_
        refine TC.seq ?_
        refine TC.seq ?_
        refine TC.draw [(0, true), (1, true), (2, true), (3, true), (4, true), (5, true), (6, true), (7, true), (8, true), (9, true), (10, true), (11, true), (12, true), (13, false), (14, true), (15, true)] [0] fc_m (by kernel_rfl) ?_
        refine TL.mv _ rfl rfl rfl ?_
        refine TL.mv (.slice _ _ _) rfl rfl rfl ?_
        refine TL.mv (.int _ _) rfl rfl rfl ?_
        refine TL.mv (.int _ _) rfl rfl rfl ?_
        refine TL.add (((first + rt : Nat) : Int)) rfl rfl (wrN (by omega)) rfl rfl ?_
        refine TL.iaO rfl ha rfl fc_l22_29_9 (by omega) rfl rfl ?_
        refine TL.ldR 0 rfl rfl rowW_of (by omega) fc_a29_9 rfl rfl ?_
        refine TL.mv (.slice _ _ _) rfl rfl rfl ?_
        refine TL.mv (.int _ _) rfl rfl rfl ?_
        refine TL.mv (.int _ _) rfl rfl rfl ?_
        refine TL.add (((first + (2 * rt + 1) : Nat) : Int)) rfl rfl (wrN (by omega)) rfl rfl ?_
        refine TL.iaO rfl ha rfl fc_l22_29_9 (by omega) rfl rfl ?_
        refine TL.ldR 0 rfl rfl rowW_of (by omega) fc_a29_9 rfl rfl ?_
        refine TL.callC (c1 := []) (c2 := []) (vs := [_, _]) [] [] rfl (hcmp _ _) ⟨rfl, rfl, trivial⟩ trivial hcb rfl rfl rfl rfl rfl (.cons rfl rfl trivial) ?_
        refine TL.lss rfl rfl rfl rfl (fun q4 => ?_) (fun q4 => ?_)
        · skip
          refine TL.not true false rfl rfl rfl rfl ?_
          refine TL.done ?_
          refine TQ.then ?_
          refine TC.condF rfl ?_
          refine TC.skip ?_
          refine TQ.then ?_
          refine TC.seq ?_
          refine TC.draw2 [(0, true), (1, true), (2, true), (3, true), (4, true), (5, true), (6, true), (7, true), (8, true), (9, true), (10, true), (11, true), (12, true), (13, true), (14, true), (15, true), (16, true), (17, true), (18, true), (19, true), (20, true)] 21 [(22, true), (23, false)] [0] fc_m (by kernel_rfl) ?_
          refine TL.mv (.slice _ _ _) rfl rfl rfl ?_
          refine TL.mv (.int _ _) rfl rfl rfl ?_
          refine TL.mv (.int _ _) rfl rfl rfl ?_
          refine TL.add (((first + rt : Nat) : Int)) rfl rfl (wrN (by omega)) rfl rfl ?_
          refine TL.mv (.slice _ _ _) rfl rfl rfl ?_
          refine TL.mv (.int _ _) rfl rfl rfl ?_
          refine TL.mv (.int _ _) rfl rfl rfl ?_
          refine TL.add (((first + (2 * rt + 1) : Nat) : Int)) rfl rfl (wrN (by omega)) rfl rfl ?_
          refine TL.mv (.slice _ _ _) rfl rfl rfl ?_
          refine TL.mv (.int _ _) rfl rfl rfl ?_
          refine TL.mv (.int _ _) rfl rfl rfl ?_
          refine TL.add (((first + (2 * rt + 1) : Nat) : Int)) rfl rfl (wrN (by omega)) rfl rfl ?_
          refine TL.iaO rfl ha rfl fc_l22_29_9 (by omega) rfl rfl ?_
          refine TL.ldR 0 rfl rfl rowW_of (by omega) fc_a29_9 rfl rfl ?_
          refine TL.mv (.slice _ _ _) rfl rfl rfl ?_
          refine TL.mv (.int _ _) rfl rfl rfl ?_
          refine TL.mv (.int _ _) rfl rfl rfl ?_
          refine TL.add (((first + rt : Nat) : Int)) rfl rfl (wrN (by omega)) rfl rfl ?_
          refine TL.iaO rfl ha rfl fc_l22_29_9 (by omega) rfl rfl ?_
          refine TL.ldR 0 rfl rfl rowW_of (by omega) fc_a29_9 rfl rfl ?_
          refine TL.iaO rfl ha rfl fc_l22_29_9 (by omega) rfl rfl ?_
          refine TL.late ?_
          refine TL.stR 0 rfl rfl rfl encA_ok (by omega) fc_a29_9 rfl rfl trivial ?_
          refine TL.iaO rfl ha rfl fc_l22_29_9 (by omega) rfl rfl ?_
          refine TL.stR 0 rfl rfl rfl encA_ok (by omega) fc_a29_9 rfl rfl trivial ?_
          refine TL.done ?_
          refine TQ.then ?_
          refine TC.region ?_
          refine TL.mv (.int _ _) rfl rfl rfl ?_
          refine TL.asg (.int _ _) rfl rfl rfl ?_
          refine TL.done ?_
          refine TQ.inBlock ?_
          refine TQ.roundK ((2 * rt + 1, swp d1 (first + rt) (first + (2 * rt + 1)))) ⟨⟨by omega, sift_go hI (by omega) (.inr ⟨.inr (ltF (by assumption)), rfl⟩) (ltT (by assumption))⟩, by show hi - _ < hi - _; omega⟩ ⟨rfl, trivial⟩ ⟨rfl, trivial⟩ (.cons rfl rfl (.cons rfl rfl (.cons rfl rfl (.cons rfl rfl trivial)))) trivial
        · skip
          refine TL.not false true rfl rfl rfl rfl ?_
          refine TL.done ?_
          refine TQ.then ?_
          refine TC.condT rfl ?_
          refine TC.ret ?_
          refine TQ.thenRet ?_
          refine TQ.blockRet ?_
          refine TQ.thenRet ?_
          refine TQ.blockRet ?_
          refine FQ.ret0 (Bs := [_]) [0] rfl rfl ⟨rfl, trivial⟩ ?_
          exact ⟨rfl, by rw [← sift_ret hI (by omega) (.inr ⟨.inr (ltF (by assumption)), rfl⟩) (ltF (by assumption))]⟩
    · skip
      refine TL.mv (.bool false) rfl rfl rfl ?_
      refine TL.off rfl rfl ?_
      refine TL.off rfl rfl ?_
      refine TL.off rfl rfl ?_
      refine TL.off rfl rfl ?_
      refine TL.off rfl rfl ?_
      refine TL.off rfl rfl ?_
      refine TL.off rfl rfl ?_
      refine TL.off rfl rfl ?_
      refine TL.off rfl rfl ?_
      refine TL.off rfl rfl ?_
      refine TL.off rfl rfl ?_
      refine TL.off rfl rfl ?_
      refine TL.off rfl rfl ?_
      refine TL.off rfl rfl ?_
      refine TL.off rfl rfl ?_
      refine TL.off rfl rfl ?_
      refine TL.pickF (.bool false) rfl rfl rfl rfl ?_
      refine TL.done ?_
      refine TQ.then ?_
      refine TC.condF rfl ?_
      refine TC.skip ?_
      refine TQ.then ?_
      refine TC.seq ?_
      refine TC.seq ?_
      refine TC.draw [(0, true), (1, true), (2, true), (3, true), (4, true), (5, true), (6, true), (7, true), (8, true), (9, true), (10, true), (11, true), (12, true), (13, false), (14, true), (15, true)] [0] fc_m (by kernel_rfl) ?_
      refine TL.mv _ rfl rfl rfl ?_
      refine TL.mv (.slice _ _ _) rfl rfl rfl ?_
      refine TL.mv (.int _ _) rfl rfl rfl ?_
      refine TL.mv (.int _ _) rfl rfl rfl ?_
      refine TL.add (((first + rt : Nat) : Int)) rfl rfl (wrN (by omega)) rfl rfl ?_
      refine TL.iaO rfl ha rfl fc_l22_29_9 (by omega) rfl rfl ?_
      refine TL.ldR 0 rfl rfl rowW_of (by omega) fc_a29_9 rfl rfl ?_
      refine TL.mv (.slice _ _ _) rfl rfl rfl ?_
      refine TL.mv (.int _ _) rfl rfl rfl ?_
      refine TL.mv (.int _ _) rfl rfl rfl ?_
      refine TL.add (((first + (2 * rt + 1) : Nat) : Int)) rfl rfl (wrN (by omega)) rfl rfl ?_
      refine TL.iaO rfl ha rfl fc_l22_29_9 (by omega) rfl rfl ?_
      refine TL.ldR 0 rfl rfl rowW_of (by omega) fc_a29_9 rfl rfl ?_
      refine TL.callC (c1 := []) (c2 := []) (vs := [_, _]) [] [] rfl (hcmp _ _) ⟨rfl, rfl, trivial⟩ trivial hcb rfl rfl rfl rfl rfl (.cons rfl rfl trivial) ?_
      refine TL.lss rfl rfl rfl rfl (fun q3 => ?_) (fun q3 => ?_)
      · skip
        refine TL.not true false rfl rfl rfl rfl ?_
        refine TL.done ?_
        refine TQ.then ?_
        refine TC.condF rfl ?_
        refine TC.skip ?_
        refine TQ.then ?_
        refine TC.seq ?_
        refine TC.draw2 [(0, true), (1, true), (2, true), (3, true), (4, true), (5, true), (6, true), (7, true), (8, true), (9, true), (10, true), (11, true), (12, true), (13, true), (14, true), (15, true), (16, true), (17, true), (18, true), (19, true), (20, true)] 21 [(22, true), (23, false)] [0] fc_m (by kernel_rfl) ?_
        refine TL.mv (.slice _ _ _) rfl rfl rfl ?_
        refine TL.mv (.int _ _) rfl rfl rfl ?_
        refine TL.mv (.int _ _) rfl rfl rfl ?_
        refine TL.add (((first + rt : Nat) : Int)) rfl rfl (wrN (by omega)) rfl rfl ?_
        refine TL.mv (.slice _ _ _) rfl rfl rfl ?_
        refine TL.mv (.int _ _) rfl rfl rfl ?_
        refine TL.mv (.int _ _) rfl rfl rfl ?_
        refine TL.add (((first + (2 * rt + 1) : Nat) : Int)) rfl rfl (wrN (by omega)) rfl rfl ?_
        refine TL.mv (.slice _ _ _) rfl rfl rfl ?_
        refine TL.mv (.int _ _) rfl rfl rfl ?_
        refine TL.mv (.int _ _) rfl rfl rfl ?_
        refine TL.add (((first + (2 * rt + 1) : Nat) : Int)) rfl rfl (wrN (by omega)) rfl rfl ?_
        refine TL.iaO rfl ha rfl fc_l22_29_9 (by omega) rfl rfl ?_
        refine TL.ldR 0 rfl rfl rowW_of (by omega) fc_a29_9 rfl rfl ?_
        refine TL.mv (.slice _ _ _) rfl rfl rfl ?_
        refine TL.mv (.int _ _) rfl rfl rfl ?_
        refine TL.mv (.int _ _) rfl rfl rfl ?_
        refine TL.add (((first + rt : Nat) : Int)) rfl rfl (wrN (by omega)) rfl rfl ?_
        refine TL.iaO rfl ha rfl fc_l22_29_9 (by omega) rfl rfl ?_
        refine TL.ldR 0 rfl rfl rowW_of (by omega) fc_a29_9 rfl rfl ?_
        refine TL.iaO rfl ha rfl fc_l22_29_9 (by omega) rfl rfl ?_
        refine TL.late ?_
        refine TL.stR 0 rfl rfl rfl encA_ok (by omega) fc_a29_9 rfl rfl trivial ?_
        refine TL.iaO rfl ha rfl fc_l22_29_9 (by omega) rfl rfl ?_
        refine TL.stR 0 rfl rfl rfl encA_ok (by omega) fc_a29_9 rfl rfl trivial ?_
        refine TL.done ?_
        refine TQ.then ?_
        refine TC.region ?_
        refine TL.mv (.int _ _) rfl rfl rfl ?_
        refine TL.asg (.int _ _) rfl rfl rfl ?_
        refine TL.done ?_
        refine TQ.inBlock ?_
        refine TQ.roundK ((2 * rt + 1, swp d1 (first + rt) (first + (2 * rt + 1)))) ⟨⟨by omega, sift_go hI (by omega) (.inr ⟨.inl (by omega), rfl⟩) (ltT (by assumption))⟩, by show hi - _ < hi - _; omega⟩ ⟨rfl, trivial⟩ ⟨rfl, trivial⟩ (.cons rfl rfl (.cons rfl rfl (.cons rfl rfl (.cons rfl rfl trivial)))) trivial
      · skip
        refine TL.not false true rfl rfl rfl rfl ?_
        refine TL.done ?_
        refine TQ.then ?_
        refine TC.condT rfl ?_
        refine TC.ret ?_
        refine TQ.thenRet ?_
        refine TQ.blockRet ?_
        refine TQ.thenRet ?_
        refine TQ.blockRet ?_
        refine FQ.ret0 (Bs := [_]) [0] rfl rfl ⟨rfl, trivial⟩ ?_
        exact ⟨rfl, by rw [← sift_ret hI (by omega) (.inr ⟨.inl (by omega), rfl⟩) (ltF (by assumption))]⟩

set_option maxHeartbeats 4000000 in
theorem heap_ok {a : Option Addr} {b off n c g : Nat} {d : Array Ans} {cf : Ans → Ans → Int} (ha : 0 < n → a = some ⟨b, off, none⟩) (hn : n ≤ 1000) (hcb : callB Try.prog g = true) (hcmp : ∀ x y, FnD Try.prog g [.agg (encA x).toArray, .agg (encA y).toArray] [] (.int .i64 (cf x y)) []) {lo hi : Nat} (hlo : lo < hi) (hhi : hi ≤ n) : FnD Try.prog 34 [.slice a n c, .int .i64 ((lo : Nat) : Int), .int .i64 ((hi : Nat) : Int), .func (.func g) #[] #[]] [rw9 b off n d] (.tuple #[]) [rw9 b off n (heapSort (ltf cf) d lo hi)] := by
  refine Fn.enter (Try.func34) rfl rfl (fun w0 R => ?_)
  refine TC.seq ?_
  refine TC.region ?_
  refine TL.mv (.int _ _) rfl rfl rfl ?_
  refine TL.asg (.int _ _) rfl rfl rfl ?_
  refine TL.done ?_
  refine TQ.then ?_
  refine TC.seq ?_
  refine TC.region ?_
  refine TL.asg (.int _ _) rfl rfl rfl ?_
  refine TL.done ?_
  refine TQ.then ?_
  refine TC.seq ?_
  refine TC.region ?_
  refine TL.mv (.int _ _) rfl rfl rfl ?_
  refine TL.mv (.int _ _) rfl rfl rfl ?_
  refine TL.sub (((hi - lo : Nat) : Int)) rfl rfl (wrN (by omega)) rfl rfl ?_
  refine TL.asg (.int _ _) rfl rfl rfl ?_
  refine TL.done ?_
  refine TQ.then ?_
  refine TC.seq ?_
  refine TC.seq ?_
  refine TC.region ?_
  refine TL.mv (.int _ _) rfl rfl rfl ?_
  refine TL.sub (((hi - lo - 1 : Nat) : Int)) rfl rfl (wrN (by omega)) rfl rfl ?_
  refine TL.quo ((((hi - lo - 1) / 2 : Nat) : Int)) rfl rfl (by omega) (quoN (k := 2) (by omega)) rfl rfl ?_
  refine TL.asg (.int _ _) rfl rfl rfl ?_
  refine TL.done ?_
  refine TQ.then ?_
  refine TC.block ?_
  refine TC.loopK (X := Int × Array Ans) [0, 3, 8, 9, 10] [] (fun ⟨iv, d1⟩ => [(11, .int .i64 iv)]) (fun ⟨iv, d1⟩ => [(0, rw9 b off n d1)]) (fun ⟨iv, d1⟩ => ∃ k : Nat, iv + 1 = k ∧ k ≤ 1000 ∧ heapBuild (ltf cf) (hi - lo) lo k d1 = heapBuild (ltf cf) (hi - lo) lo ((hi - lo - 1) / 2 + 1) d) (fun ⟨iv, d1⟩ => (iv + 1).toNat) (((((hi - lo - 1) / 2 : Nat) : Int), d)) ⟨(hi - lo - 1) / 2 + 1, by omega, by omega, rfl⟩ ⟨rfl, trivial⟩ ⟨rfl, trivial⟩ (fun y hI => ?_)
  obtain ⟨iv, d1⟩ := y
  obtain ⟨k, hk, hk2, hI⟩ := hI
  replace hk : iv + 1 = k := hk
  replace hI : heapBuild (ltf cf) (hi - lo) lo k d1 = heapBuild (ltf cf) (hi - lo) lo ((hi - lo - 1) / 2 + 1) d := hI
  refine TC.sub (env' := [(11, _), (0, _), (3, _), (8, _), (9, _), (10, _)]) (L' := [(0, _)]) ⟨rfl, rfl, rfl, rfl, rfl, rfl, trivial⟩ ⟨rfl, trivial⟩ ?_
  refine TC.seq ?_
  refine TC.seq ?_
  refine TC.region ?_
  refine TL.mv (.int _ _) rfl rfl rfl ?_
  refine TL.geq rfl rfl rfl rfl (fun q1 => ?_) (fun q1 => ?_)
  · skip
    refine TL.done ?_
    refine TQ.then ?_
    refine TC.condT rfl ?_
    refine TC.skip ?_
    refine TQ.then ?_
    refine TC.seq ?_
    refine TC.block ?_
    refine TC.region ?_
    refine TL.mv (.slice _ _ _) rfl rfl rfl ?_
    refine TL.mv (.int _ _) rfl rfl rfl ?_
    refine TL.mv (.int _ _) rfl rfl rfl ?_
    refine TL.mv (.int _ _) rfl rfl rfl ?_
    refine TL.mv _ rfl rfl rfl ?_
    obtain ⟨m, rfl⟩ : ∃ m : Nat, iv = (m : Int) := ⟨iv.toNat, by omega⟩
    obtain rfl : k = m + 1 := by omega
    refine TL.callD [0] [0] (sift_ok ha hn hcb hcmp (by omega) (by omega)) ⟨rfl, rfl, rfl, rfl, rfl, trivial⟩ ⟨rfl, trivial⟩ fc_c44 rfl rfl rfl rfl rfl trivial ?_
    refine TL.done ?_
    refine TQ.inBlock ?_
    refine TQ.then ?_
    refine TC.region ?_
    refine TL.mv (.int _ _) rfl rfl rfl ?_
    refine TL.sub _ rfl rfl (wr64 (by omega)) rfl rfl ?_
    refine TL.asg (.int _ _) rfl rfl rfl ?_
    refine TL.done ?_
    refine TQ.roundK (((m : Int) - 1, siftDown (ltf cf) (hi - lo) lo m d1)) ⟨⟨m, by omega, by omega, hI⟩, by show ((m : Int) - 1 + 1).toNat < ((m : Int) + 1).toNat; omega⟩ ⟨rfl, trivial⟩ ⟨rfl, trivial⟩ (.cons rfl rfl (.cons rfl rfl (.cons rfl rfl (.cons rfl rfl (.cons rfl rfl trivial))))) trivial
  · skip
    refine TL.done ?_
    refine TQ.then ?_
    refine TC.condF rfl ?_
    refine TC.exit ?_
    refine TQ.thenExit ?_
    refine TQ.thenExit ?_
    refine TQ.blockHere ?_
    refine TQ.then ?_
    refine TC.seq ?_
    refine TC.region ?_
    refine TL.mv (.int _ _) rfl rfl rfl ?_
    refine TL.sub (((hi - lo - 1 : Nat) : Int)) rfl rfl (wrN (by omega)) rfl rfl ?_
    refine TL.asg (.int _ _) rfl rfl rfl ?_
    refine TL.done ?_
    refine TQ.then ?_
    refine TC.block ?_
    obtain rfl : k = 0 := by omega
    replace hI : d1 = heapBuild (ltf cf) (hi - lo) lo ((hi - lo - 1) / 2 + 1) d := hI
    subst hI
    refine TC.loopK (X := Int × Array Ans) [0, 3, 8, 9] [] (fun ⟨iv, d1⟩ => [(12, .int .i64 iv)]) (fun ⟨iv, d1⟩ => [(0, rw9 b off n d1)]) (fun ⟨iv, d1⟩ => ∃ k : Nat, iv + 1 = k ∧ k ≤ hi - lo ∧ heapPop (ltf cf) lo k d1 = heapSort (ltf cf) d lo hi) (fun ⟨iv, d1⟩ => (iv + 1).toNat) ((((hi - lo - 1 : Nat) : Int), heapBuild (ltf cf) (hi - lo) lo ((hi - lo - 1) / 2 + 1) d)) ⟨hi - lo, by omega, by omega, rfl⟩ ⟨rfl, trivial⟩ ⟨rfl, trivial⟩ (fun y hI => ?_)
    obtain ⟨iv, d1⟩ := y
    obtain ⟨k, hk, hk2, hI⟩ := hI
    replace hk : iv + 1 = k := hk
    replace hI : heapPop (ltf cf) lo k d1 = heapSort (ltf cf) d lo hi := hI
    refine TC.sub (env' := [(12, _), (0, _), (3, _), (8, _), (9, _)]) (L' := [(0, _)]) ⟨rfl, rfl, rfl, rfl, rfl, trivial⟩ ⟨rfl, trivial⟩ ?_
    refine TC.seq ?_
    refine TC.seq ?_
    refine TC.region ?_
    refine TL.mv (.int _ _) rfl rfl rfl ?_
    refine TL.geq rfl rfl rfl rfl (fun q2 => ?_) (fun q2 => ?_)
    · skip
      refine TL.done ?_
      refine TQ.then ?_
      refine TC.condT rfl ?_
      refine TC.skip ?_
      refine TQ.then ?_
      refine TC.seq ?_
      refine TC.block ?_
      refine TC.seq ?_
      refine TC.draw2 [(0, true), (1, true), (2, true), (3, true), (4, true), (5, true), (6, true), (7, true), (8, true), (9, true), (10, true), (11, true), (12, true), (13, true), (14, true), (15, true), (16, true)] 17 [(18, true), (19, false)] [0] fc_m (by kernel_rfl) ?_
      obtain ⟨m, rfl⟩ : ∃ m : Nat, iv = (m : Int) := ⟨iv.toNat, by omega⟩
      obtain rfl : k = m + 1 := by omega
      refine TL.mv (.slice _ _ _) rfl rfl rfl ?_
      refine TL.mv (.int _ _) rfl rfl rfl ?_
      refine TL.mv (.slice _ _ _) rfl rfl rfl ?_
      refine TL.mv (.int _ _) rfl rfl rfl ?_
      refine TL.mv (.int _ _) rfl rfl rfl ?_
      refine TL.add (((lo + m : Nat) : Int)) rfl rfl (wrN (by omega)) rfl rfl ?_
      refine TL.mv (.slice _ _ _) rfl rfl rfl ?_
      refine TL.mv (.int _ _) rfl rfl rfl ?_
      refine TL.mv (.int _ _) rfl rfl rfl ?_
      refine TL.add (((lo + m : Nat) : Int)) rfl rfl (wrN (by omega)) rfl rfl ?_
      refine TL.iaO rfl ha rfl fc_l22_29_9 (by omega) rfl rfl ?_
      refine TL.ldR 0 rfl rfl rowW_of (by omega) fc_a29_9 rfl rfl ?_
      refine TL.mv (.slice _ _ _) rfl rfl rfl ?_
      refine TL.mv (.int _ _) rfl rfl rfl ?_
      refine TL.iaO rfl ha rfl fc_l22_29_9 (by omega) rfl rfl ?_
      refine TL.ldR 0 rfl rfl rowW_of (by omega) fc_a29_9 rfl rfl ?_
      refine TL.iaO rfl ha rfl fc_l22_29_9 (by omega) rfl rfl ?_
      refine TL.late ?_
      refine TL.stR 0 rfl rfl rfl encA_ok (by omega) fc_a29_9 rfl rfl trivial ?_
      refine TL.iaO rfl ha rfl fc_l22_29_9 (by omega) rfl rfl ?_
      refine TL.stR 0 rfl rfl rfl encA_ok (by omega) fc_a29_9 rfl rfl trivial ?_
      refine TL.done ?_
      refine TQ.then ?_
      refine TC.region ?_
      refine TL.mv (.slice _ _ _) rfl rfl rfl ?_
      refine TL.mv (.int _ _) rfl rfl rfl ?_
      refine TL.mv (.int _ _) rfl rfl rfl ?_
      refine TL.mv (.int _ _) rfl rfl rfl ?_
      refine TL.mv _ rfl rfl rfl ?_
      refine TL.callD [0] [0] (sift_ok (lo := 0) ha hn hcb hcmp (by omega) (by omega)) ⟨rfl, rfl, rfl, rfl, rfl, trivial⟩ ⟨rfl, trivial⟩ fc_c44 rfl rfl rfl rfl rfl trivial ?_
      refine TL.done ?_
      refine TQ.inBlock ?_
      refine TQ.then ?_
      refine TC.region ?_
      refine TL.mv (.int _ _) rfl rfl rfl ?_
      refine TL.sub _ rfl rfl (wr64 (by omega)) rfl rfl ?_
      refine TL.asg (.int _ _) rfl rfl rfl ?_
      refine TL.done ?_
      refine TQ.roundK (((m : Int) - 1, siftDown (ltf cf) m lo 0 (swp d1 lo (lo + m)))) ⟨⟨m, by omega, by omega, hI⟩, by show ((m : Int) - 1 + 1).toNat < ((m : Int) + 1).toNat; omega⟩ ⟨rfl, trivial⟩ ⟨rfl, trivial⟩ (.cons rfl rfl (.cons rfl rfl (.cons rfl rfl (.cons rfl rfl trivial)))) trivial
    · skip
      refine TL.done ?_
      refine TQ.then ?_
      refine TC.condF rfl ?_
      refine TC.exit ?_
      refine TQ.thenExit ?_
      refine TQ.thenExit ?_
      refine TQ.blockHere ?_
      refine FQ.end0 (Bs := [_]) [0] rfl rfl ⟨rfl, trivial⟩ ?_
      obtain rfl : k = 0 := by omega
      exact ⟨rfl, by rw [← hI]; rfl⟩

set_option maxHeartbeats 4000000 in
theorem rev_ok {a : Option Addr} {b off n c g : Nat} {d : Array Ans} {cf : Ans → Ans → Int} (ha : 0 < n → a = some ⟨b, off, none⟩) (hn : n ≤ 1000) (hcb : callB Try.prog g = true) (hcmp : ∀ x y, FnD Try.prog g [.agg (encA x).toArray, .agg (encA y).toArray] [] (.int .i64 (cf x y)) []) {lo hi : Nat} (hlo : 1 ≤ hi) (hhi : hi ≤ n) (hl : lo ≤ n) : FnD Try.prog 37 [.slice a n c, .int .i64 ((lo : Nat) : Int), .int .i64 ((hi : Nat) : Int), .func (.func g) #[] #[]] [rw9 b off n d] (.tuple #[]) [rw9 b off n (reverseRange d lo hi)] := by
  refine Fn.enter (Try.func37) rfl rfl (fun w0 R => ?_)
  refine TC.seq ?_
  refine TC.region ?_
  refine TL.mv (.int _ _) rfl rfl rfl ?_
  refine TL.asg (.int _ _) rfl rfl rfl ?_
  refine TL.done ?_
  refine TQ.then ?_
  refine TC.seq ?_
  refine TC.region ?_
  refine TL.mv (.int _ _) rfl rfl rfl ?_
  refine TL.sub (((hi - 1 : Nat) : Int)) rfl rfl (wrN (by omega)) rfl rfl ?_
  refine TL.asg (.int _ _) rfl rfl rfl ?_
  refine TL.done ?_
  refine TQ.then ?_
  refine TC.block ?_
  refine TC.loopK (X := Nat × Nat × Array Ans) [0] [] (fun ⟨i, j, d1⟩ => [(8, .int .i64 ((i : Nat) : Int)), (9, .int .i64 ((j : Nat) : Int))]) (fun ⟨i, j, d1⟩ => [(0, rw9 b off n d1)]) (fun ⟨i, j, d1⟩ => i ≤ n ∧ j < n ∧ reverseLoop i j d1 = reverseRange d lo hi) (fun ⟨i, j, d1⟩ => j - i) ((lo, hi - 1, d)) ⟨hl, by omega, rfl⟩ ⟨rfl, rfl, trivial⟩ ⟨rfl, trivial⟩ (fun y hI => ?_)
  obtain ⟨i, j, d1⟩ := y
  obtain ⟨hi1, hj1, hI⟩ := hI
  replace hj1 : j < n := hj1
  replace hi1 : i ≤ n := hi1
  refine TC.sub (env' := [(8, _), (9, _), (0, _)]) (L' := [(0, _)]) ⟨rfl, rfl, rfl, trivial⟩ ⟨rfl, trivial⟩ ?_
  refine TC.seq ?_
  refine TC.seq ?_
  refine TC.region ?_
  refine TL.mv (.int _ _) rfl rfl rfl ?_
  refine TL.mv (.int _ _) rfl rfl rfl ?_
  refine TL.lss rfl rfl rfl rfl (fun q1 => ?_) (fun q1 => ?_)
  · skip
    refine TL.done ?_
    refine TQ.then ?_
    refine TC.condT rfl ?_
    refine TC.skip ?_
    refine TQ.then ?_
    refine TC.block ?_
    refine TC.seq ?_
    refine TC.draw2 [(0, true), (1, true), (2, true), (3, true), (4, true), (5, true), (6, true), (7, true), (8, true), (9, true), (10, true), (11, true), (12, true)] 13 [(14, true), (15, false)] [0] fc_m (by kernel_rfl) ?_
    refine TL.mv (.slice _ _ _) rfl rfl rfl ?_
    refine TL.mv (.int _ _) rfl rfl rfl ?_
    refine TL.mv (.slice _ _ _) rfl rfl rfl ?_
    refine TL.mv (.int _ _) rfl rfl rfl ?_
    refine TL.mv (.slice _ _ _) rfl rfl rfl ?_
    refine TL.mv (.int _ _) rfl rfl rfl ?_
    refine TL.iaO rfl ha rfl fc_l22_29_9 (by omega) rfl rfl ?_
    refine TL.ldR 0 rfl rfl rowW_of (by omega) fc_a29_9 rfl rfl ?_
    refine TL.mv (.slice _ _ _) rfl rfl rfl ?_
    refine TL.mv (.int _ _) rfl rfl rfl ?_
    refine TL.iaO rfl ha rfl fc_l22_29_9 (by omega) rfl rfl ?_
    refine TL.ldR 0 rfl rfl rowW_of (by omega) fc_a29_9 rfl rfl ?_
    refine TL.iaO rfl ha rfl fc_l22_29_9 (by omega) rfl rfl ?_
    refine TL.late ?_
    refine TL.stR 0 rfl rfl rfl encA_ok (by omega) fc_a29_9 rfl rfl trivial ?_
    refine TL.iaO rfl ha rfl fc_l22_29_9 (by omega) rfl rfl ?_
    refine TL.stR 0 rfl rfl rfl encA_ok (by omega) fc_a29_9 rfl rfl trivial ?_
    refine TL.done ?_
    refine TQ.then ?_
    refine TC.seq ?_
    refine TC.region ?_
    refine TL.mv (.int _ _) rfl rfl rfl ?_
    refine TL.add (((i + 1 : Nat) : Int)) rfl rfl (wrN (by omega)) rfl rfl ?_
    refine TL.asg (.int _ _) rfl rfl rfl ?_
    refine TL.done ?_
    refine TQ.then ?_
    refine TC.region ?_
    refine TL.mv (.int _ _) rfl rfl rfl ?_
    refine TL.sub (((j - 1 : Nat) : Int)) rfl rfl (wrN (by omega)) rfl rfl ?_
    refine TL.asg (.int _ _) rfl rfl rfl ?_
    refine TL.done ?_
    refine TQ.inBlock ?_
    refine TQ.roundK ((i + 1, j - 1, swp d1 i j)) ⟨⟨by omega, by omega, rev_go hI (by omega)⟩, by show j - 1 - (i + 1) < j - i; omega⟩ ⟨rfl, rfl, trivial⟩ ⟨rfl, trivial⟩ (.cons rfl rfl trivial) trivial
  · skip
    refine TL.done ?_
    refine TQ.then ?_
    refine TC.condF rfl ?_
    refine TC.exit ?_
    refine TQ.thenExit ?_
    refine TQ.thenExit ?_
    refine TQ.blockHere ?_
    refine FQ.end0 (Bs := [_]) [0] rfl rfl ⟨rfl, trivial⟩ ?_
    exact ⟨rfl, by rw [← rev_end hI (by omega)]⟩

set_option maxHeartbeats 4000000 in
theorem order2_ok {a : Option Addr} {b off n c g : Nat} {d : Array Ans} {cf : Ans → Ans → Int} (ha : 0 < n → a = some ⟨b, off, none⟩) (hn : n ≤ 1000) (hcb : callB Try.prog g = true) (hcmp : ∀ x y, FnD Try.prog g [.agg (encA x).toArray, .agg (encA y).toArray] [] (.int .i64 (cf x y)) []) {p q s bs : Nat} (hp : p < n) (hq : q < n) (hs : s ≤ 1000) : FnD Try.prog 49 [.slice a n c, .int .i64 ((p : Nat) : Int), .int .i64 ((q : Nat) : Int), .pointer (some ⟨bs, 0, none⟩), .func (.func g) #[] #[]] [rw9 b off n d, pt bs (.cells #[.int .i64 ((s : Nat) : Int)] 3)] (.tuple #[.int .i64 (((order2 (ltf cf) d p q s).1 : Nat) : Int), .int .i64 (((order2 (ltf cf) d p q s).2.1 : Nat) : Int)]) [rw9 b off n (d), pt bs (.cells #[.int .i64 (((order2 (ltf cf) d p q s).2.2 : Nat) : Int)] 3)] := by
  refine Fn.enter (Try.func49) rfl rfl (fun w0 R => ?_)
  refine TC.seq ?_
  refine TC.region ?_
  refine TL.asg (.int _ _) rfl rfl rfl ?_
  refine TL.asg (.int _ _) rfl rfl rfl ?_
  refine TL.done ?_
  refine TQ.then ?_
  refine TC.seq ?_
  refine TC.seq ?_
  refine TC.draw [(0, true), (1, true), (2, true), (3, true), (4, true), (5, true), (6, true), (7, true), (8, true), (9, false), (10, true)] [0] fc_m (by kernel_rfl) ?_
  refine TL.mv _ rfl rfl rfl ?_
  refine TL.mv (.slice _ _ _) rfl rfl rfl ?_
  refine TL.mv (.int _ _) rfl rfl rfl ?_
  refine TL.iaO rfl ha rfl fc_l22_29_9 (by omega) rfl rfl ?_
  refine TL.ldR 0 rfl rfl rowW_of (by omega) fc_a29_9 rfl rfl ?_
  refine TL.mv (.slice _ _ _) rfl rfl rfl ?_
  refine TL.mv (.int _ _) rfl rfl rfl ?_
  refine TL.iaO rfl ha rfl fc_l22_29_9 (by omega) rfl rfl ?_
  refine TL.ldR 0 rfl rfl rowW_of (by omega) fc_a29_9 rfl rfl ?_
  refine TL.callC (c1 := []) (c2 := []) (vs := [_, _]) [] [] rfl (hcmp _ _) ⟨rfl, rfl, trivial⟩ trivial hcb rfl rfl rfl rfl rfl (.cons rfl rfl trivial) ?_
  refine TL.lss rfl rfl rfl rfl (fun q1 => ?_) (fun q1 => ?_)
  · skip
    refine TL.done ?_
    refine TQ.then ?_
    refine TC.condT rfl ?_
    refine TC.seq ?_
    refine TC.region ?_
    refine TL.mv (.pointer (some ⟨_, _, none⟩)) rfl rfl rfl ?_
    refine TL.nc rfl rfl rfl ?_
    refine TL.ld 1 (.int _ _) rfl rfl rfl fc_s3 rfl rfl ?_
    refine TL.add (((s + 1 : Nat) : Int)) rfl rfl (wrN (by omega)) rfl rfl ?_
    refine TL.nc rfl rfl rfl ?_
    refine TL.st 1 #[_] (.int _ _) rfl rfl rfl rfl rfl rfl fc_s3 rfl rfl trivial ?_
    refine TL.done ?_
    refine TQ.then ?_
    refine TC.seq ?_
    refine TC.region ?_
    refine TL.mv (.int _ _) rfl rfl rfl ?_
    refine TL.mv (.int _ _) rfl rfl rfl ?_
    refine TL.asg (.int _ _) rfl rfl rfl ?_
    refine TL.asg (.int _ _) rfl rfl rfl ?_
    refine TL.done ?_
    refine TQ.then ?_
    refine TC.ret ?_
    refine TQ.thenRet ?_
    refine FQ.ret2 (v := (.int _ _)) (x := (.int _ _)) (Bs := [_, _]) [0, 1] rfl rfl rfl rfl ⟨rfl, rfl, trivial⟩ ?_
    have e := order2_T (s := s) (ltT (by assumption) : ltf cf d[q]! d[p]! = true)
    exact ⟨by rw [e] <;> rfl, by rw [e] <;> rfl⟩
  · skip
    refine TL.done ?_
    refine TQ.then ?_
    refine TC.condF rfl ?_
    refine TC.skip ?_
    refine TQ.then ?_
    refine TC.seq ?_
    refine TC.region ?_
    refine TL.mv (.int _ _) rfl rfl rfl ?_
    refine TL.mv (.int _ _) rfl rfl rfl ?_
    refine TL.asg (.int _ _) rfl rfl rfl ?_
    refine TL.asg (.int _ _) rfl rfl rfl ?_
    refine TL.done ?_
    refine TQ.then ?_
    refine TC.ret ?_
    refine FQ.ret2 (v := (.int _ _)) (x := (.int _ _)) (Bs := [_, _]) [0, 1] rfl rfl rfl rfl ⟨rfl, rfl, trivial⟩ ?_
    have e := order2_F (s := s) (ltF (by assumption) : ltf cf d[q]! d[p]! = false)
    exact ⟨by rw [e] <;> rfl, by rw [e] <;> rfl⟩


end Go.Proofs.Ytaccjjpfmnbaaaa
