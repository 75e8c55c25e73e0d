/-
  No cell of these rows narrows 'for every input' (looked for: loops, veiled, ifaces, maps, wideKeys, modest, calm, conditions, laid).
  DERIVED. THE GIVEN ROWS OF THIS SEAT. 11 by the template 'for every input the law returns true; each argument reads behind the call as it read before'; 0 by the template 'total and deterministic' (their statements: YtjnpjkfliochbaaGreatTotals.lean).
  GIVEN WITH THE SEED: the statements are not yours to turn. If you find one false, say at which input.
  Laid BY PROGRAM, IN A SANDBOX (cutbox-rows.mjs): the forced cells as the released guide's own fill.sh prints them over the translation 0c6ce685f8086cdf… (all of the seat's roots in one cut). By AI agents, Wed Nov 11 2026. No macro, syntax, notation, axiom, sorry.
-/
import Derived.Test.YtjnpjkfliochbaaGreatChecked
import GoSem.Claim
import GoSem.ClaimJoined
import GoSem.ClaimMapViews
import Derived.JoinedTies
import Derived.KernelRfl
namespace Go.Proofs.YtjnpjkfliochbaaGreat
/- THE CELL 'sum', in the pinned program and in every row, IS THE sha256 OF THE DUMP (.gsa) THAT YtjnpjkfliochbaaGreatProg.lean LOADS. Nothing in Lean hashes anything: it is a label: what it is worth is what the hold of that sum in a sandbox is worth. -/
noncomputable def Tryz.pinned : Pinned := { name := "ytjnpjkfliochbaagreat", sum := "0c6ce685f8086cdf7b1e89948fd46c42e03f43eea08633bc697bd7ae74908a38", checked := Tryz.checked }
namespace Rows
def none {H : Type} : Left H := { results := [], args := [] }

/-- 'tombololaw18.LockGoes': WHATEVER THE INPUT: true; the input reads as it did. -/
def lockGoesSpec : ChangeSpec := { name := "lockGoes", fn := fun _ => fun
  | [d] => { results := [.lit (.bool true)], args := [d] }
  | _ => none }
def lockGoesRow : OpenClaim := { program := "ytjnpjkfliochbaagreat", sum := "0c6ce685f8086cdf7b1e89948fd46c42e03f43eea08633bc697bd7ae74908a38", func := "tombolo/tombololaw18.LockGoes", spec := "lockGoes", unfollowed := true, recurses := true, apart := false }
def LockGoesSaid : Prop := lockGoesRow.holds Tryz.pinned (OpenSpec.ofChange lockGoesSpec)

/-- ITS FALSE NEIGHBOUR: 'it returns false'. Refute it at one input. -/
def lockGoesWrong : ChangeSpec := { name := "lockGoes", fn := fun _ => fun
  | [d] => { results := [.lit (.bool false)], args := [d] }
  | _ => none }
def LockGoesWrongFalsely : Prop := lockGoesRow.holds Tryz.pinned (OpenSpec.ofChange lockGoesWrong)

/-- 'tombololaw18.LockApart': WHATEVER THE INPUT: true; the input reads as it did. -/
def lockApartSpec : ChangeSpec := { name := "lockApart", fn := fun _ => fun
  | [d1, d2] => { results := [.lit (.bool true)], args := [d1, d2] }
  | _ => none }
def lockApartRow : OpenClaim := { program := "ytjnpjkfliochbaagreat", sum := "0c6ce685f8086cdf7b1e89948fd46c42e03f43eea08633bc697bd7ae74908a38", func := "tombolo/tombololaw18.LockApart", spec := "lockApart", unfollowed := true, recurses := true, apart := false }
def LockApartSaid : Prop := lockApartRow.holds Tryz.pinned (OpenSpec.ofChange lockApartSpec)

/-- ITS FALSE NEIGHBOUR: 'it returns false'. Refute it at one input. -/
def lockApartWrong : ChangeSpec := { name := "lockApart", fn := fun _ => fun
  | [d1, d2] => { results := [.lit (.bool false)], args := [d1, d2] }
  | _ => none }
def LockApartWrongFalsely : Prop := lockApartRow.holds Tryz.pinned (OpenSpec.ofChange lockApartWrong)

/-- 'tombololaw18.LockOwn': WHATEVER THE INPUT: true; the input reads as it did. -/
def lockOwnSpec : ChangeSpec := { name := "lockOwn", fn := fun _ => fun
  | [d1, d2] => { results := [.lit (.bool true)], args := [d1, d2] }
  | _ => none }
def lockOwnRow : OpenClaim := { program := "ytjnpjkfliochbaagreat", sum := "0c6ce685f8086cdf7b1e89948fd46c42e03f43eea08633bc697bd7ae74908a38", func := "tombolo/tombololaw18.LockOwn", spec := "lockOwn", unfollowed := true, recurses := true, apart := false }
def LockOwnSaid : Prop := lockOwnRow.holds Tryz.pinned (OpenSpec.ofChange lockOwnSpec)

/-- ITS FALSE NEIGHBOUR: 'it returns false'. Refute it at one input. -/
def lockOwnWrong : ChangeSpec := { name := "lockOwn", fn := fun _ => fun
  | [d1, d2] => { results := [.lit (.bool false)], args := [d1, d2] }
  | _ => none }
def LockOwnWrongFalsely : Prop := lockOwnRow.holds Tryz.pinned (OpenSpec.ofChange lockOwnWrong)

/-- 'tombololaw16.ClimbSame': WHATEVER THE INPUT: true; the input reads as it did. -/
def climbSameSpec : ChangeSpec := { name := "climbSame", fn := fun _ => fun
  | [d] => { results := [.lit (.bool true)], args := [d] }
  | _ => none }
def climbSameRow : OpenClaim := { program := "ytjnpjkfliochbaagreat", sum := "0c6ce685f8086cdf7b1e89948fd46c42e03f43eea08633bc697bd7ae74908a38", func := "tombolo/tombololaw16.ClimbSame", spec := "climbSame", unfollowed := true, recurses := true, apart := false }
def ClimbSameSaid : Prop := climbSameRow.holds Tryz.pinned (OpenSpec.ofChange climbSameSpec)

/-- ITS FALSE NEIGHBOUR: 'it returns false'. Refute it at one input. -/
def climbSameWrong : ChangeSpec := { name := "climbSame", fn := fun _ => fun
  | [d] => { results := [.lit (.bool false)], args := [d] }
  | _ => none }
def ClimbSameWrongFalsely : Prop := climbSameRow.holds Tryz.pinned (OpenSpec.ofChange climbSameWrong)

/-- 'tombololaw18.LockAlone': WHATEVER THE INPUT: true; the input reads as it did. -/
def lockAloneSpec : ChangeSpec := { name := "lockAlone", fn := fun _ => fun
  | [d] => { results := [.lit (.bool true)], args := [d] }
  | _ => none }
def lockAloneRow : OpenClaim := { program := "ytjnpjkfliochbaagreat", sum := "0c6ce685f8086cdf7b1e89948fd46c42e03f43eea08633bc697bd7ae74908a38", func := "tombolo/tombololaw18.LockAlone", spec := "lockAlone", unfollowed := true, recurses := true, apart := false }
def LockAloneSaid : Prop := lockAloneRow.holds Tryz.pinned (OpenSpec.ofChange lockAloneSpec)

/-- ITS FALSE NEIGHBOUR: 'it returns false'. Refute it at one input. -/
def lockAloneWrong : ChangeSpec := { name := "lockAlone", fn := fun _ => fun
  | [d] => { results := [.lit (.bool false)], args := [d] }
  | _ => none }
def LockAloneWrongFalsely : Prop := lockAloneRow.holds Tryz.pinned (OpenSpec.ofChange lockAloneWrong)

/-- 'tombololaw16.ClimbMoves': WHATEVER THE INPUT: true; the input reads as it did. -/
def climbMovesSpec : ChangeSpec := { name := "climbMoves", fn := fun _ => fun
  | [d1, d2, d3] => { results := [.lit (.bool true)], args := [d1, d2, d3] }
  | _ => none }
def climbMovesRow : OpenClaim := { program := "ytjnpjkfliochbaagreat", sum := "0c6ce685f8086cdf7b1e89948fd46c42e03f43eea08633bc697bd7ae74908a38", func := "tombolo/tombololaw16.ClimbMoves", spec := "climbMoves", unfollowed := true, recurses := true, apart := false }
def ClimbMovesSaid : Prop := climbMovesRow.holds Tryz.pinned (OpenSpec.ofChange climbMovesSpec)

/-- ITS FALSE NEIGHBOUR: 'it returns false'. Refute it at one input. -/
def climbMovesWrong : ChangeSpec := { name := "climbMoves", fn := fun _ => fun
  | [d1, d2, d3] => { results := [.lit (.bool false)], args := [d1, d2, d3] }
  | _ => none }
def ClimbMovesWrongFalsely : Prop := climbMovesRow.holds Tryz.pinned (OpenSpec.ofChange climbMovesWrong)

/-- 'tombololaw16.ClimbTells': WHATEVER THE INPUT: true; the input reads as it did. -/
def climbTellsSpec : ChangeSpec := { name := "climbTells", fn := fun _ => fun
  | [d1, d2] => { results := [.lit (.bool true)], args := [d1, d2] }
  | _ => none }
def climbTellsRow : OpenClaim := { program := "ytjnpjkfliochbaagreat", sum := "0c6ce685f8086cdf7b1e89948fd46c42e03f43eea08633bc697bd7ae74908a38", func := "tombolo/tombololaw16.ClimbTells", spec := "climbTells", unfollowed := true, recurses := true, apart := false }
def ClimbTellsSaid : Prop := climbTellsRow.holds Tryz.pinned (OpenSpec.ofChange climbTellsSpec)

/-- ITS FALSE NEIGHBOUR: 'it returns false'. Refute it at one input. -/
def climbTellsWrong : ChangeSpec := { name := "climbTells", fn := fun _ => fun
  | [d1, d2] => { results := [.lit (.bool false)], args := [d1, d2] }
  | _ => none }
def ClimbTellsWrongFalsely : Prop := climbTellsRow.holds Tryz.pinned (OpenSpec.ofChange climbTellsWrong)

/-- 'tombololaw16.ClimbOnly': WHATEVER THE INPUT: true; the input reads as it did. -/
def climbOnlySpec : ChangeSpec := { name := "climbOnly", fn := fun _ => fun
  | [d1, d2, d3] => { results := [.lit (.bool true)], args := [d1, d2, d3] }
  | _ => none }
def climbOnlyRow : OpenClaim := { program := "ytjnpjkfliochbaagreat", sum := "0c6ce685f8086cdf7b1e89948fd46c42e03f43eea08633bc697bd7ae74908a38", func := "tombolo/tombololaw16.ClimbOnly", spec := "climbOnly", unfollowed := true, recurses := true, apart := false }
def ClimbOnlySaid : Prop := climbOnlyRow.holds Tryz.pinned (OpenSpec.ofChange climbOnlySpec)

/-- ITS FALSE NEIGHBOUR: 'it returns false'. Refute it at one input. -/
def climbOnlyWrong : ChangeSpec := { name := "climbOnly", fn := fun _ => fun
  | [d1, d2, d3] => { results := [.lit (.bool false)], args := [d1, d2, d3] }
  | _ => none }
def ClimbOnlyWrongFalsely : Prop := climbOnlyRow.holds Tryz.pinned (OpenSpec.ofChange climbOnlyWrong)

/-- 'tombololaw17.CollectTurns': WHATEVER THE INPUT: true; the input reads as it did. -/
def collectTurnsSpec : ChangeSpec := { name := "collectTurns", fn := fun _ => fun
  | [d1, d2] => { results := [.lit (.bool true)], args := [d1, d2] }
  | _ => none }
def collectTurnsRow : OpenClaim := { program := "ytjnpjkfliochbaagreat", sum := "0c6ce685f8086cdf7b1e89948fd46c42e03f43eea08633bc697bd7ae74908a38", func := "tombolo/tombololaw17.CollectTurns", spec := "collectTurns", unfollowed := true, recurses := true, apart := false }
def CollectTurnsSaid : Prop := collectTurnsRow.holds Tryz.pinned (OpenSpec.ofChange collectTurnsSpec)

/-- ITS FALSE NEIGHBOUR: 'it returns false'. Refute it at one input. -/
def collectTurnsWrong : ChangeSpec := { name := "collectTurns", fn := fun _ => fun
  | [d1, d2] => { results := [.lit (.bool false)], args := [d1, d2] }
  | _ => none }
def CollectTurnsWrongFalsely : Prop := collectTurnsRow.holds Tryz.pinned (OpenSpec.ofChange collectTurnsWrong)

/-- 'tombololaw17.CollectPoint': WHATEVER THE INPUT: true; the input reads as it did. -/
def collectPointSpec : ChangeSpec := { name := "collectPoint", fn := fun _ => fun
  | [d1, d2, d3] => { results := [.lit (.bool true)], args := [d1, d2, d3] }
  | _ => none }
def collectPointRow : OpenClaim := { program := "ytjnpjkfliochbaagreat", sum := "0c6ce685f8086cdf7b1e89948fd46c42e03f43eea08633bc697bd7ae74908a38", func := "tombolo/tombololaw17.CollectPoint", spec := "collectPoint", unfollowed := true, recurses := true, apart := false }
def CollectPointSaid : Prop := collectPointRow.holds Tryz.pinned (OpenSpec.ofChange collectPointSpec)

/-- ITS FALSE NEIGHBOUR: 'it returns false'. Refute it at one input. -/
def collectPointWrong : ChangeSpec := { name := "collectPoint", fn := fun _ => fun
  | [d1, d2, d3] => { results := [.lit (.bool false)], args := [d1, d2, d3] }
  | _ => none }
def CollectPointWrongFalsely : Prop := collectPointRow.holds Tryz.pinned (OpenSpec.ofChange collectPointWrong)

/-- 'tombololaw17.CollectStill': WHATEVER THE INPUT: true; the input reads as it did. -/
def collectStillSpec : ChangeSpec := { name := "collectStill", fn := fun _ => fun
  | [d1, d2, d3] => { results := [.lit (.bool true)], args := [d1, d2, d3] }
  | _ => none }
def collectStillRow : OpenClaim := { program := "ytjnpjkfliochbaagreat", sum := "0c6ce685f8086cdf7b1e89948fd46c42e03f43eea08633bc697bd7ae74908a38", func := "tombolo/tombololaw17.CollectStill", spec := "collectStill", unfollowed := true, recurses := true, apart := false }
def CollectStillSaid : Prop := collectStillRow.holds Tryz.pinned (OpenSpec.ofChange collectStillSpec)

/-- ITS FALSE NEIGHBOUR: 'it returns false'. Refute it at one input. -/
def collectStillWrong : ChangeSpec := { name := "collectStill", fn := fun _ => fun
  | [d1, d2, d3] => { results := [.lit (.bool false)], args := [d1, d2, d3] }
  | _ => none }
def CollectStillWrongFalsely : Prop := collectStillRow.holds Tryz.pinned (OpenSpec.ofChange collectStillWrong)

/- THE SECOND FORM. 'bulk': how many values and letters a reading holds, each counted each time it is reached (what is shared counts as often as it is met; a slice's spare places count too). A statement '..UptoSaid' is the law's where the arguments, and the package variables that the reading takes, are together of bulk at most 1048576: NARROWER than '..Said'. Prove '..Said' where nothing that the law and all that it calls make is longer than what came in: it says more and counts as full. Else prove '..UptoSaid'. A law counts once. -/
mutual
def uptoBulk {H : Type} : DataW H → Nat
  | .lit (.string bytes) => bytes.length + 1
  | .lit _ => 1
  | .nil => 1
  | .ptr d => uptoBulk d + 1
  | .slice elems spare => uptoBulkAll elems + uptoBulkAll spare + 1
  | .agg parts => uptoBulkAll parts + 1
  | .iface _ d => uptoBulk d + 1
  | .map entries => uptoBulkEntries entries + 1
  | .held _ => 1
def uptoBulkAll {H : Type} : List (DataW H) → Nat
  | [] => 0
  | d :: r => uptoBulk d + uptoBulkAll r
def uptoBulkEntries {H : Type} : List (Lit × DataW H) → Nat
  | [] => 0
  | x :: r => uptoBulkEntry x + uptoBulkEntries r
def uptoBulkEntry {H : Type} : Lit × DataW H → Nat
  | (.string bytes, d) => bytes.length + uptoBulk d + 1
  | (_, d) => uptoBulk d + 1
 end
def uptoSmall : (H : Type) → List (DataW H) → Bool := fun _ ds => decide (uptoBulkAll ds ≤ 1048576)
def OpenSpec.upto (s : _root_.Go.ChangeSpec) : _root_.Go.OpenSpec := { _root_.Go.OpenSpec.ofChange s with cond := some uptoSmall }

/-- 'tombololaw18.LockGoes', WHERE WHAT IT READS IS OF BULK AT MOST 1048576: true; the input reads as it did. -/
def lockGoesUptoRow : OpenClaim := { program := "ytjnpjkfliochbaagreat", sum := "0c6ce685f8086cdf7b1e89948fd46c42e03f43eea08633bc697bd7ae74908a38", func := "tombolo/tombololaw18.LockGoes", spec := "lockGoes", unfollowed := true, recurses := true, apart := false, narrowed := true }
def LockGoesUptoSaid : Prop := lockGoesUptoRow.holds Tryz.pinned (OpenSpec.upto lockGoesSpec)

/-- 'tombololaw18.LockApart', WHERE WHAT IT READS IS OF BULK AT MOST 1048576: true; the input reads as it did. -/
def lockApartUptoRow : OpenClaim := { program := "ytjnpjkfliochbaagreat", sum := "0c6ce685f8086cdf7b1e89948fd46c42e03f43eea08633bc697bd7ae74908a38", func := "tombolo/tombololaw18.LockApart", spec := "lockApart", unfollowed := true, recurses := true, apart := false, narrowed := true }
def LockApartUptoSaid : Prop := lockApartUptoRow.holds Tryz.pinned (OpenSpec.upto lockApartSpec)

/-- 'tombololaw18.LockOwn', WHERE WHAT IT READS IS OF BULK AT MOST 1048576: true; the input reads as it did. -/
def lockOwnUptoRow : OpenClaim := { program := "ytjnpjkfliochbaagreat", sum := "0c6ce685f8086cdf7b1e89948fd46c42e03f43eea08633bc697bd7ae74908a38", func := "tombolo/tombololaw18.LockOwn", spec := "lockOwn", unfollowed := true, recurses := true, apart := false, narrowed := true }
def LockOwnUptoSaid : Prop := lockOwnUptoRow.holds Tryz.pinned (OpenSpec.upto lockOwnSpec)

/-- 'tombololaw16.ClimbSame', WHERE WHAT IT READS IS OF BULK AT MOST 1048576: true; the input reads as it did. -/
def climbSameUptoRow : OpenClaim := { program := "ytjnpjkfliochbaagreat", sum := "0c6ce685f8086cdf7b1e89948fd46c42e03f43eea08633bc697bd7ae74908a38", func := "tombolo/tombololaw16.ClimbSame", spec := "climbSame", unfollowed := true, recurses := true, apart := false, narrowed := true }
def ClimbSameUptoSaid : Prop := climbSameUptoRow.holds Tryz.pinned (OpenSpec.upto climbSameSpec)

/-- 'tombololaw18.LockAlone', WHERE WHAT IT READS IS OF BULK AT MOST 1048576: true; the input reads as it did. -/
def lockAloneUptoRow : OpenClaim := { program := "ytjnpjkfliochbaagreat", sum := "0c6ce685f8086cdf7b1e89948fd46c42e03f43eea08633bc697bd7ae74908a38", func := "tombolo/tombololaw18.LockAlone", spec := "lockAlone", unfollowed := true, recurses := true, apart := false, narrowed := true }
def LockAloneUptoSaid : Prop := lockAloneUptoRow.holds Tryz.pinned (OpenSpec.upto lockAloneSpec)

/-- 'tombololaw16.ClimbMoves', WHERE WHAT IT READS IS OF BULK AT MOST 1048576: true; the input reads as it did. -/
def climbMovesUptoRow : OpenClaim := { program := "ytjnpjkfliochbaagreat", sum := "0c6ce685f8086cdf7b1e89948fd46c42e03f43eea08633bc697bd7ae74908a38", func := "tombolo/tombololaw16.ClimbMoves", spec := "climbMoves", unfollowed := true, recurses := true, apart := false, narrowed := true }
def ClimbMovesUptoSaid : Prop := climbMovesUptoRow.holds Tryz.pinned (OpenSpec.upto climbMovesSpec)

/-- 'tombololaw16.ClimbTells', WHERE WHAT IT READS IS OF BULK AT MOST 1048576: true; the input reads as it did. -/
def climbTellsUptoRow : OpenClaim := { program := "ytjnpjkfliochbaagreat", sum := "0c6ce685f8086cdf7b1e89948fd46c42e03f43eea08633bc697bd7ae74908a38", func := "tombolo/tombololaw16.ClimbTells", spec := "climbTells", unfollowed := true, recurses := true, apart := false, narrowed := true }
def ClimbTellsUptoSaid : Prop := climbTellsUptoRow.holds Tryz.pinned (OpenSpec.upto climbTellsSpec)

/-- 'tombololaw16.ClimbOnly', WHERE WHAT IT READS IS OF BULK AT MOST 1048576: true; the input reads as it did. -/
def climbOnlyUptoRow : OpenClaim := { program := "ytjnpjkfliochbaagreat", sum := "0c6ce685f8086cdf7b1e89948fd46c42e03f43eea08633bc697bd7ae74908a38", func := "tombolo/tombololaw16.ClimbOnly", spec := "climbOnly", unfollowed := true, recurses := true, apart := false, narrowed := true }
def ClimbOnlyUptoSaid : Prop := climbOnlyUptoRow.holds Tryz.pinned (OpenSpec.upto climbOnlySpec)

/-- 'tombololaw17.CollectTurns', WHERE WHAT IT READS IS OF BULK AT MOST 1048576: true; the input reads as it did. -/
def collectTurnsUptoRow : OpenClaim := { program := "ytjnpjkfliochbaagreat", sum := "0c6ce685f8086cdf7b1e89948fd46c42e03f43eea08633bc697bd7ae74908a38", func := "tombolo/tombololaw17.CollectTurns", spec := "collectTurns", unfollowed := true, recurses := true, apart := false, narrowed := true }
def CollectTurnsUptoSaid : Prop := collectTurnsUptoRow.holds Tryz.pinned (OpenSpec.upto collectTurnsSpec)

/-- 'tombololaw17.CollectPoint', WHERE WHAT IT READS IS OF BULK AT MOST 1048576: true; the input reads as it did. -/
def collectPointUptoRow : OpenClaim := { program := "ytjnpjkfliochbaagreat", sum := "0c6ce685f8086cdf7b1e89948fd46c42e03f43eea08633bc697bd7ae74908a38", func := "tombolo/tombololaw17.CollectPoint", spec := "collectPoint", unfollowed := true, recurses := true, apart := false, narrowed := true }
def CollectPointUptoSaid : Prop := collectPointUptoRow.holds Tryz.pinned (OpenSpec.upto collectPointSpec)

/-- 'tombololaw17.CollectStill', WHERE WHAT IT READS IS OF BULK AT MOST 1048576: true; the input reads as it did. -/
def collectStillUptoRow : OpenClaim := { program := "ytjnpjkfliochbaagreat", sum := "0c6ce685f8086cdf7b1e89948fd46c42e03f43eea08633bc697bd7ae74908a38", func := "tombolo/tombololaw17.CollectStill", spec := "collectStill", unfollowed := true, recurses := true, apart := false, narrowed := true }
def CollectStillUptoSaid : Prop := collectStillUptoRow.holds Tryz.pinned (OpenSpec.upto collectStillSpec)

end Rows
end Go.Proofs.YtjnpjkfliochbaaGreat
