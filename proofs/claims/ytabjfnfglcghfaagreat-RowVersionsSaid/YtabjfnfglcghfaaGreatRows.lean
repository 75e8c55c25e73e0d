/-
  No cell of these rows narrows 'for every input' (looked for: loops, veiled, ifaces, maps, wideKeys, modest, calm, conditions, laid).
  DERIVED. THE GIVEN ROWS OF THIS SEAT. 12 by the template 'for every input the law returns true; each argument reads behind the call as it read before'; 0 by the template 'total and deterministic' (their statements: YtabjfnfglcghfaaGreatTotals.lean).
  GIVEN WITH THE SEED: the statements are not yours to turn. If you find one false, say at which input.
  Laid BY PROGRAM, IN A SANDBOX (cutbox-rows.mjs): the forced cells as the released guide's own fill.sh prints them over the translation c96a68876d4425dc… (all of the seat's roots in one cut). By AI agents, Wed Nov 11 2026. No macro, syntax, notation, axiom, sorry.
-/
import Derived.Test.YtabjfnfglcghfaaGreatChecked
import GoSem.Claim
import GoSem.ClaimJoined
import GoSem.ClaimMapViews
import Derived.JoinedTies
import Derived.KernelRfl
namespace Go.Proofs.YtabjfnfglcghfaaGreat
/- THE CELL 'sum', in the pinned program and in every row, IS THE sha256 OF THE DUMP (.gsa) THAT YtabjfnfglcghfaaGreatProg.lean LOADS. Nothing in Lean hashes anything: it is a label: what it is worth is what the hold of that sum in a sandbox is worth. -/
noncomputable def Tryz.pinned : Pinned := { name := "ytabjfnfglcghfaagreat", sum := "c96a68876d4425dcc2e0a5ea9eb74b2d71c77a1c308f5c2cad93dadec3b8b687", checked := Tryz.checked }
namespace Rows
def none {H : Type} : Left H := { results := [], args := [] }

/-- 'tombololaw19.RowRuns': WHATEVER THE INPUT: true; the input reads as it did. -/
def rowRunsSpec : ChangeSpec := { name := "rowRuns", fn := fun _ => fun
  | [d1, d2] => { results := [.lit (.bool true)], args := [d1, d2] }
  | _ => none }
def rowRunsRow : OpenClaim := { program := "ytabjfnfglcghfaagreat", sum := "c96a68876d4425dcc2e0a5ea9eb74b2d71c77a1c308f5c2cad93dadec3b8b687", func := "tombolo/tombololaw19.RowRuns", spec := "rowRuns", unfollowed := true, recurses := true, plainKeys := false, apart := false }
def RowRunsSaid : Prop := rowRunsRow.holds Tryz.pinned (OpenSpec.ofChange rowRunsSpec)

/-- ITS FALSE NEIGHBOUR: 'it returns false'. Refute it at one input. -/
def rowRunsWrong : ChangeSpec := { name := "rowRuns", fn := fun _ => fun
  | [d1, d2] => { results := [.lit (.bool false)], args := [d1, d2] }
  | _ => none }
def RowRunsWrongFalsely : Prop := rowRunsRow.holds Tryz.pinned (OpenSpec.ofChange rowRunsWrong)

/-- 'tombololaw19.RowHides': WHATEVER THE INPUT: true; the input reads as it did. -/
def rowHidesSpec : ChangeSpec := { name := "rowHides", fn := fun _ => fun
  | [d] => { results := [.lit (.bool true)], args := [d] }
  | _ => none }
def rowHidesRow : OpenClaim := { program := "ytabjfnfglcghfaagreat", sum := "c96a68876d4425dcc2e0a5ea9eb74b2d71c77a1c308f5c2cad93dadec3b8b687", func := "tombolo/tombololaw19.RowHides", spec := "rowHides", unfollowed := true, recurses := true, plainKeys := false, apart := false }
def RowHidesSaid : Prop := rowHidesRow.holds Tryz.pinned (OpenSpec.ofChange rowHidesSpec)

/-- ITS FALSE NEIGHBOUR: 'it returns false'. Refute it at one input. -/
def rowHidesWrong : ChangeSpec := { name := "rowHides", fn := fun _ => fun
  | [d] => { results := [.lit (.bool false)], args := [d] }
  | _ => none }
def RowHidesWrongFalsely : Prop := rowHidesRow.holds Tryz.pinned (OpenSpec.ofChange rowHidesWrong)

/-- 'tombololaw19.RowEnds': WHATEVER THE INPUT: true; the input reads as it did. -/
def rowEndsSpec : ChangeSpec := { name := "rowEnds", fn := fun _ => fun
  | [d] => { results := [.lit (.bool true)], args := [d] }
  | _ => none }
def rowEndsRow : OpenClaim := { program := "ytabjfnfglcghfaagreat", sum := "c96a68876d4425dcc2e0a5ea9eb74b2d71c77a1c308f5c2cad93dadec3b8b687", func := "tombolo/tombololaw19.RowEnds", spec := "rowEnds", unfollowed := true, recurses := true, plainKeys := false, apart := false }
def RowEndsSaid : Prop := rowEndsRow.holds Tryz.pinned (OpenSpec.ofChange rowEndsSpec)

/-- ITS FALSE NEIGHBOUR: 'it returns false'. Refute it at one input. -/
def rowEndsWrong : ChangeSpec := { name := "rowEnds", fn := fun _ => fun
  | [d] => { results := [.lit (.bool false)], args := [d] }
  | _ => none }
def RowEndsWrongFalsely : Prop := rowEndsRow.holds Tryz.pinned (OpenSpec.ofChange rowEndsWrong)

/-- 'tombololaw19.RowLocks': WHATEVER THE INPUT: true; the input reads as it did. -/
def rowLocksSpec : ChangeSpec := { name := "rowLocks", fn := fun _ => fun
  | [d] => { results := [.lit (.bool true)], args := [d] }
  | _ => none }
def rowLocksRow : OpenClaim := { program := "ytabjfnfglcghfaagreat", sum := "c96a68876d4425dcc2e0a5ea9eb74b2d71c77a1c308f5c2cad93dadec3b8b687", func := "tombolo/tombololaw19.RowLocks", spec := "rowLocks", unfollowed := true, recurses := true, plainKeys := false, apart := false }
def RowLocksSaid : Prop := rowLocksRow.holds Tryz.pinned (OpenSpec.ofChange rowLocksSpec)

/-- ITS FALSE NEIGHBOUR: 'it returns false'. Refute it at one input. -/
def rowLocksWrong : ChangeSpec := { name := "rowLocks", fn := fun _ => fun
  | [d] => { results := [.lit (.bool false)], args := [d] }
  | _ => none }
def RowLocksWrongFalsely : Prop := rowLocksRow.holds Tryz.pinned (OpenSpec.ofChange rowLocksWrong)

/-- 'tombololaw19.RowVersions': WHATEVER THE INPUT: true; the input reads as it did. -/
def rowVersionsSpec : ChangeSpec := { name := "rowVersions", fn := fun _ => fun
  | [d] => { results := [.lit (.bool true)], args := [d] }
  | _ => none }
def rowVersionsRow : OpenClaim := { program := "ytabjfnfglcghfaagreat", sum := "c96a68876d4425dcc2e0a5ea9eb74b2d71c77a1c308f5c2cad93dadec3b8b687", func := "tombolo/tombololaw19.RowVersions", spec := "rowVersions", unfollowed := true, recurses := true, plainKeys := false, apart := false }
def RowVersionsSaid : Prop := rowVersionsRow.holds Tryz.pinned (OpenSpec.ofChange rowVersionsSpec)

/-- ITS FALSE NEIGHBOUR: 'it returns false'. Refute it at one input. -/
def rowVersionsWrong : ChangeSpec := { name := "rowVersions", fn := fun _ => fun
  | [d] => { results := [.lit (.bool false)], args := [d] }
  | _ => none }
def RowVersionsWrongFalsely : Prop := rowVersionsRow.holds Tryz.pinned (OpenSpec.ofChange rowVersionsWrong)

/-- 'tombololaw19.RowStays': WHATEVER THE INPUT: true; the input reads as it did. -/
def rowStaysSpec : ChangeSpec := { name := "rowStays", fn := fun _ => fun
  | [d] => { results := [.lit (.bool true)], args := [d] }
  | _ => none }
def rowStaysRow : OpenClaim := { program := "ytabjfnfglcghfaagreat", sum := "c96a68876d4425dcc2e0a5ea9eb74b2d71c77a1c308f5c2cad93dadec3b8b687", func := "tombolo/tombololaw19.RowStays", spec := "rowStays", unfollowed := true, recurses := true, plainKeys := false, apart := false }
def RowStaysSaid : Prop := rowStaysRow.holds Tryz.pinned (OpenSpec.ofChange rowStaysSpec)

/-- ITS FALSE NEIGHBOUR: 'it returns false'. Refute it at one input. -/
def rowStaysWrong : ChangeSpec := { name := "rowStays", fn := fun _ => fun
  | [d] => { results := [.lit (.bool false)], args := [d] }
  | _ => none }
def RowStaysWrongFalsely : Prop := rowStaysRow.holds Tryz.pinned (OpenSpec.ofChange rowStaysWrong)

/-- 'tombololaw20.OpSeries': WHATEVER THE INPUT: true; the input reads as it did. -/
def opSeriesSpec : ChangeSpec := { name := "opSeries", fn := fun _ => fun
  | [d] => { results := [.lit (.bool true)], args := [d] }
  | _ => none }
def opSeriesRow : OpenClaim := { program := "ytabjfnfglcghfaagreat", sum := "c96a68876d4425dcc2e0a5ea9eb74b2d71c77a1c308f5c2cad93dadec3b8b687", func := "tombolo/tombololaw20.OpSeries", spec := "opSeries", unfollowed := true, recurses := true, plainKeys := false, apart := false }
def OpSeriesSaid : Prop := opSeriesRow.holds Tryz.pinned (OpenSpec.ofChange opSeriesSpec)

/-- ITS FALSE NEIGHBOUR: 'it returns false'. Refute it at one input. -/
def opSeriesWrong : ChangeSpec := { name := "opSeries", fn := fun _ => fun
  | [d] => { results := [.lit (.bool false)], args := [d] }
  | _ => none }
def OpSeriesWrongFalsely : Prop := opSeriesRow.holds Tryz.pinned (OpenSpec.ofChange opSeriesWrong)

/-- 'tombololaw20.OpMixed': WHATEVER THE INPUT: true; the input reads as it did. -/
def opMixedSpec : ChangeSpec := { name := "opMixed", fn := fun _ => fun
  | [d1, d2] => { results := [.lit (.bool true)], args := [d1, d2] }
  | _ => none }
def opMixedRow : OpenClaim := { program := "ytabjfnfglcghfaagreat", sum := "c96a68876d4425dcc2e0a5ea9eb74b2d71c77a1c308f5c2cad93dadec3b8b687", func := "tombolo/tombololaw20.OpMixed", spec := "opMixed", unfollowed := true, recurses := true, plainKeys := false, apart := false }
def OpMixedSaid : Prop := opMixedRow.holds Tryz.pinned (OpenSpec.ofChange opMixedSpec)

/-- ITS FALSE NEIGHBOUR: 'it returns false'. Refute it at one input. -/
def opMixedWrong : ChangeSpec := { name := "opMixed", fn := fun _ => fun
  | [d1, d2] => { results := [.lit (.bool false)], args := [d1, d2] }
  | _ => none }
def OpMixedWrongFalsely : Prop := opMixedRow.holds Tryz.pinned (OpenSpec.ofChange opMixedWrong)

/-- 'tombololaw20.OpTags': WHATEVER THE INPUT: true; the input reads as it did. -/
def opTagsSpec : ChangeSpec := { name := "opTags", fn := fun _ => fun
  | [d] => { results := [.lit (.bool true)], args := [d] }
  | _ => none }
def opTagsRow : OpenClaim := { program := "ytabjfnfglcghfaagreat", sum := "c96a68876d4425dcc2e0a5ea9eb74b2d71c77a1c308f5c2cad93dadec3b8b687", func := "tombolo/tombololaw20.OpTags", spec := "opTags", unfollowed := true, recurses := true, plainKeys := false, apart := false }
def OpTagsSaid : Prop := opTagsRow.holds Tryz.pinned (OpenSpec.ofChange opTagsSpec)

/-- ITS FALSE NEIGHBOUR: 'it returns false'. Refute it at one input. -/
def opTagsWrong : ChangeSpec := { name := "opTags", fn := fun _ => fun
  | [d] => { results := [.lit (.bool false)], args := [d] }
  | _ => none }
def OpTagsWrongFalsely : Prop := opTagsRow.holds Tryz.pinned (OpenSpec.ofChange opTagsWrong)

/-- 'tombololaw20.OpPoints': WHATEVER THE INPUT: true; the input reads as it did. -/
def opPointsSpec : ChangeSpec := { name := "opPoints", fn := fun _ => fun
  | [d1, d2] => { results := [.lit (.bool true)], args := [d1, d2] }
  | _ => none }
def opPointsRow : OpenClaim := { program := "ytabjfnfglcghfaagreat", sum := "c96a68876d4425dcc2e0a5ea9eb74b2d71c77a1c308f5c2cad93dadec3b8b687", func := "tombolo/tombololaw20.OpPoints", spec := "opPoints", unfollowed := true, recurses := true, plainKeys := false, apart := false }
def OpPointsSaid : Prop := opPointsRow.holds Tryz.pinned (OpenSpec.ofChange opPointsSpec)

/-- ITS FALSE NEIGHBOUR: 'it returns false'. Refute it at one input. -/
def opPointsWrong : ChangeSpec := { name := "opPoints", fn := fun _ => fun
  | [d1, d2] => { results := [.lit (.bool false)], args := [d1, d2] }
  | _ => none }
def OpPointsWrongFalsely : Prop := opPointsRow.holds Tryz.pinned (OpenSpec.ofChange opPointsWrong)

/-- 'tombololaw20.OpFails': WHATEVER THE INPUT: true; the input reads as it did. -/
def opFailsSpec : ChangeSpec := { name := "opFails", fn := fun _ => fun
  | [d1, d2] => { results := [.lit (.bool true)], args := [d1, d2] }
  | _ => none }
def opFailsRow : OpenClaim := { program := "ytabjfnfglcghfaagreat", sum := "c96a68876d4425dcc2e0a5ea9eb74b2d71c77a1c308f5c2cad93dadec3b8b687", func := "tombolo/tombololaw20.OpFails", spec := "opFails", unfollowed := true, recurses := true, plainKeys := false, apart := false }
def OpFailsSaid : Prop := opFailsRow.holds Tryz.pinned (OpenSpec.ofChange opFailsSpec)

/-- ITS FALSE NEIGHBOUR: 'it returns false'. Refute it at one input. -/
def opFailsWrong : ChangeSpec := { name := "opFails", fn := fun _ => fun
  | [d1, d2] => { results := [.lit (.bool false)], args := [d1, d2] }
  | _ => none }
def OpFailsWrongFalsely : Prop := opFailsRow.holds Tryz.pinned (OpenSpec.ofChange opFailsWrong)

/-- 'tombololaw20.OpApart': WHATEVER THE INPUT: true; the input reads as it did. -/
def opApartSpec : ChangeSpec := { name := "opApart", fn := fun _ => fun
  | [d1, d2] => { results := [.lit (.bool true)], args := [d1, d2] }
  | _ => none }
def opApartRow : OpenClaim := { program := "ytabjfnfglcghfaagreat", sum := "c96a68876d4425dcc2e0a5ea9eb74b2d71c77a1c308f5c2cad93dadec3b8b687", func := "tombolo/tombololaw20.OpApart", spec := "opApart", unfollowed := true, recurses := true, plainKeys := false, apart := false }
def OpApartSaid : Prop := opApartRow.holds Tryz.pinned (OpenSpec.ofChange opApartSpec)

/-- ITS FALSE NEIGHBOUR: 'it returns false'. Refute it at one input. -/
def opApartWrong : ChangeSpec := { name := "opApart", fn := fun _ => fun
  | [d1, d2] => { results := [.lit (.bool false)], args := [d1, d2] }
  | _ => none }
def OpApartWrongFalsely : Prop := opApartRow.holds Tryz.pinned (OpenSpec.ofChange opApartWrong)

/- THE SECOND FORM. 'bulk': how many values and letters a reading holds, each counted each time it is reached (what is shared counts as often as it is met; a slice's spare places count too). A statement '..UptoSaid' is the law's where the arguments, and the package variables that the reading takes, are together of bulk at most 1048576: NARROWER than '..Said'. Prove '..Said' where nothing that the law and all that it calls make is longer than what came in: it says more and counts as full. Else prove '..UptoSaid'. A law counts once. -/
mutual
def uptoBulk {H : Type} : DataW H → Nat
  | .lit (.string bytes) => bytes.length + 1
  | .lit _ => 1
  | .nil => 1
  | .ptr d => uptoBulk d + 1
  | .slice elems spare => uptoBulkAll elems + uptoBulkAll spare + 1
  | .agg parts => uptoBulkAll parts + 1
  | .iface _ d => uptoBulk d + 1
  | .map entries => uptoBulkEntries entries + 1
  | .held _ => 1
def uptoBulkAll {H : Type} : List (DataW H) → Nat
  | [] => 0
  | d :: r => uptoBulk d + uptoBulkAll r
def uptoBulkEntries {H : Type} : List (Lit × DataW H) → Nat
  | [] => 0
  | x :: r => uptoBulkEntry x + uptoBulkEntries r
def uptoBulkEntry {H : Type} : Lit × DataW H → Nat
  | (.string bytes, d) => bytes.length + uptoBulk d + 1
  | (_, d) => uptoBulk d + 1
 end
def uptoSmall : (H : Type) → List (DataW H) → Bool := fun _ ds => decide (uptoBulkAll ds ≤ 1048576)
def OpenSpec.upto (s : _root_.Go.ChangeSpec) : _root_.Go.OpenSpec := { _root_.Go.OpenSpec.ofChange s with cond := some uptoSmall }

/-- 'tombololaw19.RowRuns', WHERE WHAT IT READS IS OF BULK AT MOST 1048576: true; the input reads as it did. -/
def rowRunsUptoRow : OpenClaim := { program := "ytabjfnfglcghfaagreat", sum := "c96a68876d4425dcc2e0a5ea9eb74b2d71c77a1c308f5c2cad93dadec3b8b687", func := "tombolo/tombololaw19.RowRuns", spec := "rowRuns", unfollowed := true, recurses := true, plainKeys := false, apart := false, narrowed := true }
def RowRunsUptoSaid : Prop := rowRunsUptoRow.holds Tryz.pinned (OpenSpec.upto rowRunsSpec)

/-- 'tombololaw19.RowHides', WHERE WHAT IT READS IS OF BULK AT MOST 1048576: true; the input reads as it did. -/
def rowHidesUptoRow : OpenClaim := { program := "ytabjfnfglcghfaagreat", sum := "c96a68876d4425dcc2e0a5ea9eb74b2d71c77a1c308f5c2cad93dadec3b8b687", func := "tombolo/tombololaw19.RowHides", spec := "rowHides", unfollowed := true, recurses := true, plainKeys := false, apart := false, narrowed := true }
def RowHidesUptoSaid : Prop := rowHidesUptoRow.holds Tryz.pinned (OpenSpec.upto rowHidesSpec)

/-- 'tombololaw19.RowEnds', WHERE WHAT IT READS IS OF BULK AT MOST 1048576: true; the input reads as it did. -/
def rowEndsUptoRow : OpenClaim := { program := "ytabjfnfglcghfaagreat", sum := "c96a68876d4425dcc2e0a5ea9eb74b2d71c77a1c308f5c2cad93dadec3b8b687", func := "tombolo/tombololaw19.RowEnds", spec := "rowEnds", unfollowed := true, recurses := true, plainKeys := false, apart := false, narrowed := true }
def RowEndsUptoSaid : Prop := rowEndsUptoRow.holds Tryz.pinned (OpenSpec.upto rowEndsSpec)

/-- 'tombololaw19.RowLocks', WHERE WHAT IT READS IS OF BULK AT MOST 1048576: true; the input reads as it did. -/
def rowLocksUptoRow : OpenClaim := { program := "ytabjfnfglcghfaagreat", sum := "c96a68876d4425dcc2e0a5ea9eb74b2d71c77a1c308f5c2cad93dadec3b8b687", func := "tombolo/tombololaw19.RowLocks", spec := "rowLocks", unfollowed := true, recurses := true, plainKeys := false, apart := false, narrowed := true }
def RowLocksUptoSaid : Prop := rowLocksUptoRow.holds Tryz.pinned (OpenSpec.upto rowLocksSpec)

/-- 'tombololaw19.RowVersions', WHERE WHAT IT READS IS OF BULK AT MOST 1048576: true; the input reads as it did. -/
def rowVersionsUptoRow : OpenClaim := { program := "ytabjfnfglcghfaagreat", sum := "c96a68876d4425dcc2e0a5ea9eb74b2d71c77a1c308f5c2cad93dadec3b8b687", func := "tombolo/tombololaw19.RowVersions", spec := "rowVersions", unfollowed := true, recurses := true, plainKeys := false, apart := false, narrowed := true }
def RowVersionsUptoSaid : Prop := rowVersionsUptoRow.holds Tryz.pinned (OpenSpec.upto rowVersionsSpec)

/-- 'tombololaw19.RowStays', WHERE WHAT IT READS IS OF BULK AT MOST 1048576: true; the input reads as it did. -/
def rowStaysUptoRow : OpenClaim := { program := "ytabjfnfglcghfaagreat", sum := "c96a68876d4425dcc2e0a5ea9eb74b2d71c77a1c308f5c2cad93dadec3b8b687", func := "tombolo/tombololaw19.RowStays", spec := "rowStays", unfollowed := true, recurses := true, plainKeys := false, apart := false, narrowed := true }
def RowStaysUptoSaid : Prop := rowStaysUptoRow.holds Tryz.pinned (OpenSpec.upto rowStaysSpec)

/-- 'tombololaw20.OpSeries', WHERE WHAT IT READS IS OF BULK AT MOST 1048576: true; the input reads as it did. -/
def opSeriesUptoRow : OpenClaim := { program := "ytabjfnfglcghfaagreat", sum := "c96a68876d4425dcc2e0a5ea9eb74b2d71c77a1c308f5c2cad93dadec3b8b687", func := "tombolo/tombololaw20.OpSeries", spec := "opSeries", unfollowed := true, recurses := true, plainKeys := false, apart := false, narrowed := true }
def OpSeriesUptoSaid : Prop := opSeriesUptoRow.holds Tryz.pinned (OpenSpec.upto opSeriesSpec)

/-- 'tombololaw20.OpMixed', WHERE WHAT IT READS IS OF BULK AT MOST 1048576: true; the input reads as it did. -/
def opMixedUptoRow : OpenClaim := { program := "ytabjfnfglcghfaagreat", sum := "c96a68876d4425dcc2e0a5ea9eb74b2d71c77a1c308f5c2cad93dadec3b8b687", func := "tombolo/tombololaw20.OpMixed", spec := "opMixed", unfollowed := true, recurses := true, plainKeys := false, apart := false, narrowed := true }
def OpMixedUptoSaid : Prop := opMixedUptoRow.holds Tryz.pinned (OpenSpec.upto opMixedSpec)

/-- 'tombololaw20.OpTags', WHERE WHAT IT READS IS OF BULK AT MOST 1048576: true; the input reads as it did. -/
def opTagsUptoRow : OpenClaim := { program := "ytabjfnfglcghfaagreat", sum := "c96a68876d4425dcc2e0a5ea9eb74b2d71c77a1c308f5c2cad93dadec3b8b687", func := "tombolo/tombololaw20.OpTags", spec := "opTags", unfollowed := true, recurses := true, plainKeys := false, apart := false, narrowed := true }
def OpTagsUptoSaid : Prop := opTagsUptoRow.holds Tryz.pinned (OpenSpec.upto opTagsSpec)

/-- 'tombololaw20.OpPoints', WHERE WHAT IT READS IS OF BULK AT MOST 1048576: true; the input reads as it did. -/
def opPointsUptoRow : OpenClaim := { program := "ytabjfnfglcghfaagreat", sum := "c96a68876d4425dcc2e0a5ea9eb74b2d71c77a1c308f5c2cad93dadec3b8b687", func := "tombolo/tombololaw20.OpPoints", spec := "opPoints", unfollowed := true, recurses := true, plainKeys := false, apart := false, narrowed := true }
def OpPointsUptoSaid : Prop := opPointsUptoRow.holds Tryz.pinned (OpenSpec.upto opPointsSpec)

/-- 'tombololaw20.OpFails', WHERE WHAT IT READS IS OF BULK AT MOST 1048576: true; the input reads as it did. -/
def opFailsUptoRow : OpenClaim := { program := "ytabjfnfglcghfaagreat", sum := "c96a68876d4425dcc2e0a5ea9eb74b2d71c77a1c308f5c2cad93dadec3b8b687", func := "tombolo/tombololaw20.OpFails", spec := "opFails", unfollowed := true, recurses := true, plainKeys := false, apart := false, narrowed := true }
def OpFailsUptoSaid : Prop := opFailsUptoRow.holds Tryz.pinned (OpenSpec.upto opFailsSpec)

/-- 'tombololaw20.OpApart', WHERE WHAT IT READS IS OF BULK AT MOST 1048576: true; the input reads as it did. -/
def opApartUptoRow : OpenClaim := { program := "ytabjfnfglcghfaagreat", sum := "c96a68876d4425dcc2e0a5ea9eb74b2d71c77a1c308f5c2cad93dadec3b8b687", func := "tombolo/tombololaw20.OpApart", spec := "opApart", unfollowed := true, recurses := true, plainKeys := false, apart := false, narrowed := true }
def OpApartUptoSaid : Prop := opApartUptoRow.holds Tryz.pinned (OpenSpec.upto opApartSpec)

end Rows
end Go.Proofs.YtabjfnfglcghfaaGreat
