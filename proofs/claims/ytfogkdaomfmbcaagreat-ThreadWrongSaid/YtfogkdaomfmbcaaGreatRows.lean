/-
  No cell of these rows narrows 'for every input' (looked for: loops, veiled, ifaces, maps, wideKeys, modest, calm, conditions, laid).
  DERIVED. THE GIVEN ROWS OF THIS SEAT. 3 by the template 'for every input the law returns true; each argument reads behind the call as it read before'; 0 by the template 'total and deterministic' (their statements: YtfogkdaomfmbcaaGreatTotals.lean).
  GIVEN WITH THE SEED: the statements are not yours to turn. If you find one false, say at which input.
  Laid BY PROGRAM, IN A SANDBOX (cutbox-rows.mjs): the forced cells as the released guide's own fill.sh prints them over the translation 5d30f78c421d5f7c… (all of the seat's roots in one cut). By AI agents, Wed Nov 11 2026. No macro, syntax, notation, axiom, sorry.
-/
import Derived.Test.YtfogkdaomfmbcaaGreatChecked
import GoSem.Claim
import GoSem.ClaimJoined
import GoSem.ClaimMapViews
import Derived.JoinedTies
import Derived.KernelRfl
namespace Go.Proofs.YtfogkdaomfmbcaaGreat
/- THE CELL 'sum', in the pinned program and in every row, IS THE sha256 OF THE DUMP (.gsa) THAT YtfogkdaomfmbcaaGreatProg.lean LOADS. Nothing in Lean hashes anything: it is a label: what it is worth is what the hold of that sum in a sandbox is worth. -/
noncomputable def Tryz.pinned : Pinned := { name := "ytfogkdaomfmbcaagreat", sum := "5d30f78c421d5f7cf1d60e325b8f67da929d674852e669874fab7d418228abdf", checked := Tryz.checked }
namespace Rows
def none {H : Type} : Left H := { results := [], args := [] }

/-- 'tombololaw26.AuditEquals': WHATEVER THE INPUT: true; the input reads as it did. -/
def auditEqualsSpec : ChangeSpec := { name := "auditEquals", fn := fun _ => fun
  | [d1, d2] => { results := [.lit (.bool true)], args := [d1, d2] }
  | _ => none }
def auditEqualsRow : OpenClaim := { program := "ytfogkdaomfmbcaagreat", sum := "5d30f78c421d5f7cf1d60e325b8f67da929d674852e669874fab7d418228abdf", func := "tombolo/tombololaw26.AuditEquals", spec := "auditEquals", unfollowed := true, recurses := true, plainKeys := false, apart := false }
def AuditEqualsSaid : Prop := auditEqualsRow.holds Tryz.pinned (OpenSpec.ofChange auditEqualsSpec)

/-- ITS FALSE NEIGHBOUR: 'it returns false'. Refute it at one input. -/
def auditEqualsWrong : ChangeSpec := { name := "auditEquals", fn := fun _ => fun
  | [d1, d2] => { results := [.lit (.bool false)], args := [d1, d2] }
  | _ => none }
def AuditEqualsWrongFalsely : Prop := auditEqualsRow.holds Tryz.pinned (OpenSpec.ofChange auditEqualsWrong)

/-- 'tombololaw19.RowRuns': WHATEVER THE INPUT: true; the input reads as it did. -/
def rowRunsSpec : ChangeSpec := { name := "rowRuns", fn := fun _ => fun
  | [d1, d2] => { results := [.lit (.bool true)], args := [d1, d2] }
  | _ => none }
def rowRunsRow : OpenClaim := { program := "ytfogkdaomfmbcaagreat", sum := "5d30f78c421d5f7cf1d60e325b8f67da929d674852e669874fab7d418228abdf", func := "tombolo/tombololaw19.RowRuns", spec := "rowRuns", unfollowed := true, recurses := true, plainKeys := false, apart := false }
def RowRunsSaid : Prop := rowRunsRow.holds Tryz.pinned (OpenSpec.ofChange rowRunsSpec)

/-- ITS FALSE NEIGHBOUR: 'it returns false'. Refute it at one input. -/
def rowRunsWrong : ChangeSpec := { name := "rowRuns", fn := fun _ => fun
  | [d1, d2] => { results := [.lit (.bool false)], args := [d1, d2] }
  | _ => none }
def RowRunsWrongFalsely : Prop := rowRunsRow.holds Tryz.pinned (OpenSpec.ofChange rowRunsWrong)

/-- 'tombololaw21.ThreadWrong': WHATEVER THE INPUT: true; the input reads as it did. -/
def threadWrongSpec : ChangeSpec := { name := "threadWrong", fn := fun _ => fun
  | [d1, d2] => { results := [.lit (.bool true)], args := [d1, d2] }
  | _ => none }
def threadWrongRow : OpenClaim := { program := "ytfogkdaomfmbcaagreat", sum := "5d30f78c421d5f7cf1d60e325b8f67da929d674852e669874fab7d418228abdf", func := "tombolo/tombololaw21.ThreadWrong", spec := "threadWrong", unfollowed := true, recurses := true, plainKeys := false, apart := false }
def ThreadWrongSaid : Prop := threadWrongRow.holds Tryz.pinned (OpenSpec.ofChange threadWrongSpec)

/-- ITS FALSE NEIGHBOUR: 'it returns false'. Refute it at one input. -/
def threadWrongWrong : ChangeSpec := { name := "threadWrong", fn := fun _ => fun
  | [d1, d2] => { results := [.lit (.bool false)], args := [d1, d2] }
  | _ => none }
def ThreadWrongWrongFalsely : Prop := threadWrongRow.holds Tryz.pinned (OpenSpec.ofChange threadWrongWrong)

/- THE SECOND FORM. 'bulk': how many values and letters a reading holds, each counted each time it is reached (what is shared counts as often as it is met; a slice's spare places count too). A statement '..UptoSaid' is the law's where the arguments, and the package variables that the reading takes, are together of bulk at most 1048576: NARROWER than '..Said'. Prove '..Said' where nothing that the law and all that it calls make is longer than what came in: it says more and counts as full. Else prove '..UptoSaid'. A law counts once. -/
mutual
def uptoBulk {H : Type} : DataW H → Nat
  | .lit (.string bytes) => bytes.length + 1
  | .lit _ => 1
  | .nil => 1
  | .ptr d => uptoBulk d + 1
  | .slice elems spare => uptoBulkAll elems + uptoBulkAll spare + 1
  | .agg parts => uptoBulkAll parts + 1
  | .iface _ d => uptoBulk d + 1
  | .map entries => uptoBulkEntries entries + 1
  | .held _ => 1
def uptoBulkAll {H : Type} : List (DataW H) → Nat
  | [] => 0
  | d :: r => uptoBulk d + uptoBulkAll r
def uptoBulkEntries {H : Type} : List (Lit × DataW H) → Nat
  | [] => 0
  | x :: r => uptoBulkEntry x + uptoBulkEntries r
def uptoBulkEntry {H : Type} : Lit × DataW H → Nat
  | (.string bytes, d) => bytes.length + uptoBulk d + 1
  | (_, d) => uptoBulk d + 1
 end
def uptoSmall : (H : Type) → List (DataW H) → Bool := fun _ ds => decide (uptoBulkAll ds ≤ 1048576)
def OpenSpec.upto (s : _root_.Go.ChangeSpec) : _root_.Go.OpenSpec := { _root_.Go.OpenSpec.ofChange s with cond := some uptoSmall }

/-- 'tombololaw26.AuditEquals', WHERE WHAT IT READS IS OF BULK AT MOST 1048576: true; the input reads as it did. -/
def auditEqualsUptoRow : OpenClaim := { program := "ytfogkdaomfmbcaagreat", sum := "5d30f78c421d5f7cf1d60e325b8f67da929d674852e669874fab7d418228abdf", func := "tombolo/tombololaw26.AuditEquals", spec := "auditEquals", unfollowed := true, recurses := true, plainKeys := false, apart := false, narrowed := true }
def AuditEqualsUptoSaid : Prop := auditEqualsUptoRow.holds Tryz.pinned (OpenSpec.upto auditEqualsSpec)

/-- 'tombololaw19.RowRuns', WHERE WHAT IT READS IS OF BULK AT MOST 1048576: true; the input reads as it did. -/
def rowRunsUptoRow : OpenClaim := { program := "ytfogkdaomfmbcaagreat", sum := "5d30f78c421d5f7cf1d60e325b8f67da929d674852e669874fab7d418228abdf", func := "tombolo/tombololaw19.RowRuns", spec := "rowRuns", unfollowed := true, recurses := true, plainKeys := false, apart := false, narrowed := true }
def RowRunsUptoSaid : Prop := rowRunsUptoRow.holds Tryz.pinned (OpenSpec.upto rowRunsSpec)

/-- 'tombololaw21.ThreadWrong', WHERE WHAT IT READS IS OF BULK AT MOST 1048576: true; the input reads as it did. -/
def threadWrongUptoRow : OpenClaim := { program := "ytfogkdaomfmbcaagreat", sum := "5d30f78c421d5f7cf1d60e325b8f67da929d674852e669874fab7d418228abdf", func := "tombolo/tombololaw21.ThreadWrong", spec := "threadWrong", unfollowed := true, recurses := true, plainKeys := false, apart := false, narrowed := true }
def ThreadWrongUptoSaid : Prop := threadWrongUptoRow.holds Tryz.pinned (OpenSpec.upto threadWrongSpec)

end Rows
end Go.Proofs.YtfogkdaomfmbcaaGreat
