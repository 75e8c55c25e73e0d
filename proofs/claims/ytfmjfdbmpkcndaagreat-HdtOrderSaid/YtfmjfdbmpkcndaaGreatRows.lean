/-
  No cell of these rows narrows 'for every input' (looked for: loops, veiled, ifaces, maps, wideKeys, modest, calm, conditions, laid).
  DERIVED. THE GIVEN ROWS OF THIS SEAT. 11 by the template 'for every input the law returns true; each argument reads behind the call as it read before'; 0 by the template 'total and deterministic' (their statements: YtfmjfdbmpkcndaaGreatTotals.lean).
  GIVEN WITH THE SEED: the statements are not yours to turn. If you find one false, say at which input.
  Laid BY PROGRAM, IN A SANDBOX (cutbox-rows.mjs): the forced cells as the released guide's own fill.sh prints them over the translation ab36af20dcfb1d13… (all of the seat's roots in one cut). By AI agents, Wed Nov 11 2026. No macro, syntax, notation, axiom, sorry.
-/
import Derived.Test.YtfmjfdbmpkcndaaGreatChecked
import GoSem.Claim
import GoSem.ClaimJoined
import GoSem.ClaimMapViews
import Derived.JoinedTies
import Derived.KernelRfl
namespace Go.Proofs.YtfmjfdbmpkcndaaGreat
/- THE CELL 'sum', in the pinned program and in every row, IS THE sha256 OF THE DUMP (.gsa) THAT YtfmjfdbmpkcndaaGreatProg.lean LOADS. Nothing in Lean hashes anything: it is a label: what it is worth is what the hold of that sum in a sandbox is worth. -/
noncomputable def Tryz.pinned : Pinned := { name := "ytfmjfdbmpkcndaagreat", sum := "ab36af20dcfb1d131d718fd17073c4c5a6251676efd30bc90ab35d30794c4b8d", checked := Tryz.checked }
namespace Rows
def none {H : Type} : Left H := { results := [], args := [] }

/-- 'tombololaw13.LiftPlays': WHATEVER THE INPUT: true; the input reads as it did. -/
def liftPlaysSpec : ChangeSpec := { name := "liftPlays", fn := fun _ => fun
  | [d] => { results := [.lit (.bool true)], args := [d] }
  | _ => none }
def liftPlaysRow : OpenClaim := { program := "ytfmjfdbmpkcndaagreat", sum := "ab36af20dcfb1d131d718fd17073c4c5a6251676efd30bc90ab35d30794c4b8d", func := "tombolo/tombololaw13.LiftPlays", spec := "liftPlays", unfollowed := true, recurses := true, plainKeys := false, apart := false }
def LiftPlaysSaid : Prop := liftPlaysRow.holds Tryz.pinned (OpenSpec.ofChange liftPlaysSpec)

/-- ITS FALSE NEIGHBOUR: 'it returns false'. Refute it at one input. -/
def liftPlaysWrong : ChangeSpec := { name := "liftPlays", fn := fun _ => fun
  | [d] => { results := [.lit (.bool false)], args := [d] }
  | _ => none }
def LiftPlaysWrongFalsely : Prop := liftPlaysRow.holds Tryz.pinned (OpenSpec.ofChange liftPlaysWrong)

/-- 'tombololaw13.LiftSeeks': WHATEVER THE INPUT: true; the input reads as it did. -/
def liftSeeksSpec : ChangeSpec := { name := "liftSeeks", fn := fun _ => fun
  | [d1, d2, d3] => { results := [.lit (.bool true)], args := [d1, d2, d3] }
  | _ => none }
def liftSeeksRow : OpenClaim := { program := "ytfmjfdbmpkcndaagreat", sum := "ab36af20dcfb1d131d718fd17073c4c5a6251676efd30bc90ab35d30794c4b8d", func := "tombolo/tombololaw13.LiftSeeks", spec := "liftSeeks", unfollowed := true, recurses := true, plainKeys := false, apart := false }
def LiftSeeksSaid : Prop := liftSeeksRow.holds Tryz.pinned (OpenSpec.ofChange liftSeeksSpec)

/-- ITS FALSE NEIGHBOUR: 'it returns false'. Refute it at one input. -/
def liftSeeksWrong : ChangeSpec := { name := "liftSeeks", fn := fun _ => fun
  | [d1, d2, d3] => { results := [.lit (.bool false)], args := [d1, d2, d3] }
  | _ => none }
def LiftSeeksWrongFalsely : Prop := liftSeeksRow.holds Tryz.pinned (OpenSpec.ofChange liftSeeksWrong)

/-- 'tombololaw13.LiftSmaller': WHATEVER THE INPUT: true; the input reads as it did. -/
def liftSmallerSpec : ChangeSpec := { name := "liftSmaller", fn := fun _ => fun
  | [d1, d2, d3] => { results := [.lit (.bool true)], args := [d1, d2, d3] }
  | _ => none }
def liftSmallerRow : OpenClaim := { program := "ytfmjfdbmpkcndaagreat", sum := "ab36af20dcfb1d131d718fd17073c4c5a6251676efd30bc90ab35d30794c4b8d", func := "tombolo/tombololaw13.LiftSmaller", spec := "liftSmaller", unfollowed := true, recurses := true, plainKeys := false, apart := false }
def LiftSmallerSaid : Prop := liftSmallerRow.holds Tryz.pinned (OpenSpec.ofChange liftSmallerSpec)

/-- ITS FALSE NEIGHBOUR: 'it returns false'. Refute it at one input. -/
def liftSmallerWrong : ChangeSpec := { name := "liftSmaller", fn := fun _ => fun
  | [d1, d2, d3] => { results := [.lit (.bool false)], args := [d1, d2, d3] }
  | _ => none }
def LiftSmallerWrongFalsely : Prop := liftSmallerRow.holds Tryz.pinned (OpenSpec.ofChange liftSmallerWrong)

/-- 'tombololaw13.LiftBack': WHATEVER THE INPUT: true; the input reads as it did. -/
def liftBackSpec : ChangeSpec := { name := "liftBack", fn := fun _ => fun
  | [d1, d2] => { results := [.lit (.bool true)], args := [d1, d2] }
  | _ => none }
def liftBackRow : OpenClaim := { program := "ytfmjfdbmpkcndaagreat", sum := "ab36af20dcfb1d131d718fd17073c4c5a6251676efd30bc90ab35d30794c4b8d", func := "tombolo/tombololaw13.LiftBack", spec := "liftBack", unfollowed := true, recurses := true, plainKeys := false, apart := false }
def LiftBackSaid : Prop := liftBackRow.holds Tryz.pinned (OpenSpec.ofChange liftBackSpec)

/-- ITS FALSE NEIGHBOUR: 'it returns false'. Refute it at one input. -/
def liftBackWrong : ChangeSpec := { name := "liftBack", fn := fun _ => fun
  | [d1, d2] => { results := [.lit (.bool false)], args := [d1, d2] }
  | _ => none }
def LiftBackWrongFalsely : Prop := liftBackRow.holds Tryz.pinned (OpenSpec.ofChange liftBackWrong)

/-- 'tombololaw13.LiftTrees': WHATEVER THE INPUT: true; the input reads as it did. -/
def liftTreesSpec : ChangeSpec := { name := "liftTrees", fn := fun _ => fun
  | [d1, d2, d3] => { results := [.lit (.bool true)], args := [d1, d2, d3] }
  | _ => none }
def liftTreesRow : OpenClaim := { program := "ytfmjfdbmpkcndaagreat", sum := "ab36af20dcfb1d131d718fd17073c4c5a6251676efd30bc90ab35d30794c4b8d", func := "tombolo/tombololaw13.LiftTrees", spec := "liftTrees", unfollowed := true, recurses := true, plainKeys := false, apart := false }
def LiftTreesSaid : Prop := liftTreesRow.holds Tryz.pinned (OpenSpec.ofChange liftTreesSpec)

/-- ITS FALSE NEIGHBOUR: 'it returns false'. Refute it at one input. -/
def liftTreesWrong : ChangeSpec := { name := "liftTrees", fn := fun _ => fun
  | [d1, d2, d3] => { results := [.lit (.bool false)], args := [d1, d2, d3] }
  | _ => none }
def LiftTreesWrongFalsely : Prop := liftTreesRow.holds Tryz.pinned (OpenSpec.ofChange liftTreesWrong)

/-- 'tombololaw14.HdtPlays': WHATEVER THE INPUT: true; the input reads as it did. -/
def hdtPlaysSpec : ChangeSpec := { name := "hdtPlays", fn := fun _ => fun
  | [d] => { results := [.lit (.bool true)], args := [d] }
  | _ => none }
def hdtPlaysRow : OpenClaim := { program := "ytfmjfdbmpkcndaagreat", sum := "ab36af20dcfb1d131d718fd17073c4c5a6251676efd30bc90ab35d30794c4b8d", func := "tombolo/tombololaw14.HdtPlays", spec := "hdtPlays", unfollowed := true, recurses := true, plainKeys := false, apart := false }
def HdtPlaysSaid : Prop := hdtPlaysRow.holds Tryz.pinned (OpenSpec.ofChange hdtPlaysSpec)

/-- ITS FALSE NEIGHBOUR: 'it returns false'. Refute it at one input. -/
def hdtPlaysWrong : ChangeSpec := { name := "hdtPlays", fn := fun _ => fun
  | [d] => { results := [.lit (.bool false)], args := [d] }
  | _ => none }
def HdtPlaysWrongFalsely : Prop := hdtPlaysRow.holds Tryz.pinned (OpenSpec.ofChange hdtPlaysWrong)

/-- 'tombololaw14.HdtSound': WHATEVER THE INPUT: true; the input reads as it did. -/
def hdtSoundSpec : ChangeSpec := { name := "hdtSound", fn := fun _ => fun
  | [d] => { results := [.lit (.bool true)], args := [d] }
  | _ => none }
def hdtSoundRow : OpenClaim := { program := "ytfmjfdbmpkcndaagreat", sum := "ab36af20dcfb1d131d718fd17073c4c5a6251676efd30bc90ab35d30794c4b8d", func := "tombolo/tombololaw14.HdtSound", spec := "hdtSound", unfollowed := true, recurses := true, plainKeys := false, apart := false }
def HdtSoundSaid : Prop := hdtSoundRow.holds Tryz.pinned (OpenSpec.ofChange hdtSoundSpec)

/-- ITS FALSE NEIGHBOUR: 'it returns false'. Refute it at one input. -/
def hdtSoundWrong : ChangeSpec := { name := "hdtSound", fn := fun _ => fun
  | [d] => { results := [.lit (.bool false)], args := [d] }
  | _ => none }
def HdtSoundWrongFalsely : Prop := hdtSoundRow.holds Tryz.pinned (OpenSpec.ofChange hdtSoundWrong)

/-- 'tombololaw14.HdtJoins': WHATEVER THE INPUT: true; the input reads as it did. -/
def hdtJoinsSpec : ChangeSpec := { name := "hdtJoins", fn := fun _ => fun
  | [d] => { results := [.lit (.bool true)], args := [d] }
  | _ => none }
def hdtJoinsRow : OpenClaim := { program := "ytfmjfdbmpkcndaagreat", sum := "ab36af20dcfb1d131d718fd17073c4c5a6251676efd30bc90ab35d30794c4b8d", func := "tombolo/tombololaw14.HdtJoins", spec := "hdtJoins", unfollowed := true, recurses := true, plainKeys := false, apart := false }
def HdtJoinsSaid : Prop := hdtJoinsRow.holds Tryz.pinned (OpenSpec.ofChange hdtJoinsSpec)

/-- ITS FALSE NEIGHBOUR: 'it returns false'. Refute it at one input. -/
def hdtJoinsWrong : ChangeSpec := { name := "hdtJoins", fn := fun _ => fun
  | [d] => { results := [.lit (.bool false)], args := [d] }
  | _ => none }
def HdtJoinsWrongFalsely : Prop := hdtJoinsRow.holds Tryz.pinned (OpenSpec.ofChange hdtJoinsWrong)

/-- 'tombololaw14.HdtLevels': WHATEVER THE INPUT: true; the input reads as it did. -/
def hdtLevelsSpec : ChangeSpec := { name := "hdtLevels", fn := fun _ => fun
  | [d] => { results := [.lit (.bool true)], args := [d] }
  | _ => none }
def hdtLevelsRow : OpenClaim := { program := "ytfmjfdbmpkcndaagreat", sum := "ab36af20dcfb1d131d718fd17073c4c5a6251676efd30bc90ab35d30794c4b8d", func := "tombolo/tombololaw14.HdtLevels", spec := "hdtLevels", unfollowed := true, recurses := true, plainKeys := false, apart := false }
def HdtLevelsSaid : Prop := hdtLevelsRow.holds Tryz.pinned (OpenSpec.ofChange hdtLevelsSpec)

/-- ITS FALSE NEIGHBOUR: 'it returns false'. Refute it at one input. -/
def hdtLevelsWrong : ChangeSpec := { name := "hdtLevels", fn := fun _ => fun
  | [d] => { results := [.lit (.bool false)], args := [d] }
  | _ => none }
def HdtLevelsWrongFalsely : Prop := hdtLevelsRow.holds Tryz.pinned (OpenSpec.ofChange hdtLevelsWrong)

/-- 'tombololaw14.HdtBack': WHATEVER THE INPUT: true; the input reads as it did. -/
def hdtBackSpec : ChangeSpec := { name := "hdtBack", fn := fun _ => fun
  | [d1, d2, d3] => { results := [.lit (.bool true)], args := [d1, d2, d3] }
  | _ => none }
def hdtBackRow : OpenClaim := { program := "ytfmjfdbmpkcndaagreat", sum := "ab36af20dcfb1d131d718fd17073c4c5a6251676efd30bc90ab35d30794c4b8d", func := "tombolo/tombololaw14.HdtBack", spec := "hdtBack", unfollowed := true, recurses := true, plainKeys := false, apart := false }
def HdtBackSaid : Prop := hdtBackRow.holds Tryz.pinned (OpenSpec.ofChange hdtBackSpec)

/-- ITS FALSE NEIGHBOUR: 'it returns false'. Refute it at one input. -/
def hdtBackWrong : ChangeSpec := { name := "hdtBack", fn := fun _ => fun
  | [d1, d2, d3] => { results := [.lit (.bool false)], args := [d1, d2, d3] }
  | _ => none }
def HdtBackWrongFalsely : Prop := hdtBackRow.holds Tryz.pinned (OpenSpec.ofChange hdtBackWrong)

/-- 'tombololaw14.HdtOrder': WHATEVER THE INPUT: true; the input reads as it did. -/
def hdtOrderSpec : ChangeSpec := { name := "hdtOrder", fn := fun _ => fun
  | [d1, d2] => { results := [.lit (.bool true)], args := [d1, d2] }
  | _ => none }
def hdtOrderRow : OpenClaim := { program := "ytfmjfdbmpkcndaagreat", sum := "ab36af20dcfb1d131d718fd17073c4c5a6251676efd30bc90ab35d30794c4b8d", func := "tombolo/tombololaw14.HdtOrder", spec := "hdtOrder", unfollowed := true, recurses := true, plainKeys := false, apart := false }
def HdtOrderSaid : Prop := hdtOrderRow.holds Tryz.pinned (OpenSpec.ofChange hdtOrderSpec)

/-- ITS FALSE NEIGHBOUR: 'it returns false'. Refute it at one input. -/
def hdtOrderWrong : ChangeSpec := { name := "hdtOrder", fn := fun _ => fun
  | [d1, d2] => { results := [.lit (.bool false)], args := [d1, d2] }
  | _ => none }
def HdtOrderWrongFalsely : Prop := hdtOrderRow.holds Tryz.pinned (OpenSpec.ofChange hdtOrderWrong)

/- THE SECOND FORM. 'bulk': how many values and letters a reading holds, each counted each time it is reached (what is shared counts as often as it is met; a slice's spare places count too). A statement '..UptoSaid' is the law's where the arguments, and the package variables that the reading takes, are together of bulk at most 1048576: NARROWER than '..Said'. Prove '..Said' where nothing that the law and all that it calls make is longer than what came in: it says more and counts as full. Else prove '..UptoSaid'. A law counts once. -/
mutual
def uptoBulk {H : Type} : DataW H → Nat
  | .lit (.string bytes) => bytes.length + 1
  | .lit _ => 1
  | .nil => 1
  | .ptr d => uptoBulk d + 1
  | .slice elems spare => uptoBulkAll elems + uptoBulkAll spare + 1
  | .agg parts => uptoBulkAll parts + 1
  | .iface _ d => uptoBulk d + 1
  | .map entries => uptoBulkEntries entries + 1
  | .held _ => 1
def uptoBulkAll {H : Type} : List (DataW H) → Nat
  | [] => 0
  | d :: r => uptoBulk d + uptoBulkAll r
def uptoBulkEntries {H : Type} : List (Lit × DataW H) → Nat
  | [] => 0
  | x :: r => uptoBulkEntry x + uptoBulkEntries r
def uptoBulkEntry {H : Type} : Lit × DataW H → Nat
  | (.string bytes, d) => bytes.length + uptoBulk d + 1
  | (_, d) => uptoBulk d + 1
 end
def uptoSmall : (H : Type) → List (DataW H) → Bool := fun _ ds => decide (uptoBulkAll ds ≤ 1048576)
def OpenSpec.upto (s : _root_.Go.ChangeSpec) : _root_.Go.OpenSpec := { _root_.Go.OpenSpec.ofChange s with cond := some uptoSmall }

/-- 'tombololaw13.LiftPlays', WHERE WHAT IT READS IS OF BULK AT MOST 1048576: true; the input reads as it did. -/
def liftPlaysUptoRow : OpenClaim := { program := "ytfmjfdbmpkcndaagreat", sum := "ab36af20dcfb1d131d718fd17073c4c5a6251676efd30bc90ab35d30794c4b8d", func := "tombolo/tombololaw13.LiftPlays", spec := "liftPlays", unfollowed := true, recurses := true, plainKeys := false, apart := false, narrowed := true }
def LiftPlaysUptoSaid : Prop := liftPlaysUptoRow.holds Tryz.pinned (OpenSpec.upto liftPlaysSpec)

/-- 'tombololaw13.LiftSeeks', WHERE WHAT IT READS IS OF BULK AT MOST 1048576: true; the input reads as it did. -/
def liftSeeksUptoRow : OpenClaim := { program := "ytfmjfdbmpkcndaagreat", sum := "ab36af20dcfb1d131d718fd17073c4c5a6251676efd30bc90ab35d30794c4b8d", func := "tombolo/tombololaw13.LiftSeeks", spec := "liftSeeks", unfollowed := true, recurses := true, plainKeys := false, apart := false, narrowed := true }
def LiftSeeksUptoSaid : Prop := liftSeeksUptoRow.holds Tryz.pinned (OpenSpec.upto liftSeeksSpec)

/-- 'tombololaw13.LiftSmaller', WHERE WHAT IT READS IS OF BULK AT MOST 1048576: true; the input reads as it did. -/
def liftSmallerUptoRow : OpenClaim := { program := "ytfmjfdbmpkcndaagreat", sum := "ab36af20dcfb1d131d718fd17073c4c5a6251676efd30bc90ab35d30794c4b8d", func := "tombolo/tombololaw13.LiftSmaller", spec := "liftSmaller", unfollowed := true, recurses := true, plainKeys := false, apart := false, narrowed := true }
def LiftSmallerUptoSaid : Prop := liftSmallerUptoRow.holds Tryz.pinned (OpenSpec.upto liftSmallerSpec)

/-- 'tombololaw13.LiftBack', WHERE WHAT IT READS IS OF BULK AT MOST 1048576: true; the input reads as it did. -/
def liftBackUptoRow : OpenClaim := { program := "ytfmjfdbmpkcndaagreat", sum := "ab36af20dcfb1d131d718fd17073c4c5a6251676efd30bc90ab35d30794c4b8d", func := "tombolo/tombololaw13.LiftBack", spec := "liftBack", unfollowed := true, recurses := true, plainKeys := false, apart := false, narrowed := true }
def LiftBackUptoSaid : Prop := liftBackUptoRow.holds Tryz.pinned (OpenSpec.upto liftBackSpec)

/-- 'tombololaw13.LiftTrees', WHERE WHAT IT READS IS OF BULK AT MOST 1048576: true; the input reads as it did. -/
def liftTreesUptoRow : OpenClaim := { program := "ytfmjfdbmpkcndaagreat", sum := "ab36af20dcfb1d131d718fd17073c4c5a6251676efd30bc90ab35d30794c4b8d", func := "tombolo/tombololaw13.LiftTrees", spec := "liftTrees", unfollowed := true, recurses := true, plainKeys := false, apart := false, narrowed := true }
def LiftTreesUptoSaid : Prop := liftTreesUptoRow.holds Tryz.pinned (OpenSpec.upto liftTreesSpec)

/-- 'tombololaw14.HdtPlays', WHERE WHAT IT READS IS OF BULK AT MOST 1048576: true; the input reads as it did. -/
def hdtPlaysUptoRow : OpenClaim := { program := "ytfmjfdbmpkcndaagreat", sum := "ab36af20dcfb1d131d718fd17073c4c5a6251676efd30bc90ab35d30794c4b8d", func := "tombolo/tombololaw14.HdtPlays", spec := "hdtPlays", unfollowed := true, recurses := true, plainKeys := false, apart := false, narrowed := true }
def HdtPlaysUptoSaid : Prop := hdtPlaysUptoRow.holds Tryz.pinned (OpenSpec.upto hdtPlaysSpec)

/-- 'tombololaw14.HdtSound', WHERE WHAT IT READS IS OF BULK AT MOST 1048576: true; the input reads as it did. -/
def hdtSoundUptoRow : OpenClaim := { program := "ytfmjfdbmpkcndaagreat", sum := "ab36af20dcfb1d131d718fd17073c4c5a6251676efd30bc90ab35d30794c4b8d", func := "tombolo/tombololaw14.HdtSound", spec := "hdtSound", unfollowed := true, recurses := true, plainKeys := false, apart := false, narrowed := true }
def HdtSoundUptoSaid : Prop := hdtSoundUptoRow.holds Tryz.pinned (OpenSpec.upto hdtSoundSpec)

/-- 'tombololaw14.HdtJoins', WHERE WHAT IT READS IS OF BULK AT MOST 1048576: true; the input reads as it did. -/
def hdtJoinsUptoRow : OpenClaim := { program := "ytfmjfdbmpkcndaagreat", sum := "ab36af20dcfb1d131d718fd17073c4c5a6251676efd30bc90ab35d30794c4b8d", func := "tombolo/tombololaw14.HdtJoins", spec := "hdtJoins", unfollowed := true, recurses := true, plainKeys := false, apart := false, narrowed := true }
def HdtJoinsUptoSaid : Prop := hdtJoinsUptoRow.holds Tryz.pinned (OpenSpec.upto hdtJoinsSpec)

/-- 'tombololaw14.HdtLevels', WHERE WHAT IT READS IS OF BULK AT MOST 1048576: true; the input reads as it did. -/
def hdtLevelsUptoRow : OpenClaim := { program := "ytfmjfdbmpkcndaagreat", sum := "ab36af20dcfb1d131d718fd17073c4c5a6251676efd30bc90ab35d30794c4b8d", func := "tombolo/tombololaw14.HdtLevels", spec := "hdtLevels", unfollowed := true, recurses := true, plainKeys := false, apart := false, narrowed := true }
def HdtLevelsUptoSaid : Prop := hdtLevelsUptoRow.holds Tryz.pinned (OpenSpec.upto hdtLevelsSpec)

/-- 'tombololaw14.HdtBack', WHERE WHAT IT READS IS OF BULK AT MOST 1048576: true; the input reads as it did. -/
def hdtBackUptoRow : OpenClaim := { program := "ytfmjfdbmpkcndaagreat", sum := "ab36af20dcfb1d131d718fd17073c4c5a6251676efd30bc90ab35d30794c4b8d", func := "tombolo/tombololaw14.HdtBack", spec := "hdtBack", unfollowed := true, recurses := true, plainKeys := false, apart := false, narrowed := true }
def HdtBackUptoSaid : Prop := hdtBackUptoRow.holds Tryz.pinned (OpenSpec.upto hdtBackSpec)

/-- 'tombololaw14.HdtOrder', WHERE WHAT IT READS IS OF BULK AT MOST 1048576: true; the input reads as it did. -/
def hdtOrderUptoRow : OpenClaim := { program := "ytfmjfdbmpkcndaagreat", sum := "ab36af20dcfb1d131d718fd17073c4c5a6251676efd30bc90ab35d30794c4b8d", func := "tombolo/tombololaw14.HdtOrder", spec := "hdtOrder", unfollowed := true, recurses := true, plainKeys := false, apart := false, narrowed := true }
def HdtOrderUptoSaid : Prop := hdtOrderUptoRow.holds Tryz.pinned (OpenSpec.upto hdtOrderSpec)

end Rows
end Go.Proofs.YtfmjfdbmpkcndaaGreat
