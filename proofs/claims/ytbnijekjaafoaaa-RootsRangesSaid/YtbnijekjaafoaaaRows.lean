/-
  No cell of these rows narrows 'for every input' (looked for: loops, veiled, ifaces, maps, wideKeys, modest, calm, conditions, laid).
  DERIVED. THE GIVEN ROWS OF THIS SEAT. 8 by the template 'for every input the law returns true; each argument reads behind the call as it read before'; 0 by the template 'total and deterministic' (their statements: YtbnijekjaafoaaaTotals.lean).
  GIVEN WITH THE SEED: the statements are not yours to turn. If you find one false, say at which input.
  Laid BY PROGRAM, IN A SANDBOX (cutbox-rows.mjs): the forced cells as the released guide's own fill.sh prints them over the translation 774f411b9f0c0077… (all of the seat's roots in one cut). By AI agents, Wed Nov 11 2026. No macro, syntax, notation, axiom, sorry.
-/
import Derived.Test.YtbnijekjaafoaaaChecked
import GoSem.Claim
import GoSem.ClaimJoined
import GoSem.ClaimMapViews
import Derived.JoinedTies
import Derived.KernelRfl
namespace Go.Proofs.Ytbnijekjaafoaaa
/- THE CELL 'sum', in the pinned program and in every row, IS THE sha256 OF THE DUMP (.gsa) THAT YtbnijekjaafoaaaProg.lean LOADS. Nothing in Lean hashes anything: it is a label: what it is worth is what the hold of that sum in a sandbox is worth. -/
noncomputable def Try.pinned : Pinned := { name := "ytbnijekjaafoaaa", sum := "774f411b9f0c00773162ee08f5e57e4cf8c638d73a187326e0f05719ef2d52ff", checked := Try.checked }
namespace Rows
def none {H : Type} : Left H := { results := [], args := [] }

/-- 'shunterlaw19.RootsFinds': WHATEVER THE INPUT: true; the input reads as it did. -/
def rootsFindsSpec : ChangeSpec := { name := "rootsFinds", fn := fun _ => fun
  | [d1, d2] => { results := [.lit (.bool true)], args := [d1, d2] }
  | _ => none }
def rootsFindsRow : OpenClaim := { program := "ytbnijekjaafoaaa", sum := "774f411b9f0c00773162ee08f5e57e4cf8c638d73a187326e0f05719ef2d52ff", func := "shunter/shunterlaw19.RootsFinds", spec := "rootsFinds", unfollowed := true, recurses := true, apart := false }
def RootsFindsSaid : Prop := rootsFindsRow.holds Try.pinned (OpenSpec.ofChange rootsFindsSpec)

/-- ITS FALSE NEIGHBOUR: 'it returns false'. Refute it at one input. -/
def rootsFindsWrong : ChangeSpec := { name := "rootsFinds", fn := fun _ => fun
  | [d1, d2] => { results := [.lit (.bool false)], args := [d1, d2] }
  | _ => none }
def RootsFindsWrongFalsely : Prop := rootsFindsRow.holds Try.pinned (OpenSpec.ofChange rootsFindsWrong)

/-- 'shunterlaw19.RootsMoves': WHATEVER THE INPUT: true; the input reads as it did. -/
def rootsMovesSpec : ChangeSpec := { name := "rootsMoves", fn := fun _ => fun
  | [d1, d2] => { results := [.lit (.bool true)], args := [d1, d2] }
  | _ => none }
def rootsMovesRow : OpenClaim := { program := "ytbnijekjaafoaaa", sum := "774f411b9f0c00773162ee08f5e57e4cf8c638d73a187326e0f05719ef2d52ff", func := "shunter/shunterlaw19.RootsMoves", spec := "rootsMoves", unfollowed := true, recurses := true, apart := false }
def RootsMovesSaid : Prop := rootsMovesRow.holds Try.pinned (OpenSpec.ofChange rootsMovesSpec)

/-- ITS FALSE NEIGHBOUR: 'it returns false'. Refute it at one input. -/
def rootsMovesWrong : ChangeSpec := { name := "rootsMoves", fn := fun _ => fun
  | [d1, d2] => { results := [.lit (.bool false)], args := [d1, d2] }
  | _ => none }
def RootsMovesWrongFalsely : Prop := rootsMovesRow.holds Try.pinned (OpenSpec.ofChange rootsMovesWrong)

/-- 'shunterlaw19.RootsBack': WHATEVER THE INPUT: true; the input reads as it did. -/
def rootsBackSpec : ChangeSpec := { name := "rootsBack", fn := fun _ => fun
  | [d1, d2] => { results := [.lit (.bool true)], args := [d1, d2] }
  | _ => none }
def rootsBackRow : OpenClaim := { program := "ytbnijekjaafoaaa", sum := "774f411b9f0c00773162ee08f5e57e4cf8c638d73a187326e0f05719ef2d52ff", func := "shunter/shunterlaw19.RootsBack", spec := "rootsBack", unfollowed := true, recurses := true, apart := false }
def RootsBackSaid : Prop := rootsBackRow.holds Try.pinned (OpenSpec.ofChange rootsBackSpec)

/-- ITS FALSE NEIGHBOUR: 'it returns false'. Refute it at one input. -/
def rootsBackWrong : ChangeSpec := { name := "rootsBack", fn := fun _ => fun
  | [d1, d2] => { results := [.lit (.bool false)], args := [d1, d2] }
  | _ => none }
def RootsBackWrongFalsely : Prop := rootsBackRow.holds Try.pinned (OpenSpec.ofChange rootsBackWrong)

/-- 'shunterlaw19.RootsChains': WHATEVER THE INPUT: true; the input reads as it did. -/
def rootsChainsSpec : ChangeSpec := { name := "rootsChains", fn := fun _ => fun
  | [d1, d2, d3] => { results := [.lit (.bool true)], args := [d1, d2, d3] }
  | _ => none }
def rootsChainsRow : OpenClaim := { program := "ytbnijekjaafoaaa", sum := "774f411b9f0c00773162ee08f5e57e4cf8c638d73a187326e0f05719ef2d52ff", func := "shunter/shunterlaw19.RootsChains", spec := "rootsChains", unfollowed := true, recurses := true, apart := false }
def RootsChainsSaid : Prop := rootsChainsRow.holds Try.pinned (OpenSpec.ofChange rootsChainsSpec)

/-- ITS FALSE NEIGHBOUR: 'it returns false'. Refute it at one input. -/
def rootsChainsWrong : ChangeSpec := { name := "rootsChains", fn := fun _ => fun
  | [d1, d2, d3] => { results := [.lit (.bool false)], args := [d1, d2, d3] }
  | _ => none }
def RootsChainsWrongFalsely : Prop := rootsChainsRow.holds Try.pinned (OpenSpec.ofChange rootsChainsWrong)

/-- 'shunterlaw19.RootsRanges': WHATEVER THE INPUT: true; the input reads as it did. -/
def rootsRangesSpec : ChangeSpec := { name := "rootsRanges", fn := fun _ => fun
  | [d1, d2] => { results := [.lit (.bool true)], args := [d1, d2] }
  | _ => none }
def rootsRangesRow : OpenClaim := { program := "ytbnijekjaafoaaa", sum := "774f411b9f0c00773162ee08f5e57e4cf8c638d73a187326e0f05719ef2d52ff", func := "shunter/shunterlaw19.RootsRanges", spec := "rootsRanges", unfollowed := true, recurses := true, apart := false }
def RootsRangesSaid : Prop := rootsRangesRow.holds Try.pinned (OpenSpec.ofChange rootsRangesSpec)

/-- ITS FALSE NEIGHBOUR: 'it returns false'. Refute it at one input. -/
def rootsRangesWrong : ChangeSpec := { name := "rootsRanges", fn := fun _ => fun
  | [d1, d2] => { results := [.lit (.bool false)], args := [d1, d2] }
  | _ => none }
def RootsRangesWrongFalsely : Prop := rootsRangesRow.holds Try.pinned (OpenSpec.ofChange rootsRangesWrong)

/-- 'shunterlaw19.RootsKnown': WHATEVER THE INPUT: true; the input reads as it did. -/
def rootsKnownSpec : ChangeSpec := { name := "rootsKnown", fn := fun _ => fun
  | [] => { results := [.lit (.bool true)], args := [] }
  | _ => none }
def rootsKnownRow : OpenClaim := { program := "ytbnijekjaafoaaa", sum := "774f411b9f0c00773162ee08f5e57e4cf8c638d73a187326e0f05719ef2d52ff", func := "shunter/shunterlaw19.RootsKnown", spec := "rootsKnown", unfollowed := true, recurses := true, apart := false }
def RootsKnownSaid : Prop := rootsKnownRow.holds Try.pinned (OpenSpec.ofChange rootsKnownSpec)

/-- ITS FALSE NEIGHBOUR: 'it returns false'. Refute it at one input. -/
def rootsKnownWrong : ChangeSpec := { name := "rootsKnown", fn := fun _ => fun
  | [] => { results := [.lit (.bool false)], args := [] }
  | _ => none }
def RootsKnownWrongFalsely : Prop := rootsKnownRow.holds Try.pinned (OpenSpec.ofChange rootsKnownWrong)

/-- 'shunterlaw19.RootsChanges': WHATEVER THE INPUT: true; the input reads as it did. -/
def rootsChangesSpec : ChangeSpec := { name := "rootsChanges", fn := fun _ => fun
  | [d1, d2] => { results := [.lit (.bool true)], args := [d1, d2] }
  | _ => none }
def rootsChangesRow : OpenClaim := { program := "ytbnijekjaafoaaa", sum := "774f411b9f0c00773162ee08f5e57e4cf8c638d73a187326e0f05719ef2d52ff", func := "shunter/shunterlaw19.RootsChanges", spec := "rootsChanges", unfollowed := true, recurses := true, apart := false }
def RootsChangesSaid : Prop := rootsChangesRow.holds Try.pinned (OpenSpec.ofChange rootsChangesSpec)

/-- ITS FALSE NEIGHBOUR: 'it returns false'. Refute it at one input. -/
def rootsChangesWrong : ChangeSpec := { name := "rootsChanges", fn := fun _ => fun
  | [d1, d2] => { results := [.lit (.bool false)], args := [d1, d2] }
  | _ => none }
def RootsChangesWrongFalsely : Prop := rootsChangesRow.holds Try.pinned (OpenSpec.ofChange rootsChangesWrong)

/-- 'shunterlaw19.RootsSets': WHATEVER THE INPUT: true; the input reads as it did. -/
def rootsSetsSpec : ChangeSpec := { name := "rootsSets", fn := fun _ => fun
  | [d1, d2] => { results := [.lit (.bool true)], args := [d1, d2] }
  | _ => none }
def rootsSetsRow : OpenClaim := { program := "ytbnijekjaafoaaa", sum := "774f411b9f0c00773162ee08f5e57e4cf8c638d73a187326e0f05719ef2d52ff", func := "shunter/shunterlaw19.RootsSets", spec := "rootsSets", unfollowed := true, recurses := true, apart := false }
def RootsSetsSaid : Prop := rootsSetsRow.holds Try.pinned (OpenSpec.ofChange rootsSetsSpec)

/-- ITS FALSE NEIGHBOUR: 'it returns false'. Refute it at one input. -/
def rootsSetsWrong : ChangeSpec := { name := "rootsSets", fn := fun _ => fun
  | [d1, d2] => { results := [.lit (.bool false)], args := [d1, d2] }
  | _ => none }
def RootsSetsWrongFalsely : Prop := rootsSetsRow.holds Try.pinned (OpenSpec.ofChange rootsSetsWrong)

/- THE SECOND FORM. 'bulk': how many values and letters a reading holds, each counted each time it is reached (what is shared counts as often as it is met; a slice's spare places count too). A statement '..UptoSaid' is the law's where the arguments, and the package variables that the reading takes, are together of bulk at most 1048576: NARROWER than '..Said'. Prove '..Said' where nothing that the law and all that it calls make is longer than what came in: it says more and counts as full. Else prove '..UptoSaid'. A law counts once. -/
mutual
def uptoBulk {H : Type} : DataW H → Nat
  | .lit (.string bytes) => bytes.length + 1
  | .lit _ => 1
  | .nil => 1
  | .ptr d => uptoBulk d + 1
  | .slice elems spare => uptoBulkAll elems + uptoBulkAll spare + 1
  | .agg parts => uptoBulkAll parts + 1
  | .iface _ d => uptoBulk d + 1
  | .map entries => uptoBulkEntries entries + 1
  | .held _ => 1
def uptoBulkAll {H : Type} : List (DataW H) → Nat
  | [] => 0
  | d :: r => uptoBulk d + uptoBulkAll r
def uptoBulkEntries {H : Type} : List (Lit × DataW H) → Nat
  | [] => 0
  | x :: r => uptoBulkEntry x + uptoBulkEntries r
def uptoBulkEntry {H : Type} : Lit × DataW H → Nat
  | (.string bytes, d) => bytes.length + uptoBulk d + 1
  | (_, d) => uptoBulk d + 1
 end
def uptoSmall : (H : Type) → List (DataW H) → Bool := fun _ ds => decide (uptoBulkAll ds ≤ 1048576)
def OpenSpec.upto (s : _root_.Go.ChangeSpec) : _root_.Go.OpenSpec := { _root_.Go.OpenSpec.ofChange s with cond := some uptoSmall }

/-- 'shunterlaw19.RootsFinds', WHERE WHAT IT READS IS OF BULK AT MOST 1048576: true; the input reads as it did. -/
def rootsFindsUptoRow : OpenClaim := { program := "ytbnijekjaafoaaa", sum := "774f411b9f0c00773162ee08f5e57e4cf8c638d73a187326e0f05719ef2d52ff", func := "shunter/shunterlaw19.RootsFinds", spec := "rootsFinds", unfollowed := true, recurses := true, apart := false, narrowed := true }
def RootsFindsUptoSaid : Prop := rootsFindsUptoRow.holds Try.pinned (OpenSpec.upto rootsFindsSpec)

/-- 'shunterlaw19.RootsMoves', WHERE WHAT IT READS IS OF BULK AT MOST 1048576: true; the input reads as it did. -/
def rootsMovesUptoRow : OpenClaim := { program := "ytbnijekjaafoaaa", sum := "774f411b9f0c00773162ee08f5e57e4cf8c638d73a187326e0f05719ef2d52ff", func := "shunter/shunterlaw19.RootsMoves", spec := "rootsMoves", unfollowed := true, recurses := true, apart := false, narrowed := true }
def RootsMovesUptoSaid : Prop := rootsMovesUptoRow.holds Try.pinned (OpenSpec.upto rootsMovesSpec)

/-- 'shunterlaw19.RootsBack', WHERE WHAT IT READS IS OF BULK AT MOST 1048576: true; the input reads as it did. -/
def rootsBackUptoRow : OpenClaim := { program := "ytbnijekjaafoaaa", sum := "774f411b9f0c00773162ee08f5e57e4cf8c638d73a187326e0f05719ef2d52ff", func := "shunter/shunterlaw19.RootsBack", spec := "rootsBack", unfollowed := true, recurses := true, apart := false, narrowed := true }
def RootsBackUptoSaid : Prop := rootsBackUptoRow.holds Try.pinned (OpenSpec.upto rootsBackSpec)

/-- 'shunterlaw19.RootsChains', WHERE WHAT IT READS IS OF BULK AT MOST 1048576: true; the input reads as it did. -/
def rootsChainsUptoRow : OpenClaim := { program := "ytbnijekjaafoaaa", sum := "774f411b9f0c00773162ee08f5e57e4cf8c638d73a187326e0f05719ef2d52ff", func := "shunter/shunterlaw19.RootsChains", spec := "rootsChains", unfollowed := true, recurses := true, apart := false, narrowed := true }
def RootsChainsUptoSaid : Prop := rootsChainsUptoRow.holds Try.pinned (OpenSpec.upto rootsChainsSpec)

/-- 'shunterlaw19.RootsRanges', WHERE WHAT IT READS IS OF BULK AT MOST 1048576: true; the input reads as it did. -/
def rootsRangesUptoRow : OpenClaim := { program := "ytbnijekjaafoaaa", sum := "774f411b9f0c00773162ee08f5e57e4cf8c638d73a187326e0f05719ef2d52ff", func := "shunter/shunterlaw19.RootsRanges", spec := "rootsRanges", unfollowed := true, recurses := true, apart := false, narrowed := true }
def RootsRangesUptoSaid : Prop := rootsRangesUptoRow.holds Try.pinned (OpenSpec.upto rootsRangesSpec)

/-- 'shunterlaw19.RootsKnown', WHERE WHAT IT READS IS OF BULK AT MOST 1048576: true; the input reads as it did. -/
def rootsKnownUptoRow : OpenClaim := { program := "ytbnijekjaafoaaa", sum := "774f411b9f0c00773162ee08f5e57e4cf8c638d73a187326e0f05719ef2d52ff", func := "shunter/shunterlaw19.RootsKnown", spec := "rootsKnown", unfollowed := true, recurses := true, apart := false, narrowed := true }
def RootsKnownUptoSaid : Prop := rootsKnownUptoRow.holds Try.pinned (OpenSpec.upto rootsKnownSpec)

/-- 'shunterlaw19.RootsChanges', WHERE WHAT IT READS IS OF BULK AT MOST 1048576: true; the input reads as it did. -/
def rootsChangesUptoRow : OpenClaim := { program := "ytbnijekjaafoaaa", sum := "774f411b9f0c00773162ee08f5e57e4cf8c638d73a187326e0f05719ef2d52ff", func := "shunter/shunterlaw19.RootsChanges", spec := "rootsChanges", unfollowed := true, recurses := true, apart := false, narrowed := true }
def RootsChangesUptoSaid : Prop := rootsChangesUptoRow.holds Try.pinned (OpenSpec.upto rootsChangesSpec)

/-- 'shunterlaw19.RootsSets', WHERE WHAT IT READS IS OF BULK AT MOST 1048576: true; the input reads as it did. -/
def rootsSetsUptoRow : OpenClaim := { program := "ytbnijekjaafoaaa", sum := "774f411b9f0c00773162ee08f5e57e4cf8c638d73a187326e0f05719ef2d52ff", func := "shunter/shunterlaw19.RootsSets", spec := "rootsSets", unfollowed := true, recurses := true, apart := false, narrowed := true }
def RootsSetsUptoSaid : Prop := rootsSetsUptoRow.holds Try.pinned (OpenSpec.upto rootsSetsSpec)

end Rows
end Go.Proofs.Ytbnijekjaafoaaa
