/-
  No cell of these rows narrows 'for every input' (looked for: loops, veiled, ifaces, maps, wideKeys, modest, calm, conditions, laid).
  DERIVED. THE GIVEN ROWS OF THIS SEAT. 6 by the template 'for every input the law returns true; each argument reads behind the call as it read before'; 0 by the template 'total and deterministic' (their statements: YteppjefmlibmoaaTotals.lean).
  GIVEN WITH THE SEED: the statements are not yours to turn. If you find one false, say at which input.
  Laid BY PROGRAM, IN A SANDBOX (cutbox-rows.mjs): the forced cells as the released guide's own fill.sh prints them over the translation 75de02ac37d0be9b… (all of the seat's roots in one cut). By AI agents, Wed Nov 11 2026. No macro, syntax, notation, axiom, sorry.
-/
import Derived.Test.YteppjefmlibmoaaChecked
import GoSem.Claim
import GoSem.ClaimJoined
import GoSem.ClaimMapViews
import Derived.JoinedTies
import Derived.KernelRfl
namespace Go.Proofs.Yteppjefmlibmoaa
/- THE CELL 'sum', in the pinned program and in every row, IS THE sha256 OF THE DUMP (.gsa) THAT YteppjefmlibmoaaProg.lean LOADS. Nothing in Lean hashes anything: it is a label: what it is worth is what the hold of that sum in a sandbox is worth. -/
noncomputable def Try.pinned : Pinned := { name := "yteppjefmlibmoaa", sum := "75de02ac37d0be9b89298ca17aeefd23dcac67fbceea95cab4458cf6103ec8f5", checked := Try.checked }
namespace Rows
def none {H : Type} : Left H := { results := [], args := [] }

/-- 'shunterlaw08.RemsetCars': WHATEVER THE INPUT: true; the input reads as it did. -/
def remsetCarsSpec : ChangeSpec := { name := "remsetCars", fn := fun _ => fun
  | [d1, d2] => { results := [.lit (.bool true)], args := [d1, d2] }
  | _ => none }
def remsetCarsRow : OpenClaim := { program := "yteppjefmlibmoaa", sum := "75de02ac37d0be9b89298ca17aeefd23dcac67fbceea95cab4458cf6103ec8f5", func := "shunter/shunterlaw08.RemsetCars", spec := "remsetCars", unfollowed := true, recurses := true, plainKeys := false, apart := false }
def RemsetCarsSaid : Prop := remsetCarsRow.holds Try.pinned (OpenSpec.ofChange remsetCarsSpec)

/-- ITS FALSE NEIGHBOUR: 'it returns false'. Refute it at one input. -/
def remsetCarsWrong : ChangeSpec := { name := "remsetCars", fn := fun _ => fun
  | [d1, d2] => { results := [.lit (.bool false)], args := [d1, d2] }
  | _ => none }
def RemsetCarsWrongFalsely : Prop := remsetCarsRow.holds Try.pinned (OpenSpec.ofChange remsetCarsWrong)

/-- 'shunterlaw08.RemsetChecks': WHATEVER THE INPUT: true; the input reads as it did. -/
def remsetChecksSpec : ChangeSpec := { name := "remsetChecks", fn := fun _ => fun
  | [d] => { results := [.lit (.bool true)], args := [d] }
  | _ => none }
def remsetChecksRow : OpenClaim := { program := "yteppjefmlibmoaa", sum := "75de02ac37d0be9b89298ca17aeefd23dcac67fbceea95cab4458cf6103ec8f5", func := "shunter/shunterlaw08.RemsetChecks", spec := "remsetChecks", unfollowed := true, recurses := true, plainKeys := false, apart := false }
def RemsetChecksSaid : Prop := remsetChecksRow.holds Try.pinned (OpenSpec.ofChange remsetChecksSpec)

/-- ITS FALSE NEIGHBOUR: 'it returns false'. Refute it at one input. -/
def remsetChecksWrong : ChangeSpec := { name := "remsetChecks", fn := fun _ => fun
  | [d] => { results := [.lit (.bool false)], args := [d] }
  | _ => none }
def RemsetChecksWrongFalsely : Prop := remsetChecksRow.holds Try.pinned (OpenSpec.ofChange remsetChecksWrong)

/-- 'shunterlaw08.RemsetOthers': WHATEVER THE INPUT: true; the input reads as it did. -/
def remsetOthersSpec : ChangeSpec := { name := "remsetOthers", fn := fun _ => fun
  | [d1, d2, d3] => { results := [.lit (.bool true)], args := [d1, d2, d3] }
  | _ => none }
def remsetOthersRow : OpenClaim := { program := "yteppjefmlibmoaa", sum := "75de02ac37d0be9b89298ca17aeefd23dcac67fbceea95cab4458cf6103ec8f5", func := "shunter/shunterlaw08.RemsetOthers", spec := "remsetOthers", unfollowed := true, recurses := true, plainKeys := false, apart := false }
def RemsetOthersSaid : Prop := remsetOthersRow.holds Try.pinned (OpenSpec.ofChange remsetOthersSpec)

/-- ITS FALSE NEIGHBOUR: 'it returns false'. Refute it at one input. -/
def remsetOthersWrong : ChangeSpec := { name := "remsetOthers", fn := fun _ => fun
  | [d1, d2, d3] => { results := [.lit (.bool false)], args := [d1, d2, d3] }
  | _ => none }
def RemsetOthersWrongFalsely : Prop := remsetOthersRow.holds Try.pinned (OpenSpec.ofChange remsetOthersWrong)

/-- 'shunterlaw08.RemsetBarrier': WHATEVER THE INPUT: true; the input reads as it did. -/
def remsetBarrierSpec : ChangeSpec := { name := "remsetBarrier", fn := fun _ => fun
  | [d1, d2] => { results := [.lit (.bool true)], args := [d1, d2] }
  | _ => none }
def remsetBarrierRow : OpenClaim := { program := "yteppjefmlibmoaa", sum := "75de02ac37d0be9b89298ca17aeefd23dcac67fbceea95cab4458cf6103ec8f5", func := "shunter/shunterlaw08.RemsetBarrier", spec := "remsetBarrier", unfollowed := true, recurses := true, plainKeys := false, apart := false }
def RemsetBarrierSaid : Prop := remsetBarrierRow.holds Try.pinned (OpenSpec.ofChange remsetBarrierSpec)

/-- ITS FALSE NEIGHBOUR: 'it returns false'. Refute it at one input. -/
def remsetBarrierWrong : ChangeSpec := { name := "remsetBarrier", fn := fun _ => fun
  | [d1, d2] => { results := [.lit (.bool false)], args := [d1, d2] }
  | _ => none }
def RemsetBarrierWrongFalsely : Prop := remsetBarrierRow.holds Try.pinned (OpenSpec.ofChange remsetBarrierWrong)

/-- 'shunterlaw08.RemsetBack': WHATEVER THE INPUT: true; the input reads as it did. -/
def remsetBackSpec : ChangeSpec := { name := "remsetBack", fn := fun _ => fun
  | [d1, d2, d3] => { results := [.lit (.bool true)], args := [d1, d2, d3] }
  | _ => none }
def remsetBackRow : OpenClaim := { program := "yteppjefmlibmoaa", sum := "75de02ac37d0be9b89298ca17aeefd23dcac67fbceea95cab4458cf6103ec8f5", func := "shunter/shunterlaw08.RemsetBack", spec := "remsetBack", unfollowed := true, recurses := true, plainKeys := false, apart := false }
def RemsetBackSaid : Prop := remsetBackRow.holds Try.pinned (OpenSpec.ofChange remsetBackSpec)

/-- ITS FALSE NEIGHBOUR: 'it returns false'. Refute it at one input. -/
def remsetBackWrong : ChangeSpec := { name := "remsetBack", fn := fun _ => fun
  | [d1, d2, d3] => { results := [.lit (.bool false)], args := [d1, d2, d3] }
  | _ => none }
def RemsetBackWrongFalsely : Prop := remsetBackRow.holds Try.pinned (OpenSpec.ofChange remsetBackWrong)

/-- 'shunterlaw08.RemsetLists': WHATEVER THE INPUT: true; the input reads as it did. -/
def remsetListsSpec : ChangeSpec := { name := "remsetLists", fn := fun _ => fun
  | [d1, d2] => { results := [.lit (.bool true)], args := [d1, d2] }
  | _ => none }
def remsetListsRow : OpenClaim := { program := "yteppjefmlibmoaa", sum := "75de02ac37d0be9b89298ca17aeefd23dcac67fbceea95cab4458cf6103ec8f5", func := "shunter/shunterlaw08.RemsetLists", spec := "remsetLists", unfollowed := true, recurses := true, plainKeys := false, apart := false }
def RemsetListsSaid : Prop := remsetListsRow.holds Try.pinned (OpenSpec.ofChange remsetListsSpec)

/-- ITS FALSE NEIGHBOUR: 'it returns false'. Refute it at one input. -/
def remsetListsWrong : ChangeSpec := { name := "remsetLists", fn := fun _ => fun
  | [d1, d2] => { results := [.lit (.bool false)], args := [d1, d2] }
  | _ => none }
def RemsetListsWrongFalsely : Prop := remsetListsRow.holds Try.pinned (OpenSpec.ofChange remsetListsWrong)

/- THE SECOND FORM. 'bulk': how many values and letters a reading holds, each counted each time it is reached (what is shared counts as often as it is met; a slice's spare places count too). A statement '..UptoSaid' is the law's where the arguments, and the package variables that the reading takes, are together of bulk at most 1048576: NARROWER than '..Said'. Prove '..Said' where nothing that the law and all that it calls make is longer than what came in: it says more and counts as full. Else prove '..UptoSaid'. A law counts once. -/
mutual
def uptoBulk {H : Type} : DataW H → Nat
  | .lit (.string bytes) => bytes.length + 1
  | .lit _ => 1
  | .nil => 1
  | .ptr d => uptoBulk d + 1
  | .slice elems spare => uptoBulkAll elems + uptoBulkAll spare + 1
  | .agg parts => uptoBulkAll parts + 1
  | .iface _ d => uptoBulk d + 1
  | .map entries => uptoBulkEntries entries + 1
  | .held _ => 1
def uptoBulkAll {H : Type} : List (DataW H) → Nat
  | [] => 0
  | d :: r => uptoBulk d + uptoBulkAll r
def uptoBulkEntries {H : Type} : List (Lit × DataW H) → Nat
  | [] => 0
  | x :: r => uptoBulkEntry x + uptoBulkEntries r
def uptoBulkEntry {H : Type} : Lit × DataW H → Nat
  | (.string bytes, d) => bytes.length + uptoBulk d + 1
  | (_, d) => uptoBulk d + 1
 end
def uptoSmall : (H : Type) → List (DataW H) → Bool := fun _ ds => decide (uptoBulkAll ds ≤ 1048576)
def OpenSpec.upto (s : _root_.Go.ChangeSpec) : _root_.Go.OpenSpec := { _root_.Go.OpenSpec.ofChange s with cond := some uptoSmall }

/-- 'shunterlaw08.RemsetCars', WHERE WHAT IT READS IS OF BULK AT MOST 1048576: true; the input reads as it did. -/
def remsetCarsUptoRow : OpenClaim := { program := "yteppjefmlibmoaa", sum := "75de02ac37d0be9b89298ca17aeefd23dcac67fbceea95cab4458cf6103ec8f5", func := "shunter/shunterlaw08.RemsetCars", spec := "remsetCars", unfollowed := true, recurses := true, plainKeys := false, apart := false, narrowed := true }
def RemsetCarsUptoSaid : Prop := remsetCarsUptoRow.holds Try.pinned (OpenSpec.upto remsetCarsSpec)

/-- 'shunterlaw08.RemsetChecks', WHERE WHAT IT READS IS OF BULK AT MOST 1048576: true; the input reads as it did. -/
def remsetChecksUptoRow : OpenClaim := { program := "yteppjefmlibmoaa", sum := "75de02ac37d0be9b89298ca17aeefd23dcac67fbceea95cab4458cf6103ec8f5", func := "shunter/shunterlaw08.RemsetChecks", spec := "remsetChecks", unfollowed := true, recurses := true, plainKeys := false, apart := false, narrowed := true }
def RemsetChecksUptoSaid : Prop := remsetChecksUptoRow.holds Try.pinned (OpenSpec.upto remsetChecksSpec)

/-- 'shunterlaw08.RemsetOthers', WHERE WHAT IT READS IS OF BULK AT MOST 1048576: true; the input reads as it did. -/
def remsetOthersUptoRow : OpenClaim := { program := "yteppjefmlibmoaa", sum := "75de02ac37d0be9b89298ca17aeefd23dcac67fbceea95cab4458cf6103ec8f5", func := "shunter/shunterlaw08.RemsetOthers", spec := "remsetOthers", unfollowed := true, recurses := true, plainKeys := false, apart := false, narrowed := true }
def RemsetOthersUptoSaid : Prop := remsetOthersUptoRow.holds Try.pinned (OpenSpec.upto remsetOthersSpec)

/-- 'shunterlaw08.RemsetBarrier', WHERE WHAT IT READS IS OF BULK AT MOST 1048576: true; the input reads as it did. -/
def remsetBarrierUptoRow : OpenClaim := { program := "yteppjefmlibmoaa", sum := "75de02ac37d0be9b89298ca17aeefd23dcac67fbceea95cab4458cf6103ec8f5", func := "shunter/shunterlaw08.RemsetBarrier", spec := "remsetBarrier", unfollowed := true, recurses := true, plainKeys := false, apart := false, narrowed := true }
def RemsetBarrierUptoSaid : Prop := remsetBarrierUptoRow.holds Try.pinned (OpenSpec.upto remsetBarrierSpec)

/-- 'shunterlaw08.RemsetBack', WHERE WHAT IT READS IS OF BULK AT MOST 1048576: true; the input reads as it did. -/
def remsetBackUptoRow : OpenClaim := { program := "yteppjefmlibmoaa", sum := "75de02ac37d0be9b89298ca17aeefd23dcac67fbceea95cab4458cf6103ec8f5", func := "shunter/shunterlaw08.RemsetBack", spec := "remsetBack", unfollowed := true, recurses := true, plainKeys := false, apart := false, narrowed := true }
def RemsetBackUptoSaid : Prop := remsetBackUptoRow.holds Try.pinned (OpenSpec.upto remsetBackSpec)

/-- 'shunterlaw08.RemsetLists', WHERE WHAT IT READS IS OF BULK AT MOST 1048576: true; the input reads as it did. -/
def remsetListsUptoRow : OpenClaim := { program := "yteppjefmlibmoaa", sum := "75de02ac37d0be9b89298ca17aeefd23dcac67fbceea95cab4458cf6103ec8f5", func := "shunter/shunterlaw08.RemsetLists", spec := "remsetLists", unfollowed := true, recurses := true, plainKeys := false, apart := false, narrowed := true }
def RemsetListsUptoSaid : Prop := remsetListsUptoRow.holds Try.pinned (OpenSpec.upto remsetListsSpec)

end Rows
end Go.Proofs.Yteppjefmlibmoaa
