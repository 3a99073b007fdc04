/-
  No cell of these rows narrows 'for every input' (looked for: loops, veiled, ifaces, maps, wideKeys, modest, calm, conditions, laid).
  DERIVED. THE GIVEN ROWS OF THIS SEAT. 8 by the template 'for every input the law returns true; each argument reads behind the call as it read before'; 0 by the template 'total and deterministic' (their statements: YtoandfgkkmfobaaTotals.lean).
  GIVEN WITH THE SEED: the statements are not yours to turn. If you find one false, say at which input.
  Laid BY PROGRAM, IN A SANDBOX (cutbox-rows.mjs): the forced cells as the released guide's own fill.sh prints them over the translation a9cfff83401858ae… (all of the seat's roots in one cut). By AI agents, Wed Nov 11 2026. No macro, syntax, notation, axiom, sorry.
-/
import Derived.Test.YtoandfgkkmfobaaChecked
import GoSem.Claim
import GoSem.ClaimJoined
import GoSem.ClaimMapViews
import Derived.JoinedTies
import Derived.KernelRfl
namespace Go.Proofs.Ytoandfgkkmfobaa
/- THE CELL 'sum', in the pinned program and in every row, IS THE sha256 OF THE DUMP (.gsa) THAT YtoandfgkkmfobaaProg.lean LOADS. Nothing in Lean hashes anything: it is a label: what it is worth is what the hold of that sum in a sandbox is worth. -/
noncomputable def Try.pinned : Pinned := { name := "ytoandfgkkmfobaa", sum := "a9cfff83401858ae41ab6c5c3bac5ee6626b4a9c72a24d6c5c3f38e9518d1930", checked := Try.checked }
namespace Rows
def none {H : Type} : Left H := { results := [], args := [] }

/-- 'shunterlaw07.SlotsAdds': WHATEVER THE INPUT: true; the input reads as it did. -/
def slotsAddsSpec : ChangeSpec := { name := "slotsAdds", fn := fun _ => fun
  | [d1, d2] => { results := [.lit (.bool true)], args := [d1, d2] }
  | _ => none }
def slotsAddsRow : OpenClaim := { program := "ytoandfgkkmfobaa", sum := "a9cfff83401858ae41ab6c5c3bac5ee6626b4a9c72a24d6c5c3f38e9518d1930", func := "shunter/shunterlaw07.SlotsAdds", spec := "slotsAdds", unfollowed := true, recurses := true, apart := false }
def SlotsAddsSaid : Prop := slotsAddsRow.holds Try.pinned (OpenSpec.ofChange slotsAddsSpec)

/-- ITS FALSE NEIGHBOUR: 'it returns false'. Refute it at one input. -/
def slotsAddsWrong : ChangeSpec := { name := "slotsAdds", fn := fun _ => fun
  | [d1, d2] => { results := [.lit (.bool false)], args := [d1, d2] }
  | _ => none }
def SlotsAddsWrongFalsely : Prop := slotsAddsRow.holds Try.pinned (OpenSpec.ofChange slotsAddsWrong)

/-- 'shunterlaw07.SlotsMakes': WHATEVER THE INPUT: true; the input reads as it did. -/
def slotsMakesSpec : ChangeSpec := { name := "slotsMakes", fn := fun _ => fun
  | [d1, d2, d3] => { results := [.lit (.bool true)], args := [d1, d2, d3] }
  | _ => none }
def slotsMakesRow : OpenClaim := { program := "ytoandfgkkmfobaa", sum := "a9cfff83401858ae41ab6c5c3bac5ee6626b4a9c72a24d6c5c3f38e9518d1930", func := "shunter/shunterlaw07.SlotsMakes", spec := "slotsMakes", unfollowed := true, recurses := true, apart := false }
def SlotsMakesSaid : Prop := slotsMakesRow.holds Try.pinned (OpenSpec.ofChange slotsMakesSpec)

/-- ITS FALSE NEIGHBOUR: 'it returns false'. Refute it at one input. -/
def slotsMakesWrong : ChangeSpec := { name := "slotsMakes", fn := fun _ => fun
  | [d1, d2, d3] => { results := [.lit (.bool false)], args := [d1, d2, d3] }
  | _ => none }
def SlotsMakesWrongFalsely : Prop := slotsMakesRow.holds Try.pinned (OpenSpec.ofChange slotsMakesWrong)

/-- 'shunterlaw07.SlotsPurges': WHATEVER THE INPUT: true; the input reads as it did. -/
def slotsPurgesSpec : ChangeSpec := { name := "slotsPurges", fn := fun _ => fun
  | [d1, d2, d3] => { results := [.lit (.bool true)], args := [d1, d2, d3] }
  | _ => none }
def slotsPurgesRow : OpenClaim := { program := "ytoandfgkkmfobaa", sum := "a9cfff83401858ae41ab6c5c3bac5ee6626b4a9c72a24d6c5c3f38e9518d1930", func := "shunter/shunterlaw07.SlotsPurges", spec := "slotsPurges", unfollowed := true, recurses := true, apart := false }
def SlotsPurgesSaid : Prop := slotsPurgesRow.holds Try.pinned (OpenSpec.ofChange slotsPurgesSpec)

/-- ITS FALSE NEIGHBOUR: 'it returns false'. Refute it at one input. -/
def slotsPurgesWrong : ChangeSpec := { name := "slotsPurges", fn := fun _ => fun
  | [d1, d2, d3] => { results := [.lit (.bool false)], args := [d1, d2, d3] }
  | _ => none }
def SlotsPurgesWrongFalsely : Prop := slotsPurgesRow.holds Try.pinned (OpenSpec.ofChange slotsPurgesWrong)

/-- 'shunterlaw07.SlotsChecks': WHATEVER THE INPUT: true; the input reads as it did. -/
def slotsChecksSpec : ChangeSpec := { name := "slotsChecks", fn := fun _ => fun
  | [d1, d2, d3] => { results := [.lit (.bool true)], args := [d1, d2, d3] }
  | _ => none }
def slotsChecksRow : OpenClaim := { program := "ytoandfgkkmfobaa", sum := "a9cfff83401858ae41ab6c5c3bac5ee6626b4a9c72a24d6c5c3f38e9518d1930", func := "shunter/shunterlaw07.SlotsChecks", spec := "slotsChecks", unfollowed := true, recurses := true, apart := false }
def SlotsChecksSaid : Prop := slotsChecksRow.holds Try.pinned (OpenSpec.ofChange slotsChecksSpec)

/-- ITS FALSE NEIGHBOUR: 'it returns false'. Refute it at one input. -/
def slotsChecksWrong : ChangeSpec := { name := "slotsChecks", fn := fun _ => fun
  | [d1, d2, d3] => { results := [.lit (.bool false)], args := [d1, d2, d3] }
  | _ => none }
def SlotsChecksWrongFalsely : Prop := slotsChecksRow.holds Try.pinned (OpenSpec.ofChange slotsChecksWrong)

/-- 'shunterlaw07.SlotsSets': WHATEVER THE INPUT: true; the input reads as it did. -/
def slotsSetsSpec : ChangeSpec := { name := "slotsSets", fn := fun _ => fun
  | [d] => { results := [.lit (.bool true)], args := [d] }
  | _ => none }
def slotsSetsRow : OpenClaim := { program := "ytoandfgkkmfobaa", sum := "a9cfff83401858ae41ab6c5c3bac5ee6626b4a9c72a24d6c5c3f38e9518d1930", func := "shunter/shunterlaw07.SlotsSets", spec := "slotsSets", unfollowed := true, recurses := true, apart := false }
def SlotsSetsSaid : Prop := slotsSetsRow.holds Try.pinned (OpenSpec.ofChange slotsSetsSpec)

/-- ITS FALSE NEIGHBOUR: 'it returns false'. Refute it at one input. -/
def slotsSetsWrong : ChangeSpec := { name := "slotsSets", fn := fun _ => fun
  | [d] => { results := [.lit (.bool false)], args := [d] }
  | _ => none }
def SlotsSetsWrongFalsely : Prop := slotsSetsRow.holds Try.pinned (OpenSpec.ofChange slotsSetsWrong)

/-- 'shunterlaw07.SlotsOwn': WHATEVER THE INPUT: true; the input reads as it did. -/
def slotsOwnSpec : ChangeSpec := { name := "slotsOwn", fn := fun _ => fun
  | [d1, d2] => { results := [.lit (.bool true)], args := [d1, d2] }
  | _ => none }
def slotsOwnRow : OpenClaim := { program := "ytoandfgkkmfobaa", sum := "a9cfff83401858ae41ab6c5c3bac5ee6626b4a9c72a24d6c5c3f38e9518d1930", func := "shunter/shunterlaw07.SlotsOwn", spec := "slotsOwn", unfollowed := true, recurses := true, apart := false }
def SlotsOwnSaid : Prop := slotsOwnRow.holds Try.pinned (OpenSpec.ofChange slotsOwnSpec)

/-- ITS FALSE NEIGHBOUR: 'it returns false'. Refute it at one input. -/
def slotsOwnWrong : ChangeSpec := { name := "slotsOwn", fn := fun _ => fun
  | [d1, d2] => { results := [.lit (.bool false)], args := [d1, d2] }
  | _ => none }
def SlotsOwnWrongFalsely : Prop := slotsOwnRow.holds Try.pinned (OpenSpec.ofChange slotsOwnWrong)

/-- 'shunterlaw07.SlotsGood': WHATEVER THE INPUT: true; the input reads as it did. -/
def slotsGoodSpec : ChangeSpec := { name := "slotsGood", fn := fun _ => fun
  | [d1, d2, d3] => { results := [.lit (.bool true)], args := [d1, d2, d3] }
  | _ => none }
def slotsGoodRow : OpenClaim := { program := "ytoandfgkkmfobaa", sum := "a9cfff83401858ae41ab6c5c3bac5ee6626b4a9c72a24d6c5c3f38e9518d1930", func := "shunter/shunterlaw07.SlotsGood", spec := "slotsGood", unfollowed := true, recurses := true, apart := false }
def SlotsGoodSaid : Prop := slotsGoodRow.holds Try.pinned (OpenSpec.ofChange slotsGoodSpec)

/-- ITS FALSE NEIGHBOUR: 'it returns false'. Refute it at one input. -/
def slotsGoodWrong : ChangeSpec := { name := "slotsGood", fn := fun _ => fun
  | [d1, d2, d3] => { results := [.lit (.bool false)], args := [d1, d2, d3] }
  | _ => none }
def SlotsGoodWrongFalsely : Prop := slotsGoodRow.holds Try.pinned (OpenSpec.ofChange slotsGoodWrong)

/-- 'shunterlaw07.SlotsOrders': WHATEVER THE INPUT: true; the input reads as it did. -/
def slotsOrdersSpec : ChangeSpec := { name := "slotsOrders", fn := fun _ => fun
  | [d1, d2, d3] => { results := [.lit (.bool true)], args := [d1, d2, d3] }
  | _ => none }
def slotsOrdersRow : OpenClaim := { program := "ytoandfgkkmfobaa", sum := "a9cfff83401858ae41ab6c5c3bac5ee6626b4a9c72a24d6c5c3f38e9518d1930", func := "shunter/shunterlaw07.SlotsOrders", spec := "slotsOrders", unfollowed := true, recurses := true, apart := false }
def SlotsOrdersSaid : Prop := slotsOrdersRow.holds Try.pinned (OpenSpec.ofChange slotsOrdersSpec)

/-- ITS FALSE NEIGHBOUR: 'it returns false'. Refute it at one input. -/
def slotsOrdersWrong : ChangeSpec := { name := "slotsOrders", fn := fun _ => fun
  | [d1, d2, d3] => { results := [.lit (.bool false)], args := [d1, d2, d3] }
  | _ => none }
def SlotsOrdersWrongFalsely : Prop := slotsOrdersRow.holds Try.pinned (OpenSpec.ofChange slotsOrdersWrong)

/- THE SECOND FORM. 'bulk': how many values and letters a reading holds, each counted each time it is reached (what is shared counts as often as it is met; a slice's spare places count too). A statement '..UptoSaid' is the law's where the arguments, and the package variables that the reading takes, are together of bulk at most 1048576: NARROWER than '..Said'. Prove '..Said' where nothing that the law and all that it calls make is longer than what came in: it says more and counts as full. Else prove '..UptoSaid'. A law counts once. -/
mutual
def uptoBulk {H : Type} : DataW H → Nat
  | .lit (.string bytes) => bytes.length + 1
  | .lit _ => 1
  | .nil => 1
  | .ptr d => uptoBulk d + 1
  | .slice elems spare => uptoBulkAll elems + uptoBulkAll spare + 1
  | .agg parts => uptoBulkAll parts + 1
  | .iface _ d => uptoBulk d + 1
  | .map entries => uptoBulkEntries entries + 1
  | .held _ => 1
def uptoBulkAll {H : Type} : List (DataW H) → Nat
  | [] => 0
  | d :: r => uptoBulk d + uptoBulkAll r
def uptoBulkEntries {H : Type} : List (Lit × DataW H) → Nat
  | [] => 0
  | x :: r => uptoBulkEntry x + uptoBulkEntries r
def uptoBulkEntry {H : Type} : Lit × DataW H → Nat
  | (.string bytes, d) => bytes.length + uptoBulk d + 1
  | (_, d) => uptoBulk d + 1
 end
def uptoSmall : (H : Type) → List (DataW H) → Bool := fun _ ds => decide (uptoBulkAll ds ≤ 1048576)
def OpenSpec.upto (s : _root_.Go.ChangeSpec) : _root_.Go.OpenSpec := { _root_.Go.OpenSpec.ofChange s with cond := some uptoSmall }

/-- 'shunterlaw07.SlotsAdds', WHERE WHAT IT READS IS OF BULK AT MOST 1048576: true; the input reads as it did. -/
def slotsAddsUptoRow : OpenClaim := { program := "ytoandfgkkmfobaa", sum := "a9cfff83401858ae41ab6c5c3bac5ee6626b4a9c72a24d6c5c3f38e9518d1930", func := "shunter/shunterlaw07.SlotsAdds", spec := "slotsAdds", unfollowed := true, recurses := true, apart := false, narrowed := true }
def SlotsAddsUptoSaid : Prop := slotsAddsUptoRow.holds Try.pinned (OpenSpec.upto slotsAddsSpec)

/-- 'shunterlaw07.SlotsMakes', WHERE WHAT IT READS IS OF BULK AT MOST 1048576: true; the input reads as it did. -/
def slotsMakesUptoRow : OpenClaim := { program := "ytoandfgkkmfobaa", sum := "a9cfff83401858ae41ab6c5c3bac5ee6626b4a9c72a24d6c5c3f38e9518d1930", func := "shunter/shunterlaw07.SlotsMakes", spec := "slotsMakes", unfollowed := true, recurses := true, apart := false, narrowed := true }
def SlotsMakesUptoSaid : Prop := slotsMakesUptoRow.holds Try.pinned (OpenSpec.upto slotsMakesSpec)

/-- 'shunterlaw07.SlotsPurges', WHERE WHAT IT READS IS OF BULK AT MOST 1048576: true; the input reads as it did. -/
def slotsPurgesUptoRow : OpenClaim := { program := "ytoandfgkkmfobaa", sum := "a9cfff83401858ae41ab6c5c3bac5ee6626b4a9c72a24d6c5c3f38e9518d1930", func := "shunter/shunterlaw07.SlotsPurges", spec := "slotsPurges", unfollowed := true, recurses := true, apart := false, narrowed := true }
def SlotsPurgesUptoSaid : Prop := slotsPurgesUptoRow.holds Try.pinned (OpenSpec.upto slotsPurgesSpec)

/-- 'shunterlaw07.SlotsChecks', WHERE WHAT IT READS IS OF BULK AT MOST 1048576: true; the input reads as it did. -/
def slotsChecksUptoRow : OpenClaim := { program := "ytoandfgkkmfobaa", sum := "a9cfff83401858ae41ab6c5c3bac5ee6626b4a9c72a24d6c5c3f38e9518d1930", func := "shunter/shunterlaw07.SlotsChecks", spec := "slotsChecks", unfollowed := true, recurses := true, apart := false, narrowed := true }
def SlotsChecksUptoSaid : Prop := slotsChecksUptoRow.holds Try.pinned (OpenSpec.upto slotsChecksSpec)

/-- 'shunterlaw07.SlotsSets', WHERE WHAT IT READS IS OF BULK AT MOST 1048576: true; the input reads as it did. -/
def slotsSetsUptoRow : OpenClaim := { program := "ytoandfgkkmfobaa", sum := "a9cfff83401858ae41ab6c5c3bac5ee6626b4a9c72a24d6c5c3f38e9518d1930", func := "shunter/shunterlaw07.SlotsSets", spec := "slotsSets", unfollowed := true, recurses := true, apart := false, narrowed := true }
def SlotsSetsUptoSaid : Prop := slotsSetsUptoRow.holds Try.pinned (OpenSpec.upto slotsSetsSpec)

/-- 'shunterlaw07.SlotsOwn', WHERE WHAT IT READS IS OF BULK AT MOST 1048576: true; the input reads as it did. -/
def slotsOwnUptoRow : OpenClaim := { program := "ytoandfgkkmfobaa", sum := "a9cfff83401858ae41ab6c5c3bac5ee6626b4a9c72a24d6c5c3f38e9518d1930", func := "shunter/shunterlaw07.SlotsOwn", spec := "slotsOwn", unfollowed := true, recurses := true, apart := false, narrowed := true }
def SlotsOwnUptoSaid : Prop := slotsOwnUptoRow.holds Try.pinned (OpenSpec.upto slotsOwnSpec)

/-- 'shunterlaw07.SlotsGood', WHERE WHAT IT READS IS OF BULK AT MOST 1048576: true; the input reads as it did. -/
def slotsGoodUptoRow : OpenClaim := { program := "ytoandfgkkmfobaa", sum := "a9cfff83401858ae41ab6c5c3bac5ee6626b4a9c72a24d6c5c3f38e9518d1930", func := "shunter/shunterlaw07.SlotsGood", spec := "slotsGood", unfollowed := true, recurses := true, apart := false, narrowed := true }
def SlotsGoodUptoSaid : Prop := slotsGoodUptoRow.holds Try.pinned (OpenSpec.upto slotsGoodSpec)

/-- 'shunterlaw07.SlotsOrders', WHERE WHAT IT READS IS OF BULK AT MOST 1048576: true; the input reads as it did. -/
def slotsOrdersUptoRow : OpenClaim := { program := "ytoandfgkkmfobaa", sum := "a9cfff83401858ae41ab6c5c3bac5ee6626b4a9c72a24d6c5c3f38e9518d1930", func := "shunter/shunterlaw07.SlotsOrders", spec := "slotsOrders", unfollowed := true, recurses := true, apart := false, narrowed := true }
def SlotsOrdersUptoSaid : Prop := slotsOrdersUptoRow.holds Try.pinned (OpenSpec.upto slotsOrdersSpec)

end Rows
end Go.Proofs.Ytoandfgkkmfobaa
