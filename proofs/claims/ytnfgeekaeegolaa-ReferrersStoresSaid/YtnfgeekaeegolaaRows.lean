/-
  No cell of these rows narrows 'for every input' (looked for: loops, veiled, ifaces, maps, wideKeys, modest, calm, conditions, laid).
  DERIVED. THE GIVEN ROWS OF THIS SEAT. 8 by the template 'for every input the law returns true; each argument reads behind the call as it read before'; 0 by the template 'total and deterministic' (their statements: YtnfgeekaeegolaaTotals.lean).
  GIVEN WITH THE SEED: the statements are not yours to turn. If you find one false, say at which input.
  Laid BY PROGRAM, IN A SANDBOX (cutbox-rows.mjs): the forced cells as the released guide's own fill.sh prints them over the translation ba854dfcfb444710… (all of the seat's roots in one cut). By AI agents, Wed Nov 11 2026. No macro, syntax, notation, axiom, sorry.
-/
import Derived.Test.YtnfgeekaeegolaaChecked
import GoSem.Claim
import GoSem.ClaimJoined
import GoSem.ClaimMapViews
import Derived.JoinedTies
import Derived.KernelRfl
namespace Go.Proofs.Ytnfgeekaeegolaa
/- THE CELL 'sum', in the pinned program and in every row, IS THE sha256 OF THE DUMP (.gsa) THAT YtnfgeekaeegolaaProg.lean LOADS. Nothing in Lean hashes anything: it is a label: what it is worth is what the hold of that sum in a sandbox is worth. -/
noncomputable def Try.pinned : Pinned := { name := "ytnfgeekaeegolaa", sum := "ba854dfcfb444710c2304622189d5f3ab1f07a64848e830ccc39bf8fe35be713", checked := Try.checked }
namespace Rows
def none {H : Type} : Left H := { results := [], args := [] }

/-- 'shunterlaw09.ReferrersCounts': WHATEVER THE INPUT: true; the input reads as it did. -/
def referrersCountsSpec : ChangeSpec := { name := "referrersCounts", fn := fun _ => fun
  | [d1, d2, d3] => { results := [.lit (.bool true)], args := [d1, d2, d3] }
  | _ => none }
def referrersCountsRow : OpenClaim := { program := "ytnfgeekaeegolaa", sum := "ba854dfcfb444710c2304622189d5f3ab1f07a64848e830ccc39bf8fe35be713", func := "shunter/shunterlaw09.ReferrersCounts", spec := "referrersCounts", unfollowed := true, recurses := true, apart := false }
def ReferrersCountsSaid : Prop := referrersCountsRow.holds Try.pinned (OpenSpec.ofChange referrersCountsSpec)

/-- ITS FALSE NEIGHBOUR: 'it returns false'. Refute it at one input. -/
def referrersCountsWrong : ChangeSpec := { name := "referrersCounts", fn := fun _ => fun
  | [d1, d2, d3] => { results := [.lit (.bool false)], args := [d1, d2, d3] }
  | _ => none }
def ReferrersCountsWrongFalsely : Prop := referrersCountsRow.holds Try.pinned (OpenSpec.ofChange referrersCountsWrong)

/-- 'shunterlaw09.ReferrersSums': WHATEVER THE INPUT: true; the input reads as it did. -/
def referrersSumsSpec : ChangeSpec := { name := "referrersSums", fn := fun _ => fun
  | [d1, d2] => { results := [.lit (.bool true)], args := [d1, d2] }
  | _ => none }
def referrersSumsRow : OpenClaim := { program := "ytnfgeekaeegolaa", sum := "ba854dfcfb444710c2304622189d5f3ab1f07a64848e830ccc39bf8fe35be713", func := "shunter/shunterlaw09.ReferrersSums", spec := "referrersSums", unfollowed := true, recurses := true, apart := false }
def ReferrersSumsSaid : Prop := referrersSumsRow.holds Try.pinned (OpenSpec.ofChange referrersSumsSpec)

/-- ITS FALSE NEIGHBOUR: 'it returns false'. Refute it at one input. -/
def referrersSumsWrong : ChangeSpec := { name := "referrersSums", fn := fun _ => fun
  | [d1, d2] => { results := [.lit (.bool false)], args := [d1, d2] }
  | _ => none }
def ReferrersSumsWrongFalsely : Prop := referrersSumsRow.holds Try.pinned (OpenSpec.ofChange referrersSumsWrong)

/-- 'shunterlaw09.ReferrersStores': WHATEVER THE INPUT: true; the input reads as it did. -/
def referrersStoresSpec : ChangeSpec := { name := "referrersStores", fn := fun _ => fun
  | [d1, d2, d3] => { results := [.lit (.bool true)], args := [d1, d2, d3] }
  | _ => none }
def referrersStoresRow : OpenClaim := { program := "ytnfgeekaeegolaa", sum := "ba854dfcfb444710c2304622189d5f3ab1f07a64848e830ccc39bf8fe35be713", func := "shunter/shunterlaw09.ReferrersStores", spec := "referrersStores", unfollowed := true, recurses := true, apart := false }
def ReferrersStoresSaid : Prop := referrersStoresRow.holds Try.pinned (OpenSpec.ofChange referrersStoresSpec)

/-- ITS FALSE NEIGHBOUR: 'it returns false'. Refute it at one input. -/
def referrersStoresWrong : ChangeSpec := { name := "referrersStores", fn := fun _ => fun
  | [d1, d2, d3] => { results := [.lit (.bool false)], args := [d1, d2, d3] }
  | _ => none }
def ReferrersStoresWrongFalsely : Prop := referrersStoresRow.holds Try.pinned (OpenSpec.ofChange referrersStoresWrong)

/-- 'shunterlaw09.ReferrersPopular': WHATEVER THE INPUT: true; the input reads as it did. -/
def referrersPopularSpec : ChangeSpec := { name := "referrersPopular", fn := fun _ => fun
  | [d1, d2, d3] => { results := [.lit (.bool true)], args := [d1, d2, d3] }
  | _ => none }
def referrersPopularRow : OpenClaim := { program := "ytnfgeekaeegolaa", sum := "ba854dfcfb444710c2304622189d5f3ab1f07a64848e830ccc39bf8fe35be713", func := "shunter/shunterlaw09.ReferrersPopular", spec := "referrersPopular", unfollowed := true, recurses := true, apart := false }
def ReferrersPopularSaid : Prop := referrersPopularRow.holds Try.pinned (OpenSpec.ofChange referrersPopularSpec)

/-- ITS FALSE NEIGHBOUR: 'it returns false'. Refute it at one input. -/
def referrersPopularWrong : ChangeSpec := { name := "referrersPopular", fn := fun _ => fun
  | [d1, d2, d3] => { results := [.lit (.bool false)], args := [d1, d2, d3] }
  | _ => none }
def ReferrersPopularWrongFalsely : Prop := referrersPopularRow.holds Try.pinned (OpenSpec.ofChange referrersPopularWrong)

/-- 'shunterlaw09.ReferrersLists': WHATEVER THE INPUT: true; the input reads as it did. -/
def referrersListsSpec : ChangeSpec := { name := "referrersLists", fn := fun _ => fun
  | [d1, d2] => { results := [.lit (.bool true)], args := [d1, d2] }
  | _ => none }
def referrersListsRow : OpenClaim := { program := "ytnfgeekaeegolaa", sum := "ba854dfcfb444710c2304622189d5f3ab1f07a64848e830ccc39bf8fe35be713", func := "shunter/shunterlaw09.ReferrersLists", spec := "referrersLists", unfollowed := true, recurses := true, apart := false }
def ReferrersListsSaid : Prop := referrersListsRow.holds Try.pinned (OpenSpec.ofChange referrersListsSpec)

/-- ITS FALSE NEIGHBOUR: 'it returns false'. Refute it at one input. -/
def referrersListsWrong : ChangeSpec := { name := "referrersLists", fn := fun _ => fun
  | [d1, d2] => { results := [.lit (.bool false)], args := [d1, d2] }
  | _ => none }
def ReferrersListsWrongFalsely : Prop := referrersListsRow.holds Try.pinned (OpenSpec.ofChange referrersListsWrong)

/-- 'shunterlaw09.ReferrersMerges': WHATEVER THE INPUT: true; the input reads as it did. -/
def referrersMergesSpec : ChangeSpec := { name := "referrersMerges", fn := fun _ => fun
  | [d1, d2] => { results := [.lit (.bool true)], args := [d1, d2] }
  | _ => none }
def referrersMergesRow : OpenClaim := { program := "ytnfgeekaeegolaa", sum := "ba854dfcfb444710c2304622189d5f3ab1f07a64848e830ccc39bf8fe35be713", func := "shunter/shunterlaw09.ReferrersMerges", spec := "referrersMerges", unfollowed := true, recurses := true, apart := false }
def ReferrersMergesSaid : Prop := referrersMergesRow.holds Try.pinned (OpenSpec.ofChange referrersMergesSpec)

/-- ITS FALSE NEIGHBOUR: 'it returns false'. Refute it at one input. -/
def referrersMergesWrong : ChangeSpec := { name := "referrersMerges", fn := fun _ => fun
  | [d1, d2] => { results := [.lit (.bool false)], args := [d1, d2] }
  | _ => none }
def ReferrersMergesWrongFalsely : Prop := referrersMergesRow.holds Try.pinned (OpenSpec.ofChange referrersMergesWrong)

/-- 'shunterlaw09.ReferrersParts': WHATEVER THE INPUT: true; the input reads as it did. -/
def referrersPartsSpec : ChangeSpec := { name := "referrersParts", fn := fun _ => fun
  | [d1, d2, d3] => { results := [.lit (.bool true)], args := [d1, d2, d3] }
  | _ => none }
def referrersPartsRow : OpenClaim := { program := "ytnfgeekaeegolaa", sum := "ba854dfcfb444710c2304622189d5f3ab1f07a64848e830ccc39bf8fe35be713", func := "shunter/shunterlaw09.ReferrersParts", spec := "referrersParts", unfollowed := true, recurses := true, apart := false }
def ReferrersPartsSaid : Prop := referrersPartsRow.holds Try.pinned (OpenSpec.ofChange referrersPartsSpec)

/-- ITS FALSE NEIGHBOUR: 'it returns false'. Refute it at one input. -/
def referrersPartsWrong : ChangeSpec := { name := "referrersParts", fn := fun _ => fun
  | [d1, d2, d3] => { results := [.lit (.bool false)], args := [d1, d2, d3] }
  | _ => none }
def ReferrersPartsWrongFalsely : Prop := referrersPartsRow.holds Try.pinned (OpenSpec.ofChange referrersPartsWrong)

/-- 'shunterlaw09.ReferrersWithin': WHATEVER THE INPUT: true; the input reads as it did. -/
def referrersWithinSpec : ChangeSpec := { name := "referrersWithin", fn := fun _ => fun
  | [d1, d2] => { results := [.lit (.bool true)], args := [d1, d2] }
  | _ => none }
def referrersWithinRow : OpenClaim := { program := "ytnfgeekaeegolaa", sum := "ba854dfcfb444710c2304622189d5f3ab1f07a64848e830ccc39bf8fe35be713", func := "shunter/shunterlaw09.ReferrersWithin", spec := "referrersWithin", unfollowed := true, recurses := true, apart := false }
def ReferrersWithinSaid : Prop := referrersWithinRow.holds Try.pinned (OpenSpec.ofChange referrersWithinSpec)

/-- ITS FALSE NEIGHBOUR: 'it returns false'. Refute it at one input. -/
def referrersWithinWrong : ChangeSpec := { name := "referrersWithin", fn := fun _ => fun
  | [d1, d2] => { results := [.lit (.bool false)], args := [d1, d2] }
  | _ => none }
def ReferrersWithinWrongFalsely : Prop := referrersWithinRow.holds Try.pinned (OpenSpec.ofChange referrersWithinWrong)

/- THE SECOND FORM. 'bulk': how many values and letters a reading holds, each counted each time it is reached (what is shared counts as often as it is met; a slice's spare places count too). A statement '..UptoSaid' is the law's where the arguments, and the package variables that the reading takes, are together of bulk at most 1048576: NARROWER than '..Said'. Prove '..Said' where nothing that the law and all that it calls make is longer than what came in: it says more and counts as full. Else prove '..UptoSaid'. A law counts once. -/
mutual
def uptoBulk {H : Type} : DataW H → Nat
  | .lit (.string bytes) => bytes.length + 1
  | .lit _ => 1
  | .nil => 1
  | .ptr d => uptoBulk d + 1
  | .slice elems spare => uptoBulkAll elems + uptoBulkAll spare + 1
  | .agg parts => uptoBulkAll parts + 1
  | .iface _ d => uptoBulk d + 1
  | .map entries => uptoBulkEntries entries + 1
  | .held _ => 1
def uptoBulkAll {H : Type} : List (DataW H) → Nat
  | [] => 0
  | d :: r => uptoBulk d + uptoBulkAll r
def uptoBulkEntries {H : Type} : List (Lit × DataW H) → Nat
  | [] => 0
  | x :: r => uptoBulkEntry x + uptoBulkEntries r
def uptoBulkEntry {H : Type} : Lit × DataW H → Nat
  | (.string bytes, d) => bytes.length + uptoBulk d + 1
  | (_, d) => uptoBulk d + 1
 end
def uptoSmall : (H : Type) → List (DataW H) → Bool := fun _ ds => decide (uptoBulkAll ds ≤ 1048576)
def OpenSpec.upto (s : _root_.Go.ChangeSpec) : _root_.Go.OpenSpec := { _root_.Go.OpenSpec.ofChange s with cond := some uptoSmall }

/-- 'shunterlaw09.ReferrersCounts', WHERE WHAT IT READS IS OF BULK AT MOST 1048576: true; the input reads as it did. -/
def referrersCountsUptoRow : OpenClaim := { program := "ytnfgeekaeegolaa", sum := "ba854dfcfb444710c2304622189d5f3ab1f07a64848e830ccc39bf8fe35be713", func := "shunter/shunterlaw09.ReferrersCounts", spec := "referrersCounts", unfollowed := true, recurses := true, apart := false, narrowed := true }
def ReferrersCountsUptoSaid : Prop := referrersCountsUptoRow.holds Try.pinned (OpenSpec.upto referrersCountsSpec)

/-- 'shunterlaw09.ReferrersSums', WHERE WHAT IT READS IS OF BULK AT MOST 1048576: true; the input reads as it did. -/
def referrersSumsUptoRow : OpenClaim := { program := "ytnfgeekaeegolaa", sum := "ba854dfcfb444710c2304622189d5f3ab1f07a64848e830ccc39bf8fe35be713", func := "shunter/shunterlaw09.ReferrersSums", spec := "referrersSums", unfollowed := true, recurses := true, apart := false, narrowed := true }
def ReferrersSumsUptoSaid : Prop := referrersSumsUptoRow.holds Try.pinned (OpenSpec.upto referrersSumsSpec)

/-- 'shunterlaw09.ReferrersStores', WHERE WHAT IT READS IS OF BULK AT MOST 1048576: true; the input reads as it did. -/
def referrersStoresUptoRow : OpenClaim := { program := "ytnfgeekaeegolaa", sum := "ba854dfcfb444710c2304622189d5f3ab1f07a64848e830ccc39bf8fe35be713", func := "shunter/shunterlaw09.ReferrersStores", spec := "referrersStores", unfollowed := true, recurses := true, apart := false, narrowed := true }
def ReferrersStoresUptoSaid : Prop := referrersStoresUptoRow.holds Try.pinned (OpenSpec.upto referrersStoresSpec)

/-- 'shunterlaw09.ReferrersPopular', WHERE WHAT IT READS IS OF BULK AT MOST 1048576: true; the input reads as it did. -/
def referrersPopularUptoRow : OpenClaim := { program := "ytnfgeekaeegolaa", sum := "ba854dfcfb444710c2304622189d5f3ab1f07a64848e830ccc39bf8fe35be713", func := "shunter/shunterlaw09.ReferrersPopular", spec := "referrersPopular", unfollowed := true, recurses := true, apart := false, narrowed := true }
def ReferrersPopularUptoSaid : Prop := referrersPopularUptoRow.holds Try.pinned (OpenSpec.upto referrersPopularSpec)

/-- 'shunterlaw09.ReferrersLists', WHERE WHAT IT READS IS OF BULK AT MOST 1048576: true; the input reads as it did. -/
def referrersListsUptoRow : OpenClaim := { program := "ytnfgeekaeegolaa", sum := "ba854dfcfb444710c2304622189d5f3ab1f07a64848e830ccc39bf8fe35be713", func := "shunter/shunterlaw09.ReferrersLists", spec := "referrersLists", unfollowed := true, recurses := true, apart := false, narrowed := true }
def ReferrersListsUptoSaid : Prop := referrersListsUptoRow.holds Try.pinned (OpenSpec.upto referrersListsSpec)

/-- 'shunterlaw09.ReferrersMerges', WHERE WHAT IT READS IS OF BULK AT MOST 1048576: true; the input reads as it did. -/
def referrersMergesUptoRow : OpenClaim := { program := "ytnfgeekaeegolaa", sum := "ba854dfcfb444710c2304622189d5f3ab1f07a64848e830ccc39bf8fe35be713", func := "shunter/shunterlaw09.ReferrersMerges", spec := "referrersMerges", unfollowed := true, recurses := true, apart := false, narrowed := true }
def ReferrersMergesUptoSaid : Prop := referrersMergesUptoRow.holds Try.pinned (OpenSpec.upto referrersMergesSpec)

/-- 'shunterlaw09.ReferrersParts', WHERE WHAT IT READS IS OF BULK AT MOST 1048576: true; the input reads as it did. -/
def referrersPartsUptoRow : OpenClaim := { program := "ytnfgeekaeegolaa", sum := "ba854dfcfb444710c2304622189d5f3ab1f07a64848e830ccc39bf8fe35be713", func := "shunter/shunterlaw09.ReferrersParts", spec := "referrersParts", unfollowed := true, recurses := true, apart := false, narrowed := true }
def ReferrersPartsUptoSaid : Prop := referrersPartsUptoRow.holds Try.pinned (OpenSpec.upto referrersPartsSpec)

/-- 'shunterlaw09.ReferrersWithin', WHERE WHAT IT READS IS OF BULK AT MOST 1048576: true; the input reads as it did. -/
def referrersWithinUptoRow : OpenClaim := { program := "ytnfgeekaeegolaa", sum := "ba854dfcfb444710c2304622189d5f3ab1f07a64848e830ccc39bf8fe35be713", func := "shunter/shunterlaw09.ReferrersWithin", spec := "referrersWithin", unfollowed := true, recurses := true, apart := false, narrowed := true }
def ReferrersWithinUptoSaid : Prop := referrersWithinUptoRow.holds Try.pinned (OpenSpec.upto referrersWithinSpec)

end Rows
end Go.Proofs.Ytnfgeekaeegolaa
