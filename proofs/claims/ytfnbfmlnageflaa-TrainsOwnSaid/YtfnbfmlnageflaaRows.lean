/-
  No cell of these rows narrows 'for every input' (looked for: loops, veiled, ifaces, maps, wideKeys, modest, calm, conditions, laid).
  DERIVED. THE GIVEN ROWS OF THIS SEAT. 8 by the template 'for every input the law returns true; each argument reads behind the call as it read before'; 0 by the template 'total and deterministic' (their statements: YtfnbfmlnageflaaTotals.lean).
  GIVEN WITH THE SEED: the statements are not yours to turn. If you find one false, say at which input.
  Laid BY PROGRAM, IN A SANDBOX (cutbox-rows.mjs): the forced cells as the released guide's own fill.sh prints them over the translation 574fca9f94472f2c… (all of the seat's roots in one cut). By AI agents, Wed Nov 11 2026. No macro, syntax, notation, axiom, sorry.
-/
import Derived.Test.YtfnbfmlnageflaaChecked
import GoSem.Claim
import GoSem.ClaimJoined
import GoSem.ClaimMapViews
import Derived.JoinedTies
import Derived.KernelRfl
namespace Go.Proofs.Ytfnbfmlnageflaa
/- THE CELL 'sum', in the pinned program and in every row, IS THE sha256 OF THE DUMP (.gsa) THAT YtfnbfmlnageflaaProg.lean LOADS. Nothing in Lean hashes anything: it is a label: what it is worth is what the hold of that sum in a sandbox is worth. -/
noncomputable def Try.pinned : Pinned := { name := "ytfnbfmlnageflaa", sum := "574fca9f94472f2c13326f950ac37b9c0ae0fabf4c2a710cad7ea1e4f80345db", checked := Try.checked }
namespace Rows
def none {H : Type} : Left H := { results := [], args := [] }

/-- 'shunterlaw11.TrainsPuts': WHATEVER THE INPUT: true; the input reads as it did. -/
def trainsPutsSpec : ChangeSpec := { name := "trainsPuts", fn := fun _ => fun
  | [d1, d2, d3] => { results := [.lit (.bool true)], args := [d1, d2, d3] }
  | _ => none }
def trainsPutsRow : OpenClaim := { program := "ytfnbfmlnageflaa", sum := "574fca9f94472f2c13326f950ac37b9c0ae0fabf4c2a710cad7ea1e4f80345db", func := "shunter/shunterlaw11.TrainsPuts", spec := "trainsPuts", apart := false }
def TrainsPutsSaid : Prop := trainsPutsRow.holds Try.pinned (OpenSpec.ofChange trainsPutsSpec)

/-- ITS FALSE NEIGHBOUR: 'it returns false'. Refute it at one input. -/
def trainsPutsWrong : ChangeSpec := { name := "trainsPuts", fn := fun _ => fun
  | [d1, d2, d3] => { results := [.lit (.bool false)], args := [d1, d2, d3] }
  | _ => none }
def TrainsPutsWrongFalsely : Prop := trainsPutsRow.holds Try.pinned (OpenSpec.ofChange trainsPutsWrong)

/-- 'shunterlaw11.TrainsQueue': WHATEVER THE INPUT: true; the input reads as it did. -/
def trainsQueueSpec : ChangeSpec := { name := "trainsQueue", fn := fun _ => fun
  | [d] => { results := [.lit (.bool true)], args := [d] }
  | _ => none }
def trainsQueueRow : OpenClaim := { program := "ytfnbfmlnageflaa", sum := "574fca9f94472f2c13326f950ac37b9c0ae0fabf4c2a710cad7ea1e4f80345db", func := "shunter/shunterlaw11.TrainsQueue", spec := "trainsQueue", apart := false }
def TrainsQueueSaid : Prop := trainsQueueRow.holds Try.pinned (OpenSpec.ofChange trainsQueueSpec)

/-- ITS FALSE NEIGHBOUR: 'it returns false'. Refute it at one input. -/
def trainsQueueWrong : ChangeSpec := { name := "trainsQueue", fn := fun _ => fun
  | [d] => { results := [.lit (.bool false)], args := [d] }
  | _ => none }
def TrainsQueueWrongFalsely : Prop := trainsQueueRow.holds Try.pinned (OpenSpec.ofChange trainsQueueWrong)

/-- 'shunterlaw11.TrainsKept': WHATEVER THE INPUT: true; the input reads as it did. -/
def trainsKeptSpec : ChangeSpec := { name := "trainsKept", fn := fun _ => fun
  | [d] => { results := [.lit (.bool true)], args := [d] }
  | _ => none }
def trainsKeptRow : OpenClaim := { program := "ytfnbfmlnageflaa", sum := "574fca9f94472f2c13326f950ac37b9c0ae0fabf4c2a710cad7ea1e4f80345db", func := "shunter/shunterlaw11.TrainsKept", spec := "trainsKept", apart := false }
def TrainsKeptSaid : Prop := trainsKeptRow.holds Try.pinned (OpenSpec.ofChange trainsKeptSpec)

/-- ITS FALSE NEIGHBOUR: 'it returns false'. Refute it at one input. -/
def trainsKeptWrong : ChangeSpec := { name := "trainsKept", fn := fun _ => fun
  | [d] => { results := [.lit (.bool false)], args := [d] }
  | _ => none }
def TrainsKeptWrongFalsely : Prop := trainsKeptRow.holds Try.pinned (OpenSpec.ofChange trainsKeptWrong)

/-- 'shunterlaw11.TrainsOwn': WHATEVER THE INPUT: true; the input reads as it did. -/
def trainsOwnSpec : ChangeSpec := { name := "trainsOwn", fn := fun _ => fun
  | [d1, d2] => { results := [.lit (.bool true)], args := [d1, d2] }
  | _ => none }
def trainsOwnRow : OpenClaim := { program := "ytfnbfmlnageflaa", sum := "574fca9f94472f2c13326f950ac37b9c0ae0fabf4c2a710cad7ea1e4f80345db", func := "shunter/shunterlaw11.TrainsOwn", spec := "trainsOwn", apart := false }
def TrainsOwnSaid : Prop := trainsOwnRow.holds Try.pinned (OpenSpec.ofChange trainsOwnSpec)

/-- ITS FALSE NEIGHBOUR: 'it returns false'. Refute it at one input. -/
def trainsOwnWrong : ChangeSpec := { name := "trainsOwn", fn := fun _ => fun
  | [d1, d2] => { results := [.lit (.bool false)], args := [d1, d2] }
  | _ => none }
def TrainsOwnWrongFalsely : Prop := trainsOwnRow.holds Try.pinned (OpenSpec.ofChange trainsOwnWrong)

/-- 'shunterlaw11.TrainsPairs': WHATEVER THE INPUT: true; the input reads as it did. -/
def trainsPairsSpec : ChangeSpec := { name := "trainsPairs", fn := fun _ => fun
  | [d1, d2] => { results := [.lit (.bool true)], args := [d1, d2] }
  | _ => none }
def trainsPairsRow : OpenClaim := { program := "ytfnbfmlnageflaa", sum := "574fca9f94472f2c13326f950ac37b9c0ae0fabf4c2a710cad7ea1e4f80345db", func := "shunter/shunterlaw11.TrainsPairs", spec := "trainsPairs", apart := false }
def TrainsPairsSaid : Prop := trainsPairsRow.holds Try.pinned (OpenSpec.ofChange trainsPairsSpec)

/-- ITS FALSE NEIGHBOUR: 'it returns false'. Refute it at one input. -/
def trainsPairsWrong : ChangeSpec := { name := "trainsPairs", fn := fun _ => fun
  | [d1, d2] => { results := [.lit (.bool false)], args := [d1, d2] }
  | _ => none }
def TrainsPairsWrongFalsely : Prop := trainsPairsRow.holds Try.pinned (OpenSpec.ofChange trainsPairsWrong)

/-- 'shunterlaw11.TrainsTakes': WHATEVER THE INPUT: true; the input reads as it did. -/
def trainsTakesSpec : ChangeSpec := { name := "trainsTakes", fn := fun _ => fun
  | [d1, d2, d3] => { results := [.lit (.bool true)], args := [d1, d2, d3] }
  | _ => none }
def trainsTakesRow : OpenClaim := { program := "ytfnbfmlnageflaa", sum := "574fca9f94472f2c13326f950ac37b9c0ae0fabf4c2a710cad7ea1e4f80345db", func := "shunter/shunterlaw11.TrainsTakes", spec := "trainsTakes", apart := false }
def TrainsTakesSaid : Prop := trainsTakesRow.holds Try.pinned (OpenSpec.ofChange trainsTakesSpec)

/-- ITS FALSE NEIGHBOUR: 'it returns false'. Refute it at one input. -/
def trainsTakesWrong : ChangeSpec := { name := "trainsTakes", fn := fun _ => fun
  | [d1, d2, d3] => { results := [.lit (.bool false)], args := [d1, d2, d3] }
  | _ => none }
def TrainsTakesWrongFalsely : Prop := trainsTakesRow.holds Try.pinned (OpenSpec.ofChange trainsTakesWrong)

/-- 'shunterlaw11.TrainsOrders': WHATEVER THE INPUT: true; the input reads as it did. -/
def trainsOrdersSpec : ChangeSpec := { name := "trainsOrders", fn := fun _ => fun
  | [d1, d2, d3] => { results := [.lit (.bool true)], args := [d1, d2, d3] }
  | _ => none }
def trainsOrdersRow : OpenClaim := { program := "ytfnbfmlnageflaa", sum := "574fca9f94472f2c13326f950ac37b9c0ae0fabf4c2a710cad7ea1e4f80345db", func := "shunter/shunterlaw11.TrainsOrders", spec := "trainsOrders", apart := false }
def TrainsOrdersSaid : Prop := trainsOrdersRow.holds Try.pinned (OpenSpec.ofChange trainsOrdersSpec)

/-- ITS FALSE NEIGHBOUR: 'it returns false'. Refute it at one input. -/
def trainsOrdersWrong : ChangeSpec := { name := "trainsOrders", fn := fun _ => fun
  | [d1, d2, d3] => { results := [.lit (.bool false)], args := [d1, d2, d3] }
  | _ => none }
def TrainsOrdersWrongFalsely : Prop := trainsOrdersRow.holds Try.pinned (OpenSpec.ofChange trainsOrdersWrong)

/-- 'shunterlaw11.TrainsChecks': WHATEVER THE INPUT: true; the input reads as it did. -/
def trainsChecksSpec : ChangeSpec := { name := "trainsChecks", fn := fun _ => fun
  | [d1, d2, d3] => { results := [.lit (.bool true)], args := [d1, d2, d3] }
  | _ => none }
def trainsChecksRow : OpenClaim := { program := "ytfnbfmlnageflaa", sum := "574fca9f94472f2c13326f950ac37b9c0ae0fabf4c2a710cad7ea1e4f80345db", func := "shunter/shunterlaw11.TrainsChecks", spec := "trainsChecks", apart := false }
def TrainsChecksSaid : Prop := trainsChecksRow.holds Try.pinned (OpenSpec.ofChange trainsChecksSpec)

/-- ITS FALSE NEIGHBOUR: 'it returns false'. Refute it at one input. -/
def trainsChecksWrong : ChangeSpec := { name := "trainsChecks", fn := fun _ => fun
  | [d1, d2, d3] => { results := [.lit (.bool false)], args := [d1, d2, d3] }
  | _ => none }
def TrainsChecksWrongFalsely : Prop := trainsChecksRow.holds Try.pinned (OpenSpec.ofChange trainsChecksWrong)

/- THE SECOND FORM. 'bulk': how many values and letters a reading holds, each counted each time it is reached (what is shared counts as often as it is met; a slice's spare places count too). A statement '..UptoSaid' is the law's where the arguments, and the package variables that the reading takes, are together of bulk at most 1048576: NARROWER than '..Said'. Prove '..Said' where nothing that the law and all that it calls make is longer than what came in: it says more and counts as full. Else prove '..UptoSaid'. A law counts once. -/
mutual
def uptoBulk {H : Type} : DataW H → Nat
  | .lit (.string bytes) => bytes.length + 1
  | .lit _ => 1
  | .nil => 1
  | .ptr d => uptoBulk d + 1
  | .slice elems spare => uptoBulkAll elems + uptoBulkAll spare + 1
  | .agg parts => uptoBulkAll parts + 1
  | .iface _ d => uptoBulk d + 1
  | .map entries => uptoBulkEntries entries + 1
  | .held _ => 1
def uptoBulkAll {H : Type} : List (DataW H) → Nat
  | [] => 0
  | d :: r => uptoBulk d + uptoBulkAll r
def uptoBulkEntries {H : Type} : List (Lit × DataW H) → Nat
  | [] => 0
  | x :: r => uptoBulkEntry x + uptoBulkEntries r
def uptoBulkEntry {H : Type} : Lit × DataW H → Nat
  | (.string bytes, d) => bytes.length + uptoBulk d + 1
  | (_, d) => uptoBulk d + 1
 end
def uptoSmall : (H : Type) → List (DataW H) → Bool := fun _ ds => decide (uptoBulkAll ds ≤ 1048576)
def OpenSpec.upto (s : _root_.Go.ChangeSpec) : _root_.Go.OpenSpec := { _root_.Go.OpenSpec.ofChange s with cond := some uptoSmall }

/-- 'shunterlaw11.TrainsPuts', WHERE WHAT IT READS IS OF BULK AT MOST 1048576: true; the input reads as it did. -/
def trainsPutsUptoRow : OpenClaim := { program := "ytfnbfmlnageflaa", sum := "574fca9f94472f2c13326f950ac37b9c0ae0fabf4c2a710cad7ea1e4f80345db", func := "shunter/shunterlaw11.TrainsPuts", spec := "trainsPuts", apart := false, narrowed := true }
def TrainsPutsUptoSaid : Prop := trainsPutsUptoRow.holds Try.pinned (OpenSpec.upto trainsPutsSpec)

/-- 'shunterlaw11.TrainsQueue', WHERE WHAT IT READS IS OF BULK AT MOST 1048576: true; the input reads as it did. -/
def trainsQueueUptoRow : OpenClaim := { program := "ytfnbfmlnageflaa", sum := "574fca9f94472f2c13326f950ac37b9c0ae0fabf4c2a710cad7ea1e4f80345db", func := "shunter/shunterlaw11.TrainsQueue", spec := "trainsQueue", apart := false, narrowed := true }
def TrainsQueueUptoSaid : Prop := trainsQueueUptoRow.holds Try.pinned (OpenSpec.upto trainsQueueSpec)

/-- 'shunterlaw11.TrainsKept', WHERE WHAT IT READS IS OF BULK AT MOST 1048576: true; the input reads as it did. -/
def trainsKeptUptoRow : OpenClaim := { program := "ytfnbfmlnageflaa", sum := "574fca9f94472f2c13326f950ac37b9c0ae0fabf4c2a710cad7ea1e4f80345db", func := "shunter/shunterlaw11.TrainsKept", spec := "trainsKept", apart := false, narrowed := true }
def TrainsKeptUptoSaid : Prop := trainsKeptUptoRow.holds Try.pinned (OpenSpec.upto trainsKeptSpec)

/-- 'shunterlaw11.TrainsOwn', WHERE WHAT IT READS IS OF BULK AT MOST 1048576: true; the input reads as it did. -/
def trainsOwnUptoRow : OpenClaim := { program := "ytfnbfmlnageflaa", sum := "574fca9f94472f2c13326f950ac37b9c0ae0fabf4c2a710cad7ea1e4f80345db", func := "shunter/shunterlaw11.TrainsOwn", spec := "trainsOwn", apart := false, narrowed := true }
def TrainsOwnUptoSaid : Prop := trainsOwnUptoRow.holds Try.pinned (OpenSpec.upto trainsOwnSpec)

/-- 'shunterlaw11.TrainsPairs', WHERE WHAT IT READS IS OF BULK AT MOST 1048576: true; the input reads as it did. -/
def trainsPairsUptoRow : OpenClaim := { program := "ytfnbfmlnageflaa", sum := "574fca9f94472f2c13326f950ac37b9c0ae0fabf4c2a710cad7ea1e4f80345db", func := "shunter/shunterlaw11.TrainsPairs", spec := "trainsPairs", apart := false, narrowed := true }
def TrainsPairsUptoSaid : Prop := trainsPairsUptoRow.holds Try.pinned (OpenSpec.upto trainsPairsSpec)

/-- 'shunterlaw11.TrainsTakes', WHERE WHAT IT READS IS OF BULK AT MOST 1048576: true; the input reads as it did. -/
def trainsTakesUptoRow : OpenClaim := { program := "ytfnbfmlnageflaa", sum := "574fca9f94472f2c13326f950ac37b9c0ae0fabf4c2a710cad7ea1e4f80345db", func := "shunter/shunterlaw11.TrainsTakes", spec := "trainsTakes", apart := false, narrowed := true }
def TrainsTakesUptoSaid : Prop := trainsTakesUptoRow.holds Try.pinned (OpenSpec.upto trainsTakesSpec)

/-- 'shunterlaw11.TrainsOrders', WHERE WHAT IT READS IS OF BULK AT MOST 1048576: true; the input reads as it did. -/
def trainsOrdersUptoRow : OpenClaim := { program := "ytfnbfmlnageflaa", sum := "574fca9f94472f2c13326f950ac37b9c0ae0fabf4c2a710cad7ea1e4f80345db", func := "shunter/shunterlaw11.TrainsOrders", spec := "trainsOrders", apart := false, narrowed := true }
def TrainsOrdersUptoSaid : Prop := trainsOrdersUptoRow.holds Try.pinned (OpenSpec.upto trainsOrdersSpec)

/-- 'shunterlaw11.TrainsChecks', WHERE WHAT IT READS IS OF BULK AT MOST 1048576: true; the input reads as it did. -/
def trainsChecksUptoRow : OpenClaim := { program := "ytfnbfmlnageflaa", sum := "574fca9f94472f2c13326f950ac37b9c0ae0fabf4c2a710cad7ea1e4f80345db", func := "shunter/shunterlaw11.TrainsChecks", spec := "trainsChecks", apart := false, narrowed := true }
def TrainsChecksUptoSaid : Prop := trainsChecksUptoRow.holds Try.pinned (OpenSpec.upto trainsChecksSpec)

end Rows
end Go.Proofs.Ytfnbfmlnageflaa
