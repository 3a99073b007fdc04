/-
  No cell of these rows narrows 'for every input' (looked for: loops, veiled, ifaces, maps, wideKeys, modest, calm, conditions, laid).
  DERIVED. THE GIVEN ROWS OF THIS SEAT. 7 by the template 'for every input the law returns true; each argument reads behind the call as it read before'; 0 by the template 'total and deterministic' (their statements: YtdilbnmaihmgnaaTotals.lean).
  GIVEN WITH THE SEED: the statements are not yours to turn. If you find one false, say at which input.
  Laid BY PROGRAM, IN A SANDBOX (cutbox-rows.mjs): the forced cells as the released guide's own fill.sh prints them over the translation 8ee84f38dc152da7… (all of the seat's roots in one cut). By AI agents, Wed Nov 11 2026. No macro, syntax, notation, axiom, sorry.
-/
import Derived.Test.YtdilbnmaihmgnaaChecked
import GoSem.Claim
import GoSem.ClaimJoined
import GoSem.ClaimMapViews
import Derived.JoinedTies
import Derived.KernelRfl
namespace Go.Proofs.Ytdilbnmaihmgnaa
/- THE CELL 'sum', in the pinned program and in every row, IS THE sha256 OF THE DUMP (.gsa) THAT YtdilbnmaihmgnaaProg.lean LOADS. Nothing in Lean hashes anything: it is a label: what it is worth is what the hold of that sum in a sandbox is worth. -/
noncomputable def Try.pinned : Pinned := { name := "ytdilbnmaihmgnaa", sum := "8ee84f38dc152da7529e3a7b4b6d541de37ee6515211e0ed1500fbad2f7e261d", checked := Try.checked }
namespace Rows
def none {H : Type} : Left H := { results := [], args := [] }

/-- 'shunterlaw15.GraphChecks': WHATEVER THE INPUT: true; the input reads as it did. -/
def graphChecksSpec : ChangeSpec := { name := "graphChecks", fn := fun _ => fun
  | [d1, d2] => { results := [.lit (.bool true)], args := [d1, d2] }
  | _ => none }
def graphChecksRow : OpenClaim := { program := "ytdilbnmaihmgnaa", sum := "8ee84f38dc152da7529e3a7b4b6d541de37ee6515211e0ed1500fbad2f7e261d", func := "shunter/shunterlaw15.GraphChecks", spec := "graphChecks", unfollowed := true, recurses := true, apart := false }
def GraphChecksSaid : Prop := graphChecksRow.holds Try.pinned (OpenSpec.ofChange graphChecksSpec)

/-- ITS FALSE NEIGHBOUR: 'it returns false'. Refute it at one input. -/
def graphChecksWrong : ChangeSpec := { name := "graphChecks", fn := fun _ => fun
  | [d1, d2] => { results := [.lit (.bool false)], args := [d1, d2] }
  | _ => none }
def GraphChecksWrongFalsely : Prop := graphChecksRow.holds Try.pinned (OpenSpec.ofChange graphChecksWrong)

/-- 'shunterlaw15.GraphLive': WHATEVER THE INPUT: true; the input reads as it did. -/
def graphLiveSpec : ChangeSpec := { name := "graphLive", fn := fun _ => fun
  | [d] => { results := [.lit (.bool true)], args := [d] }
  | _ => none }
def graphLiveRow : OpenClaim := { program := "ytdilbnmaihmgnaa", sum := "8ee84f38dc152da7529e3a7b4b6d541de37ee6515211e0ed1500fbad2f7e261d", func := "shunter/shunterlaw15.GraphLive", spec := "graphLive", unfollowed := true, recurses := true, apart := false }
def GraphLiveSaid : Prop := graphLiveRow.holds Try.pinned (OpenSpec.ofChange graphLiveSpec)

/-- ITS FALSE NEIGHBOUR: 'it returns false'. Refute it at one input. -/
def graphLiveWrong : ChangeSpec := { name := "graphLive", fn := fun _ => fun
  | [d] => { results := [.lit (.bool false)], args := [d] }
  | _ => none }
def GraphLiveWrongFalsely : Prop := graphLiveRow.holds Try.pinned (OpenSpec.ofChange graphLiveWrong)

/-- 'shunterlaw15.GraphKnown': WHATEVER THE INPUT: true; the input reads as it did. -/
def graphKnownSpec : ChangeSpec := { name := "graphKnown", fn := fun _ => fun
  | [] => { results := [.lit (.bool true)], args := [] }
  | _ => none }
def graphKnownRow : OpenClaim := { program := "ytdilbnmaihmgnaa", sum := "8ee84f38dc152da7529e3a7b4b6d541de37ee6515211e0ed1500fbad2f7e261d", func := "shunter/shunterlaw15.GraphKnown", spec := "graphKnown", unfollowed := true, recurses := true, apart := false }
def GraphKnownSaid : Prop := graphKnownRow.holds Try.pinned (OpenSpec.ofChange graphKnownSpec)

/-- ITS FALSE NEIGHBOUR: 'it returns false'. Refute it at one input. -/
def graphKnownWrong : ChangeSpec := { name := "graphKnown", fn := fun _ => fun
  | [] => { results := [.lit (.bool false)], args := [] }
  | _ => none }
def GraphKnownWrongFalsely : Prop := graphKnownRow.holds Try.pinned (OpenSpec.ofChange graphKnownWrong)

/-- 'shunterlaw15.GraphBack': WHATEVER THE INPUT: true; the input reads as it did. -/
def graphBackSpec : ChangeSpec := { name := "graphBack", fn := fun _ => fun
  | [d1, d2] => { results := [.lit (.bool true)], args := [d1, d2] }
  | _ => none }
def graphBackRow : OpenClaim := { program := "ytdilbnmaihmgnaa", sum := "8ee84f38dc152da7529e3a7b4b6d541de37ee6515211e0ed1500fbad2f7e261d", func := "shunter/shunterlaw15.GraphBack", spec := "graphBack", unfollowed := true, recurses := true, apart := false }
def GraphBackSaid : Prop := graphBackRow.holds Try.pinned (OpenSpec.ofChange graphBackSpec)

/-- ITS FALSE NEIGHBOUR: 'it returns false'. Refute it at one input. -/
def graphBackWrong : ChangeSpec := { name := "graphBack", fn := fun _ => fun
  | [d1, d2] => { results := [.lit (.bool false)], args := [d1, d2] }
  | _ => none }
def GraphBackWrongFalsely : Prop := graphBackRow.holds Try.pinned (OpenSpec.ofChange graphBackWrong)

/-- 'shunterlaw15.GraphReads': WHATEVER THE INPUT: true; the input reads as it did. -/
def graphReadsSpec : ChangeSpec := { name := "graphReads", fn := fun _ => fun
  | [d1, d2] => { results := [.lit (.bool true)], args := [d1, d2] }
  | _ => none }
def graphReadsRow : OpenClaim := { program := "ytdilbnmaihmgnaa", sum := "8ee84f38dc152da7529e3a7b4b6d541de37ee6515211e0ed1500fbad2f7e261d", func := "shunter/shunterlaw15.GraphReads", spec := "graphReads", unfollowed := true, recurses := true, apart := false }
def GraphReadsSaid : Prop := graphReadsRow.holds Try.pinned (OpenSpec.ofChange graphReadsSpec)

/-- ITS FALSE NEIGHBOUR: 'it returns false'. Refute it at one input. -/
def graphReadsWrong : ChangeSpec := { name := "graphReads", fn := fun _ => fun
  | [d1, d2] => { results := [.lit (.bool false)], args := [d1, d2] }
  | _ => none }
def GraphReadsWrongFalsely : Prop := graphReadsRow.holds Try.pinned (OpenSpec.ofChange graphReadsWrong)

/-- 'shunterlaw15.GraphChanges': WHATEVER THE INPUT: true; the input reads as it did. -/
def graphChangesSpec : ChangeSpec := { name := "graphChanges", fn := fun _ => fun
  | [d1, d2, d3] => { results := [.lit (.bool true)], args := [d1, d2, d3] }
  | _ => none }
def graphChangesRow : OpenClaim := { program := "ytdilbnmaihmgnaa", sum := "8ee84f38dc152da7529e3a7b4b6d541de37ee6515211e0ed1500fbad2f7e261d", func := "shunter/shunterlaw15.GraphChanges", spec := "graphChanges", unfollowed := true, recurses := true, apart := false }
def GraphChangesSaid : Prop := graphChangesRow.holds Try.pinned (OpenSpec.ofChange graphChangesSpec)

/-- ITS FALSE NEIGHBOUR: 'it returns false'. Refute it at one input. -/
def graphChangesWrong : ChangeSpec := { name := "graphChanges", fn := fun _ => fun
  | [d1, d2, d3] => { results := [.lit (.bool false)], args := [d1, d2, d3] }
  | _ => none }
def GraphChangesWrongFalsely : Prop := graphChangesRow.holds Try.pinned (OpenSpec.ofChange graphChangesWrong)

/-- 'shunterlaw15.GraphDead': WHATEVER THE INPUT: true; the input reads as it did. -/
def graphDeadSpec : ChangeSpec := { name := "graphDead", fn := fun _ => fun
  | [d1, d2, d3] => { results := [.lit (.bool true)], args := [d1, d2, d3] }
  | _ => none }
def graphDeadRow : OpenClaim := { program := "ytdilbnmaihmgnaa", sum := "8ee84f38dc152da7529e3a7b4b6d541de37ee6515211e0ed1500fbad2f7e261d", func := "shunter/shunterlaw15.GraphDead", spec := "graphDead", unfollowed := true, recurses := true, apart := false }
def GraphDeadSaid : Prop := graphDeadRow.holds Try.pinned (OpenSpec.ofChange graphDeadSpec)

/-- ITS FALSE NEIGHBOUR: 'it returns false'. Refute it at one input. -/
def graphDeadWrong : ChangeSpec := { name := "graphDead", fn := fun _ => fun
  | [d1, d2, d3] => { results := [.lit (.bool false)], args := [d1, d2, d3] }
  | _ => none }
def GraphDeadWrongFalsely : Prop := graphDeadRow.holds Try.pinned (OpenSpec.ofChange graphDeadWrong)

/- THE SECOND FORM. 'bulk': how many values and letters a reading holds, each counted each time it is reached (what is shared counts as often as it is met; a slice's spare places count too). A statement '..UptoSaid' is the law's where the arguments, and the package variables that the reading takes, are together of bulk at most 1048576: NARROWER than '..Said'. Prove '..Said' where nothing that the law and all that it calls make is longer than what came in: it says more and counts as full. Else prove '..UptoSaid'. A law counts once. -/
mutual
def uptoBulk {H : Type} : DataW H → Nat
  | .lit (.string bytes) => bytes.length + 1
  | .lit _ => 1
  | .nil => 1
  | .ptr d => uptoBulk d + 1
  | .slice elems spare => uptoBulkAll elems + uptoBulkAll spare + 1
  | .agg parts => uptoBulkAll parts + 1
  | .iface _ d => uptoBulk d + 1
  | .map entries => uptoBulkEntries entries + 1
  | .held _ => 1
def uptoBulkAll {H : Type} : List (DataW H) → Nat
  | [] => 0
  | d :: r => uptoBulk d + uptoBulkAll r
def uptoBulkEntries {H : Type} : List (Lit × DataW H) → Nat
  | [] => 0
  | x :: r => uptoBulkEntry x + uptoBulkEntries r
def uptoBulkEntry {H : Type} : Lit × DataW H → Nat
  | (.string bytes, d) => bytes.length + uptoBulk d + 1
  | (_, d) => uptoBulk d + 1
 end
def uptoSmall : (H : Type) → List (DataW H) → Bool := fun _ ds => decide (uptoBulkAll ds ≤ 1048576)
def OpenSpec.upto (s : _root_.Go.ChangeSpec) : _root_.Go.OpenSpec := { _root_.Go.OpenSpec.ofChange s with cond := some uptoSmall }

/-- 'shunterlaw15.GraphChecks', WHERE WHAT IT READS IS OF BULK AT MOST 1048576: true; the input reads as it did. -/
def graphChecksUptoRow : OpenClaim := { program := "ytdilbnmaihmgnaa", sum := "8ee84f38dc152da7529e3a7b4b6d541de37ee6515211e0ed1500fbad2f7e261d", func := "shunter/shunterlaw15.GraphChecks", spec := "graphChecks", unfollowed := true, recurses := true, apart := false, narrowed := true }
def GraphChecksUptoSaid : Prop := graphChecksUptoRow.holds Try.pinned (OpenSpec.upto graphChecksSpec)

/-- 'shunterlaw15.GraphLive', WHERE WHAT IT READS IS OF BULK AT MOST 1048576: true; the input reads as it did. -/
def graphLiveUptoRow : OpenClaim := { program := "ytdilbnmaihmgnaa", sum := "8ee84f38dc152da7529e3a7b4b6d541de37ee6515211e0ed1500fbad2f7e261d", func := "shunter/shunterlaw15.GraphLive", spec := "graphLive", unfollowed := true, recurses := true, apart := false, narrowed := true }
def GraphLiveUptoSaid : Prop := graphLiveUptoRow.holds Try.pinned (OpenSpec.upto graphLiveSpec)

/-- 'shunterlaw15.GraphKnown', WHERE WHAT IT READS IS OF BULK AT MOST 1048576: true; the input reads as it did. -/
def graphKnownUptoRow : OpenClaim := { program := "ytdilbnmaihmgnaa", sum := "8ee84f38dc152da7529e3a7b4b6d541de37ee6515211e0ed1500fbad2f7e261d", func := "shunter/shunterlaw15.GraphKnown", spec := "graphKnown", unfollowed := true, recurses := true, apart := false, narrowed := true }
def GraphKnownUptoSaid : Prop := graphKnownUptoRow.holds Try.pinned (OpenSpec.upto graphKnownSpec)

/-- 'shunterlaw15.GraphBack', WHERE WHAT IT READS IS OF BULK AT MOST 1048576: true; the input reads as it did. -/
def graphBackUptoRow : OpenClaim := { program := "ytdilbnmaihmgnaa", sum := "8ee84f38dc152da7529e3a7b4b6d541de37ee6515211e0ed1500fbad2f7e261d", func := "shunter/shunterlaw15.GraphBack", spec := "graphBack", unfollowed := true, recurses := true, apart := false, narrowed := true }
def GraphBackUptoSaid : Prop := graphBackUptoRow.holds Try.pinned (OpenSpec.upto graphBackSpec)

/-- 'shunterlaw15.GraphReads', WHERE WHAT IT READS IS OF BULK AT MOST 1048576: true; the input reads as it did. -/
def graphReadsUptoRow : OpenClaim := { program := "ytdilbnmaihmgnaa", sum := "8ee84f38dc152da7529e3a7b4b6d541de37ee6515211e0ed1500fbad2f7e261d", func := "shunter/shunterlaw15.GraphReads", spec := "graphReads", unfollowed := true, recurses := true, apart := false, narrowed := true }
def GraphReadsUptoSaid : Prop := graphReadsUptoRow.holds Try.pinned (OpenSpec.upto graphReadsSpec)

/-- 'shunterlaw15.GraphChanges', WHERE WHAT IT READS IS OF BULK AT MOST 1048576: true; the input reads as it did. -/
def graphChangesUptoRow : OpenClaim := { program := "ytdilbnmaihmgnaa", sum := "8ee84f38dc152da7529e3a7b4b6d541de37ee6515211e0ed1500fbad2f7e261d", func := "shunter/shunterlaw15.GraphChanges", spec := "graphChanges", unfollowed := true, recurses := true, apart := false, narrowed := true }
def GraphChangesUptoSaid : Prop := graphChangesUptoRow.holds Try.pinned (OpenSpec.upto graphChangesSpec)

/-- 'shunterlaw15.GraphDead', WHERE WHAT IT READS IS OF BULK AT MOST 1048576: true; the input reads as it did. -/
def graphDeadUptoRow : OpenClaim := { program := "ytdilbnmaihmgnaa", sum := "8ee84f38dc152da7529e3a7b4b6d541de37ee6515211e0ed1500fbad2f7e261d", func := "shunter/shunterlaw15.GraphDead", spec := "graphDead", unfollowed := true, recurses := true, apart := false, narrowed := true }
def GraphDeadUptoSaid : Prop := graphDeadUptoRow.holds Try.pinned (OpenSpec.upto graphDeadSpec)

end Rows
end Go.Proofs.Ytdilbnmaihmgnaa
