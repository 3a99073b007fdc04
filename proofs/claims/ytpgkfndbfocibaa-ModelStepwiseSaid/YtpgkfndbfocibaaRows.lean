/-
  No cell of these rows narrows 'for every input' (looked for: loops, veiled, ifaces, maps, wideKeys, modest, calm, conditions, laid).
  DERIVED. THE GIVEN ROWS OF THIS SEAT. 5 by the template 'for every input the law returns true; each argument reads behind the call as it read before'; 0 by the template 'total and deterministic' (their statements: YtpgkfndbfocibaaTotals.lean).
  GIVEN WITH THE SEED: the statements are not yours to turn. If you find one false, say at which input.
  Laid BY PROGRAM, IN A SANDBOX (cutbox-rows.mjs): the forced cells as the released guide's own fill.sh prints them over the translation 6ef2c87e14d170bb… (all of the seat's roots in one cut). By AI agents, Wed Nov 11 2026. No macro, syntax, notation, axiom, sorry.
-/
import Derived.Test.YtpgkfndbfocibaaChecked
import GoSem.Claim
import GoSem.ClaimJoined
import GoSem.ClaimMapViews
import Derived.JoinedTies
import Derived.KernelRfl
namespace Go.Proofs.Ytpgkfndbfocibaa
/- THE CELL 'sum', in the pinned program and in every row, IS THE sha256 OF THE DUMP (.gsa) THAT YtpgkfndbfocibaaProg.lean LOADS. Nothing in Lean hashes anything: it is a label: what it is worth is what the hold of that sum in a sandbox is worth. -/
noncomputable def Try.pinned : Pinned := { name := "ytpgkfndbfocibaa", sum := "6ef2c87e14d170bba9733c10b1bf05c1b6384af23bb217093fda996f52dea825", checked := Try.checked }
namespace Rows
def none {H : Type} : Left H := { results := [], args := [] }

/-- 'shunterlaw29.ModelLeft': WHATEVER THE INPUT: true; the input reads as it did. -/
def modelLeftSpec : ChangeSpec := { name := "modelLeft", fn := fun _ => fun
  | [d1, d2, d3] => { results := [.lit (.bool true)], args := [d1, d2, d3] }
  | _ => none }
def modelLeftRow : OpenClaim := { program := "ytpgkfndbfocibaa", sum := "6ef2c87e14d170bba9733c10b1bf05c1b6384af23bb217093fda996f52dea825", func := "shunter/shunterlaw29.ModelLeft", spec := "modelLeft", unfollowed := true, recurses := true, apart := false }
def ModelLeftSaid : Prop := modelLeftRow.holds Try.pinned (OpenSpec.ofChange modelLeftSpec)

/-- ITS FALSE NEIGHBOUR: 'it returns false'. Refute it at one input. -/
def modelLeftWrong : ChangeSpec := { name := "modelLeft", fn := fun _ => fun
  | [d1, d2, d3] => { results := [.lit (.bool false)], args := [d1, d2, d3] }
  | _ => none }
def ModelLeftWrongFalsely : Prop := modelLeftRow.holds Try.pinned (OpenSpec.ofChange modelLeftWrong)

/-- 'shunterlaw29.ModelRefused': WHATEVER THE INPUT: true; the input reads as it did. -/
def modelRefusedSpec : ChangeSpec := { name := "modelRefused", fn := fun _ => fun
  | [d1, d2, d3] => { results := [.lit (.bool true)], args := [d1, d2, d3] }
  | _ => none }
def modelRefusedRow : OpenClaim := { program := "ytpgkfndbfocibaa", sum := "6ef2c87e14d170bba9733c10b1bf05c1b6384af23bb217093fda996f52dea825", func := "shunter/shunterlaw29.ModelRefused", spec := "modelRefused", unfollowed := true, recurses := true, apart := false }
def ModelRefusedSaid : Prop := modelRefusedRow.holds Try.pinned (OpenSpec.ofChange modelRefusedSpec)

/-- ITS FALSE NEIGHBOUR: 'it returns false'. Refute it at one input. -/
def modelRefusedWrong : ChangeSpec := { name := "modelRefused", fn := fun _ => fun
  | [d1, d2, d3] => { results := [.lit (.bool false)], args := [d1, d2, d3] }
  | _ => none }
def ModelRefusedWrongFalsely : Prop := modelRefusedRow.holds Try.pinned (OpenSpec.ofChange modelRefusedWrong)

/-- 'shunterlaw29.ModelAsks': WHATEVER THE INPUT: true; the input reads as it did. -/
def modelAsksSpec : ChangeSpec := { name := "modelAsks", fn := fun _ => fun
  | [d1, d2, d3] => { results := [.lit (.bool true)], args := [d1, d2, d3] }
  | _ => none }
def modelAsksRow : OpenClaim := { program := "ytpgkfndbfocibaa", sum := "6ef2c87e14d170bba9733c10b1bf05c1b6384af23bb217093fda996f52dea825", func := "shunter/shunterlaw29.ModelAsks", spec := "modelAsks", unfollowed := true, recurses := true, apart := false }
def ModelAsksSaid : Prop := modelAsksRow.holds Try.pinned (OpenSpec.ofChange modelAsksSpec)

/-- ITS FALSE NEIGHBOUR: 'it returns false'. Refute it at one input. -/
def modelAsksWrong : ChangeSpec := { name := "modelAsks", fn := fun _ => fun
  | [d1, d2, d3] => { results := [.lit (.bool false)], args := [d1, d2, d3] }
  | _ => none }
def ModelAsksWrongFalsely : Prop := modelAsksRow.holds Try.pinned (OpenSpec.ofChange modelAsksWrong)

/-- 'shunterlaw29.ModelKnown': WHATEVER THE INPUT: true; the input reads as it did. -/
def modelKnownSpec : ChangeSpec := { name := "modelKnown", fn := fun _ => fun
  | [] => { results := [.lit (.bool true)], args := [] }
  | _ => none }
def modelKnownRow : OpenClaim := { program := "ytpgkfndbfocibaa", sum := "6ef2c87e14d170bba9733c10b1bf05c1b6384af23bb217093fda996f52dea825", func := "shunter/shunterlaw29.ModelKnown", spec := "modelKnown", unfollowed := true, recurses := true, apart := false }
def ModelKnownSaid : Prop := modelKnownRow.holds Try.pinned (OpenSpec.ofChange modelKnownSpec)

/-- ITS FALSE NEIGHBOUR: 'it returns false'. Refute it at one input. -/
def modelKnownWrong : ChangeSpec := { name := "modelKnown", fn := fun _ => fun
  | [] => { results := [.lit (.bool false)], args := [] }
  | _ => none }
def ModelKnownWrongFalsely : Prop := modelKnownRow.holds Try.pinned (OpenSpec.ofChange modelKnownWrong)

/-- 'shunterlaw29.ModelStepwise': WHATEVER THE INPUT: true; the input reads as it did. -/
def modelStepwiseSpec : ChangeSpec := { name := "modelStepwise", fn := fun _ => fun
  | [d1, d2, d3] => { results := [.lit (.bool true)], args := [d1, d2, d3] }
  | _ => none }
def modelStepwiseRow : OpenClaim := { program := "ytpgkfndbfocibaa", sum := "6ef2c87e14d170bba9733c10b1bf05c1b6384af23bb217093fda996f52dea825", func := "shunter/shunterlaw29.ModelStepwise", spec := "modelStepwise", unfollowed := true, recurses := true, apart := false }
def ModelStepwiseSaid : Prop := modelStepwiseRow.holds Try.pinned (OpenSpec.ofChange modelStepwiseSpec)

/-- ITS FALSE NEIGHBOUR: 'it returns false'. Refute it at one input. -/
def modelStepwiseWrong : ChangeSpec := { name := "modelStepwise", fn := fun _ => fun
  | [d1, d2, d3] => { results := [.lit (.bool false)], args := [d1, d2, d3] }
  | _ => none }
def ModelStepwiseWrongFalsely : Prop := modelStepwiseRow.holds Try.pinned (OpenSpec.ofChange modelStepwiseWrong)

/- THE SECOND FORM. 'bulk': how many values and letters a reading holds, each counted each time it is reached (what is shared counts as often as it is met; a slice's spare places count too). A statement '..UptoSaid' is the law's where the arguments, and the package variables that the reading takes, are together of bulk at most 1048576: NARROWER than '..Said'. Prove '..Said' where nothing that the law and all that it calls make is longer than what came in: it says more and counts as full. Else prove '..UptoSaid'. A law counts once. -/
mutual
def uptoBulk {H : Type} : DataW H → Nat
  | .lit (.string bytes) => bytes.length + 1
  | .lit _ => 1
  | .nil => 1
  | .ptr d => uptoBulk d + 1
  | .slice elems spare => uptoBulkAll elems + uptoBulkAll spare + 1
  | .agg parts => uptoBulkAll parts + 1
  | .iface _ d => uptoBulk d + 1
  | .map entries => uptoBulkEntries entries + 1
  | .held _ => 1
def uptoBulkAll {H : Type} : List (DataW H) → Nat
  | [] => 0
  | d :: r => uptoBulk d + uptoBulkAll r
def uptoBulkEntries {H : Type} : List (Lit × DataW H) → Nat
  | [] => 0
  | x :: r => uptoBulkEntry x + uptoBulkEntries r
def uptoBulkEntry {H : Type} : Lit × DataW H → Nat
  | (.string bytes, d) => bytes.length + uptoBulk d + 1
  | (_, d) => uptoBulk d + 1
 end
def uptoSmall : (H : Type) → List (DataW H) → Bool := fun _ ds => decide (uptoBulkAll ds ≤ 1048576)
def OpenSpec.upto (s : _root_.Go.ChangeSpec) : _root_.Go.OpenSpec := { _root_.Go.OpenSpec.ofChange s with cond := some uptoSmall }

/-- 'shunterlaw29.ModelLeft', WHERE WHAT IT READS IS OF BULK AT MOST 1048576: true; the input reads as it did. -/
def modelLeftUptoRow : OpenClaim := { program := "ytpgkfndbfocibaa", sum := "6ef2c87e14d170bba9733c10b1bf05c1b6384af23bb217093fda996f52dea825", func := "shunter/shunterlaw29.ModelLeft", spec := "modelLeft", unfollowed := true, recurses := true, apart := false, narrowed := true }
def ModelLeftUptoSaid : Prop := modelLeftUptoRow.holds Try.pinned (OpenSpec.upto modelLeftSpec)

/-- 'shunterlaw29.ModelRefused', WHERE WHAT IT READS IS OF BULK AT MOST 1048576: true; the input reads as it did. -/
def modelRefusedUptoRow : OpenClaim := { program := "ytpgkfndbfocibaa", sum := "6ef2c87e14d170bba9733c10b1bf05c1b6384af23bb217093fda996f52dea825", func := "shunter/shunterlaw29.ModelRefused", spec := "modelRefused", unfollowed := true, recurses := true, apart := false, narrowed := true }
def ModelRefusedUptoSaid : Prop := modelRefusedUptoRow.holds Try.pinned (OpenSpec.upto modelRefusedSpec)

/-- 'shunterlaw29.ModelAsks', WHERE WHAT IT READS IS OF BULK AT MOST 1048576: true; the input reads as it did. -/
def modelAsksUptoRow : OpenClaim := { program := "ytpgkfndbfocibaa", sum := "6ef2c87e14d170bba9733c10b1bf05c1b6384af23bb217093fda996f52dea825", func := "shunter/shunterlaw29.ModelAsks", spec := "modelAsks", unfollowed := true, recurses := true, apart := false, narrowed := true }
def ModelAsksUptoSaid : Prop := modelAsksUptoRow.holds Try.pinned (OpenSpec.upto modelAsksSpec)

/-- 'shunterlaw29.ModelKnown', WHERE WHAT IT READS IS OF BULK AT MOST 1048576: true; the input reads as it did. -/
def modelKnownUptoRow : OpenClaim := { program := "ytpgkfndbfocibaa", sum := "6ef2c87e14d170bba9733c10b1bf05c1b6384af23bb217093fda996f52dea825", func := "shunter/shunterlaw29.ModelKnown", spec := "modelKnown", unfollowed := true, recurses := true, apart := false, narrowed := true }
def ModelKnownUptoSaid : Prop := modelKnownUptoRow.holds Try.pinned (OpenSpec.upto modelKnownSpec)

/-- 'shunterlaw29.ModelStepwise', WHERE WHAT IT READS IS OF BULK AT MOST 1048576: true; the input reads as it did. -/
def modelStepwiseUptoRow : OpenClaim := { program := "ytpgkfndbfocibaa", sum := "6ef2c87e14d170bba9733c10b1bf05c1b6384af23bb217093fda996f52dea825", func := "shunter/shunterlaw29.ModelStepwise", spec := "modelStepwise", unfollowed := true, recurses := true, apart := false, narrowed := true }
def ModelStepwiseUptoSaid : Prop := modelStepwiseUptoRow.holds Try.pinned (OpenSpec.upto modelStepwiseSpec)

end Rows
end Go.Proofs.Ytpgkfndbfocibaa
