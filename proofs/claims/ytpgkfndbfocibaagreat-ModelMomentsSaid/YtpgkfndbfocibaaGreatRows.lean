/-
  No cell of these rows narrows 'for every input' (looked for: loops, veiled, ifaces, maps, wideKeys, modest, calm, conditions, laid).
  DERIVED. THE GIVEN ROWS OF THIS SEAT. 4 by the template 'for every input the law returns true; each argument reads behind the call as it read before'; 0 by the template 'total and deterministic' (their statements: YtpgkfndbfocibaaGreatTotals.lean).
  GIVEN WITH THE SEED: the statements are not yours to turn. If you find one false, say at which input.
  Laid BY PROGRAM, IN A SANDBOX (cutbox-rows.mjs): the forced cells as the released guide's own fill.sh prints them over the translation a04a6a139dcb5079… (all of the seat's roots in one cut). By AI agents, Wed Nov 11 2026. No macro, syntax, notation, axiom, sorry.
-/
import Derived.Test.YtpgkfndbfocibaaGreatChecked
import GoSem.Claim
import GoSem.ClaimJoined
import GoSem.ClaimMapViews
import Derived.JoinedTies
import Derived.KernelRfl
namespace Go.Proofs.YtpgkfndbfocibaaGreat
/- THE CELL 'sum', in the pinned program and in every row, IS THE sha256 OF THE DUMP (.gsa) THAT YtpgkfndbfocibaaGreatProg.lean LOADS. Nothing in Lean hashes anything: it is a label: what it is worth is what the hold of that sum in a sandbox is worth. -/
noncomputable def Tryz.pinned : Pinned := { name := "ytpgkfndbfocibaagreat", sum := "a04a6a139dcb5079641a3f6146d57383ad491f224ffebd368137c7402baeee4b", checked := Tryz.checked }
namespace Rows
def none {H : Type} : Left H := { results := [], args := [] }

/-- 'shunterlaw29.ModelPlays': WHATEVER THE INPUT: true; the input reads as it did. -/
def modelPlaysSpec : ChangeSpec := { name := "modelPlays", fn := fun _ => fun
  | [d1, d2, d3] => { results := [.lit (.bool true)], args := [d1, d2, d3] }
  | _ => none }
def modelPlaysRow : OpenClaim := { program := "ytpgkfndbfocibaagreat", sum := "a04a6a139dcb5079641a3f6146d57383ad491f224ffebd368137c7402baeee4b", func := "shunter/shunterlaw29.ModelPlays", spec := "modelPlays", unfollowed := true, recurses := true, apart := false }
def ModelPlaysSaid : Prop := modelPlaysRow.holds Tryz.pinned (OpenSpec.ofChange modelPlaysSpec)

/-- ITS FALSE NEIGHBOUR: 'it returns false'. Refute it at one input. -/
def modelPlaysWrong : ChangeSpec := { name := "modelPlays", fn := fun _ => fun
  | [d1, d2, d3] => { results := [.lit (.bool false)], args := [d1, d2, d3] }
  | _ => none }
def ModelPlaysWrongFalsely : Prop := modelPlaysRow.holds Tryz.pinned (OpenSpec.ofChange modelPlaysWrong)

/-- 'shunterlaw29.ModelMoments': WHATEVER THE INPUT: true; the input reads as it did. -/
def modelMomentsSpec : ChangeSpec := { name := "modelMoments", fn := fun _ => fun
  | [d1, d2, d3] => { results := [.lit (.bool true)], args := [d1, d2, d3] }
  | _ => none }
def modelMomentsRow : OpenClaim := { program := "ytpgkfndbfocibaagreat", sum := "a04a6a139dcb5079641a3f6146d57383ad491f224ffebd368137c7402baeee4b", func := "shunter/shunterlaw29.ModelMoments", spec := "modelMoments", unfollowed := true, recurses := true, apart := false }
def ModelMomentsSaid : Prop := modelMomentsRow.holds Tryz.pinned (OpenSpec.ofChange modelMomentsSpec)

/-- ITS FALSE NEIGHBOUR: 'it returns false'. Refute it at one input. -/
def modelMomentsWrong : ChangeSpec := { name := "modelMoments", fn := fun _ => fun
  | [d1, d2, d3] => { results := [.lit (.bool false)], args := [d1, d2, d3] }
  | _ => none }
def ModelMomentsWrongFalsely : Prop := modelMomentsRow.holds Tryz.pinned (OpenSpec.ofChange modelMomentsWrong)

/-- 'shunterlaw29.ModelSteps': WHATEVER THE INPUT: true; the input reads as it did. -/
def modelStepsSpec : ChangeSpec := { name := "modelSteps", fn := fun _ => fun
  | [d1, d2, d3] => { results := [.lit (.bool true)], args := [d1, d2, d3] }
  | _ => none }
def modelStepsRow : OpenClaim := { program := "ytpgkfndbfocibaagreat", sum := "a04a6a139dcb5079641a3f6146d57383ad491f224ffebd368137c7402baeee4b", func := "shunter/shunterlaw29.ModelSteps", spec := "modelSteps", unfollowed := true, recurses := true, apart := false }
def ModelStepsSaid : Prop := modelStepsRow.holds Tryz.pinned (OpenSpec.ofChange modelStepsSpec)

/-- ITS FALSE NEIGHBOUR: 'it returns false'. Refute it at one input. -/
def modelStepsWrong : ChangeSpec := { name := "modelSteps", fn := fun _ => fun
  | [d1, d2, d3] => { results := [.lit (.bool false)], args := [d1, d2, d3] }
  | _ => none }
def ModelStepsWrongFalsely : Prop := modelStepsRow.holds Tryz.pinned (OpenSpec.ofChange modelStepsWrong)

/-- 'shunterlaw29.ModelJudges': WHATEVER THE INPUT: true; the input reads as it did. -/
def modelJudgesSpec : ChangeSpec := { name := "modelJudges", fn := fun _ => fun
  | [d1, d2, d3] => { results := [.lit (.bool true)], args := [d1, d2, d3] }
  | _ => none }
def modelJudgesRow : OpenClaim := { program := "ytpgkfndbfocibaagreat", sum := "a04a6a139dcb5079641a3f6146d57383ad491f224ffebd368137c7402baeee4b", func := "shunter/shunterlaw29.ModelJudges", spec := "modelJudges", unfollowed := true, recurses := true, apart := false }
def ModelJudgesSaid : Prop := modelJudgesRow.holds Tryz.pinned (OpenSpec.ofChange modelJudgesSpec)

/-- ITS FALSE NEIGHBOUR: 'it returns false'. Refute it at one input. -/
def modelJudgesWrong : ChangeSpec := { name := "modelJudges", fn := fun _ => fun
  | [d1, d2, d3] => { results := [.lit (.bool false)], args := [d1, d2, d3] }
  | _ => none }
def ModelJudgesWrongFalsely : Prop := modelJudgesRow.holds Tryz.pinned (OpenSpec.ofChange modelJudgesWrong)

/- THE SECOND FORM. 'bulk': how many values and letters a reading holds, each counted each time it is reached (what is shared counts as often as it is met; a slice's spare places count too). A statement '..UptoSaid' is the law's where the arguments, and the package variables that the reading takes, are together of bulk at most 1048576: NARROWER than '..Said'. Prove '..Said' where nothing that the law and all that it calls make is longer than what came in: it says more and counts as full. Else prove '..UptoSaid'. A law counts once. -/
mutual
def uptoBulk {H : Type} : DataW H → Nat
  | .lit (.string bytes) => bytes.length + 1
  | .lit _ => 1
  | .nil => 1
  | .ptr d => uptoBulk d + 1
  | .slice elems spare => uptoBulkAll elems + uptoBulkAll spare + 1
  | .agg parts => uptoBulkAll parts + 1
  | .iface _ d => uptoBulk d + 1
  | .map entries => uptoBulkEntries entries + 1
  | .held _ => 1
def uptoBulkAll {H : Type} : List (DataW H) → Nat
  | [] => 0
  | d :: r => uptoBulk d + uptoBulkAll r
def uptoBulkEntries {H : Type} : List (Lit × DataW H) → Nat
  | [] => 0
  | x :: r => uptoBulkEntry x + uptoBulkEntries r
def uptoBulkEntry {H : Type} : Lit × DataW H → Nat
  | (.string bytes, d) => bytes.length + uptoBulk d + 1
  | (_, d) => uptoBulk d + 1
 end
def uptoSmall : (H : Type) → List (DataW H) → Bool := fun _ ds => decide (uptoBulkAll ds ≤ 1048576)
def OpenSpec.upto (s : _root_.Go.ChangeSpec) : _root_.Go.OpenSpec := { _root_.Go.OpenSpec.ofChange s with cond := some uptoSmall }

/-- 'shunterlaw29.ModelPlays', WHERE WHAT IT READS IS OF BULK AT MOST 1048576: true; the input reads as it did. -/
def modelPlaysUptoRow : OpenClaim := { program := "ytpgkfndbfocibaagreat", sum := "a04a6a139dcb5079641a3f6146d57383ad491f224ffebd368137c7402baeee4b", func := "shunter/shunterlaw29.ModelPlays", spec := "modelPlays", unfollowed := true, recurses := true, apart := false, narrowed := true }
def ModelPlaysUptoSaid : Prop := modelPlaysUptoRow.holds Tryz.pinned (OpenSpec.upto modelPlaysSpec)

/-- 'shunterlaw29.ModelMoments', WHERE WHAT IT READS IS OF BULK AT MOST 1048576: true; the input reads as it did. -/
def modelMomentsUptoRow : OpenClaim := { program := "ytpgkfndbfocibaagreat", sum := "a04a6a139dcb5079641a3f6146d57383ad491f224ffebd368137c7402baeee4b", func := "shunter/shunterlaw29.ModelMoments", spec := "modelMoments", unfollowed := true, recurses := true, apart := false, narrowed := true }
def ModelMomentsUptoSaid : Prop := modelMomentsUptoRow.holds Tryz.pinned (OpenSpec.upto modelMomentsSpec)

/-- 'shunterlaw29.ModelSteps', WHERE WHAT IT READS IS OF BULK AT MOST 1048576: true; the input reads as it did. -/
def modelStepsUptoRow : OpenClaim := { program := "ytpgkfndbfocibaagreat", sum := "a04a6a139dcb5079641a3f6146d57383ad491f224ffebd368137c7402baeee4b", func := "shunter/shunterlaw29.ModelSteps", spec := "modelSteps", unfollowed := true, recurses := true, apart := false, narrowed := true }
def ModelStepsUptoSaid : Prop := modelStepsUptoRow.holds Tryz.pinned (OpenSpec.upto modelStepsSpec)

/-- 'shunterlaw29.ModelJudges', WHERE WHAT IT READS IS OF BULK AT MOST 1048576: true; the input reads as it did. -/
def modelJudgesUptoRow : OpenClaim := { program := "ytpgkfndbfocibaagreat", sum := "a04a6a139dcb5079641a3f6146d57383ad491f224ffebd368137c7402baeee4b", func := "shunter/shunterlaw29.ModelJudges", spec := "modelJudges", unfollowed := true, recurses := true, apart := false, narrowed := true }
def ModelJudgesUptoSaid : Prop := modelJudgesUptoRow.holds Tryz.pinned (OpenSpec.upto modelJudgesSpec)

end Rows
end Go.Proofs.YtpgkfndbfocibaaGreat
