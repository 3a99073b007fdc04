/-
  NARROWER THAN 'FOR EVERY INPUT', by the rows' own cells (each row's printed sentence says how): RankCompares: laid · RankMoves: laid · RankTakes: laid · RankTurns: laid · RankMoved: laid · RankRanks: laid · RankOrders: laid · RankExternal: laid.
  DERIVED. THE GIVEN ROWS OF THIS SEAT. 8 by the template 'for every input the law returns true; each argument reads behind the call as it read before'; 0 by the template 'total and deterministic' (their statements: YtodbfgfbkgpooaaDoorTotals.lean).
  GIVEN WITH THE SEED: the statements are not yours to turn. If you find one false, say at which input.
  Laid BY PROGRAM, IN A SANDBOX (cutbox-rows.mjs): the forced cells as the released guide's own fill.sh prints them over the translation 8088046c888fb0c5… (all of the seat's roots in one cut). By AI agents, Wed Nov 11 2026. No macro, syntax, notation, axiom, sorry.
-/
import Derived.Test.YtodbfgfbkgpooaaDoorChecked
import GoSem.Claim
import GoSem.ClaimJoined
import GoSem.ClaimMapViews
import Derived.JoinedTies
import Derived.KernelRfl
namespace Go.Proofs.YtodbfgfbkgpooaaDoor
/- THE CELL 'sum', in the pinned program and in every row, IS THE sha256 OF THE DUMP (.gsa) THAT YtodbfgfbkgpooaaDoorProg.lean LOADS. Nothing in Lean hashes anything: it is a label: what it is worth is what the hold of that sum in a sandbox is worth. -/
noncomputable def Tryd.pinned : Pinned := { name := "ytodbfgfbkgpooaadoor", sum := "8088046c888fb0c509a596f709b76b2efa2c187f98045d9cde6e0c221165082c", checked := Tryd.checked }
namespace Rows
def none {H : Type} : Left H := { results := [], args := [] }

/- WHAT THE LISTED PACKAGE-LEVEL VARIABLES READ AS WHEN THE CALL BEGINS. Each datum BY PROGRAM (the guide's laid-datum.mjs) off the statement by which the dump's own 'gosem.cut.vars' lays the variable. In a bare row this is a premise. The card (YtodbfgfbkgpooaaDoorCards.lean) ties it to the program's text. -/
def laid_shunter_rank_none {H : Type} : DataW H := .agg [.lit (.int .i64 (-1)), .lit (.int .i64 (-1))]

/-- 'shunterlaw12.RankCompares': WHATEVER THE INPUT: true; the input reads as it did. -/
def rankComparesSpec : ChangeSpec := { name := "rankCompares", fn := fun _ => fun
  | [d1, d2, d3] => { results := [.lit (.bool true)], args := [d1, d2, d3] }
  | _ => none }
def rankComparesRow : OpenClaim := { program := "ytodbfgfbkgpooaadoor", sum := "8088046c888fb0c509a596f709b76b2efa2c187f98045d9cde6e0c221165082c", func := "shunter/shunterlaw12.RankCompares", spec := "rankCompares", unfollowed := true, recurses := true, named := ["shunter/rank.none"], apart := false, laid := [("shunter/rank.none", laid_shunter_rank_none)] }
def RankComparesSaid : Prop := rankComparesRow.holds Tryd.pinned (OpenSpec.ofChange rankComparesSpec)

/-- ITS FALSE NEIGHBOUR: 'it returns false'. Refute it at one input. -/
def rankComparesWrong : ChangeSpec := { name := "rankCompares", fn := fun _ => fun
  | [d1, d2, d3] => { results := [.lit (.bool false)], args := [d1, d2, d3] }
  | _ => none }
def RankComparesWrongFalsely : Prop := rankComparesRow.holds Tryd.pinned (OpenSpec.ofChange rankComparesWrong)

/-- 'shunterlaw12.RankMoves': WHATEVER THE INPUT: true; the input reads as it did. -/
def rankMovesSpec : ChangeSpec := { name := "rankMoves", fn := fun _ => fun
  | [d1, d2] => { results := [.lit (.bool true)], args := [d1, d2] }
  | _ => none }
def rankMovesRow : OpenClaim := { program := "ytodbfgfbkgpooaadoor", sum := "8088046c888fb0c509a596f709b76b2efa2c187f98045d9cde6e0c221165082c", func := "shunter/shunterlaw12.RankMoves", spec := "rankMoves", unfollowed := true, recurses := true, named := ["shunter/rank.none"], apart := false, laid := [("shunter/rank.none", laid_shunter_rank_none)] }
def RankMovesSaid : Prop := rankMovesRow.holds Tryd.pinned (OpenSpec.ofChange rankMovesSpec)

/-- ITS FALSE NEIGHBOUR: 'it returns false'. Refute it at one input. -/
def rankMovesWrong : ChangeSpec := { name := "rankMoves", fn := fun _ => fun
  | [d1, d2] => { results := [.lit (.bool false)], args := [d1, d2] }
  | _ => none }
def RankMovesWrongFalsely : Prop := rankMovesRow.holds Tryd.pinned (OpenSpec.ofChange rankMovesWrong)

/-- 'shunterlaw12.RankTakes': WHATEVER THE INPUT: true; the input reads as it did. -/
def rankTakesSpec : ChangeSpec := { name := "rankTakes", fn := fun _ => fun
  | [d1, d2] => { results := [.lit (.bool true)], args := [d1, d2] }
  | _ => none }
def rankTakesRow : OpenClaim := { program := "ytodbfgfbkgpooaadoor", sum := "8088046c888fb0c509a596f709b76b2efa2c187f98045d9cde6e0c221165082c", func := "shunter/shunterlaw12.RankTakes", spec := "rankTakes", unfollowed := true, recurses := true, named := ["shunter/rank.none"], apart := false, laid := [("shunter/rank.none", laid_shunter_rank_none)] }
def RankTakesSaid : Prop := rankTakesRow.holds Tryd.pinned (OpenSpec.ofChange rankTakesSpec)

/-- ITS FALSE NEIGHBOUR: 'it returns false'. Refute it at one input. -/
def rankTakesWrong : ChangeSpec := { name := "rankTakes", fn := fun _ => fun
  | [d1, d2] => { results := [.lit (.bool false)], args := [d1, d2] }
  | _ => none }
def RankTakesWrongFalsely : Prop := rankTakesRow.holds Tryd.pinned (OpenSpec.ofChange rankTakesWrong)

/-- 'shunterlaw12.RankTurns': WHATEVER THE INPUT: true; the input reads as it did. -/
def rankTurnsSpec : ChangeSpec := { name := "rankTurns", fn := fun _ => fun
  | [d] => { results := [.lit (.bool true)], args := [d] }
  | _ => none }
def rankTurnsRow : OpenClaim := { program := "ytodbfgfbkgpooaadoor", sum := "8088046c888fb0c509a596f709b76b2efa2c187f98045d9cde6e0c221165082c", func := "shunter/shunterlaw12.RankTurns", spec := "rankTurns", unfollowed := true, recurses := true, named := ["shunter/rank.none"], apart := false, laid := [("shunter/rank.none", laid_shunter_rank_none)] }
def RankTurnsSaid : Prop := rankTurnsRow.holds Tryd.pinned (OpenSpec.ofChange rankTurnsSpec)

/-- ITS FALSE NEIGHBOUR: 'it returns false'. Refute it at one input. -/
def rankTurnsWrong : ChangeSpec := { name := "rankTurns", fn := fun _ => fun
  | [d] => { results := [.lit (.bool false)], args := [d] }
  | _ => none }
def RankTurnsWrongFalsely : Prop := rankTurnsRow.holds Tryd.pinned (OpenSpec.ofChange rankTurnsWrong)

/-- 'shunterlaw12.RankMoved': WHATEVER THE INPUT: true; the input reads as it did. -/
def rankMovedSpec : ChangeSpec := { name := "rankMoved", fn := fun _ => fun
  | [d1, d2] => { results := [.lit (.bool true)], args := [d1, d2] }
  | _ => none }
def rankMovedRow : OpenClaim := { program := "ytodbfgfbkgpooaadoor", sum := "8088046c888fb0c509a596f709b76b2efa2c187f98045d9cde6e0c221165082c", func := "shunter/shunterlaw12.RankMoved", spec := "rankMoved", unfollowed := true, recurses := true, named := ["shunter/rank.none"], apart := false, laid := [("shunter/rank.none", laid_shunter_rank_none)] }
def RankMovedSaid : Prop := rankMovedRow.holds Tryd.pinned (OpenSpec.ofChange rankMovedSpec)

/-- ITS FALSE NEIGHBOUR: 'it returns false'. Refute it at one input. -/
def rankMovedWrong : ChangeSpec := { name := "rankMoved", fn := fun _ => fun
  | [d1, d2] => { results := [.lit (.bool false)], args := [d1, d2] }
  | _ => none }
def RankMovedWrongFalsely : Prop := rankMovedRow.holds Tryd.pinned (OpenSpec.ofChange rankMovedWrong)

/-- 'shunterlaw12.RankRanks': WHATEVER THE INPUT: true; the input reads as it did. -/
def rankRanksSpec : ChangeSpec := { name := "rankRanks", fn := fun _ => fun
  | [d1, d2] => { results := [.lit (.bool true)], args := [d1, d2] }
  | _ => none }
def rankRanksRow : OpenClaim := { program := "ytodbfgfbkgpooaadoor", sum := "8088046c888fb0c509a596f709b76b2efa2c187f98045d9cde6e0c221165082c", func := "shunter/shunterlaw12.RankRanks", spec := "rankRanks", unfollowed := true, recurses := true, named := ["shunter/rank.none"], apart := false, laid := [("shunter/rank.none", laid_shunter_rank_none)] }
def RankRanksSaid : Prop := rankRanksRow.holds Tryd.pinned (OpenSpec.ofChange rankRanksSpec)

/-- ITS FALSE NEIGHBOUR: 'it returns false'. Refute it at one input. -/
def rankRanksWrong : ChangeSpec := { name := "rankRanks", fn := fun _ => fun
  | [d1, d2] => { results := [.lit (.bool false)], args := [d1, d2] }
  | _ => none }
def RankRanksWrongFalsely : Prop := rankRanksRow.holds Tryd.pinned (OpenSpec.ofChange rankRanksWrong)

/-- 'shunterlaw12.RankOrders': WHATEVER THE INPUT: true; the input reads as it did. -/
def rankOrdersSpec : ChangeSpec := { name := "rankOrders", fn := fun _ => fun
  | [d] => { results := [.lit (.bool true)], args := [d] }
  | _ => none }
def rankOrdersRow : OpenClaim := { program := "ytodbfgfbkgpooaadoor", sum := "8088046c888fb0c509a596f709b76b2efa2c187f98045d9cde6e0c221165082c", func := "shunter/shunterlaw12.RankOrders", spec := "rankOrders", unfollowed := true, recurses := true, named := ["shunter/rank.none"], apart := false, laid := [("shunter/rank.none", laid_shunter_rank_none)] }
def RankOrdersSaid : Prop := rankOrdersRow.holds Tryd.pinned (OpenSpec.ofChange rankOrdersSpec)

/-- ITS FALSE NEIGHBOUR: 'it returns false'. Refute it at one input. -/
def rankOrdersWrong : ChangeSpec := { name := "rankOrders", fn := fun _ => fun
  | [d] => { results := [.lit (.bool false)], args := [d] }
  | _ => none }
def RankOrdersWrongFalsely : Prop := rankOrdersRow.holds Tryd.pinned (OpenSpec.ofChange rankOrdersWrong)

/-- 'shunterlaw12.RankExternal': WHATEVER THE INPUT: true; the input reads as it did. -/
def rankExternalSpec : ChangeSpec := { name := "rankExternal", fn := fun _ => fun
  | [d] => { results := [.lit (.bool true)], args := [d] }
  | _ => none }
def rankExternalRow : OpenClaim := { program := "ytodbfgfbkgpooaadoor", sum := "8088046c888fb0c509a596f709b76b2efa2c187f98045d9cde6e0c221165082c", func := "shunter/shunterlaw12.RankExternal", spec := "rankExternal", unfollowed := true, recurses := true, named := ["shunter/rank.none"], apart := false, laid := [("shunter/rank.none", laid_shunter_rank_none)] }
def RankExternalSaid : Prop := rankExternalRow.holds Tryd.pinned (OpenSpec.ofChange rankExternalSpec)

/-- ITS FALSE NEIGHBOUR: 'it returns false'. Refute it at one input. -/
def rankExternalWrong : ChangeSpec := { name := "rankExternal", fn := fun _ => fun
  | [d] => { results := [.lit (.bool false)], args := [d] }
  | _ => none }
def RankExternalWrongFalsely : Prop := rankExternalRow.holds Tryd.pinned (OpenSpec.ofChange rankExternalWrong)

/- THE SECOND FORM. 'bulk': how many values and letters a reading holds, each counted each time it is reached (what is shared counts as often as it is met; a slice's spare places count too). A statement '..UptoSaid' is the law's where the arguments, and the package variables that the reading takes, are together of bulk at most 1048576: NARROWER than '..Said'. Prove '..Said' where nothing that the law and all that it calls make is longer than what came in: it says more and counts as full. Else prove '..UptoSaid'. A law counts once. -/
mutual
def uptoBulk {H : Type} : DataW H → Nat
  | .lit (.string bytes) => bytes.length + 1
  | .lit _ => 1
  | .nil => 1
  | .ptr d => uptoBulk d + 1
  | .slice elems spare => uptoBulkAll elems + uptoBulkAll spare + 1
  | .agg parts => uptoBulkAll parts + 1
  | .iface _ d => uptoBulk d + 1
  | .map entries => uptoBulkEntries entries + 1
  | .held _ => 1
def uptoBulkAll {H : Type} : List (DataW H) → Nat
  | [] => 0
  | d :: r => uptoBulk d + uptoBulkAll r
def uptoBulkEntries {H : Type} : List (Lit × DataW H) → Nat
  | [] => 0
  | x :: r => uptoBulkEntry x + uptoBulkEntries r
def uptoBulkEntry {H : Type} : Lit × DataW H → Nat
  | (.string bytes, d) => bytes.length + uptoBulk d + 1
  | (_, d) => uptoBulk d + 1
 end
def uptoSmall : (H : Type) → List (DataW H) → Bool := fun _ ds => decide (uptoBulkAll ds ≤ 1048576)
def OpenSpec.upto (s : _root_.Go.ChangeSpec) : _root_.Go.OpenSpec := { _root_.Go.OpenSpec.ofChange s with cond := some uptoSmall }

/-- 'shunterlaw12.RankCompares', WHERE WHAT IT READS IS OF BULK AT MOST 1048576: true; the input reads as it did. -/
def rankComparesUptoRow : OpenClaim := { program := "ytodbfgfbkgpooaadoor", sum := "8088046c888fb0c509a596f709b76b2efa2c187f98045d9cde6e0c221165082c", func := "shunter/shunterlaw12.RankCompares", spec := "rankCompares", unfollowed := true, recurses := true, named := ["shunter/rank.none"], apart := false, laid := [("shunter/rank.none", laid_shunter_rank_none)], narrowed := true }
def RankComparesUptoSaid : Prop := rankComparesUptoRow.holds Tryd.pinned (OpenSpec.upto rankComparesSpec)

/-- 'shunterlaw12.RankMoves', WHERE WHAT IT READS IS OF BULK AT MOST 1048576: true; the input reads as it did. -/
def rankMovesUptoRow : OpenClaim := { program := "ytodbfgfbkgpooaadoor", sum := "8088046c888fb0c509a596f709b76b2efa2c187f98045d9cde6e0c221165082c", func := "shunter/shunterlaw12.RankMoves", spec := "rankMoves", unfollowed := true, recurses := true, named := ["shunter/rank.none"], apart := false, laid := [("shunter/rank.none", laid_shunter_rank_none)], narrowed := true }
def RankMovesUptoSaid : Prop := rankMovesUptoRow.holds Tryd.pinned (OpenSpec.upto rankMovesSpec)

/-- 'shunterlaw12.RankTakes', WHERE WHAT IT READS IS OF BULK AT MOST 1048576: true; the input reads as it did. -/
def rankTakesUptoRow : OpenClaim := { program := "ytodbfgfbkgpooaadoor", sum := "8088046c888fb0c509a596f709b76b2efa2c187f98045d9cde6e0c221165082c", func := "shunter/shunterlaw12.RankTakes", spec := "rankTakes", unfollowed := true, recurses := true, named := ["shunter/rank.none"], apart := false, laid := [("shunter/rank.none", laid_shunter_rank_none)], narrowed := true }
def RankTakesUptoSaid : Prop := rankTakesUptoRow.holds Tryd.pinned (OpenSpec.upto rankTakesSpec)

/-- 'shunterlaw12.RankTurns', WHERE WHAT IT READS IS OF BULK AT MOST 1048576: true; the input reads as it did. -/
def rankTurnsUptoRow : OpenClaim := { program := "ytodbfgfbkgpooaadoor", sum := "8088046c888fb0c509a596f709b76b2efa2c187f98045d9cde6e0c221165082c", func := "shunter/shunterlaw12.RankTurns", spec := "rankTurns", unfollowed := true, recurses := true, named := ["shunter/rank.none"], apart := false, laid := [("shunter/rank.none", laid_shunter_rank_none)], narrowed := true }
def RankTurnsUptoSaid : Prop := rankTurnsUptoRow.holds Tryd.pinned (OpenSpec.upto rankTurnsSpec)

/-- 'shunterlaw12.RankMoved', WHERE WHAT IT READS IS OF BULK AT MOST 1048576: true; the input reads as it did. -/
def rankMovedUptoRow : OpenClaim := { program := "ytodbfgfbkgpooaadoor", sum := "8088046c888fb0c509a596f709b76b2efa2c187f98045d9cde6e0c221165082c", func := "shunter/shunterlaw12.RankMoved", spec := "rankMoved", unfollowed := true, recurses := true, named := ["shunter/rank.none"], apart := false, laid := [("shunter/rank.none", laid_shunter_rank_none)], narrowed := true }
def RankMovedUptoSaid : Prop := rankMovedUptoRow.holds Tryd.pinned (OpenSpec.upto rankMovedSpec)

/-- 'shunterlaw12.RankRanks', WHERE WHAT IT READS IS OF BULK AT MOST 1048576: true; the input reads as it did. -/
def rankRanksUptoRow : OpenClaim := { program := "ytodbfgfbkgpooaadoor", sum := "8088046c888fb0c509a596f709b76b2efa2c187f98045d9cde6e0c221165082c", func := "shunter/shunterlaw12.RankRanks", spec := "rankRanks", unfollowed := true, recurses := true, named := ["shunter/rank.none"], apart := false, laid := [("shunter/rank.none", laid_shunter_rank_none)], narrowed := true }
def RankRanksUptoSaid : Prop := rankRanksUptoRow.holds Tryd.pinned (OpenSpec.upto rankRanksSpec)

/-- 'shunterlaw12.RankOrders', WHERE WHAT IT READS IS OF BULK AT MOST 1048576: true; the input reads as it did. -/
def rankOrdersUptoRow : OpenClaim := { program := "ytodbfgfbkgpooaadoor", sum := "8088046c888fb0c509a596f709b76b2efa2c187f98045d9cde6e0c221165082c", func := "shunter/shunterlaw12.RankOrders", spec := "rankOrders", unfollowed := true, recurses := true, named := ["shunter/rank.none"], apart := false, laid := [("shunter/rank.none", laid_shunter_rank_none)], narrowed := true }
def RankOrdersUptoSaid : Prop := rankOrdersUptoRow.holds Tryd.pinned (OpenSpec.upto rankOrdersSpec)

/-- 'shunterlaw12.RankExternal', WHERE WHAT IT READS IS OF BULK AT MOST 1048576: true; the input reads as it did. -/
def rankExternalUptoRow : OpenClaim := { program := "ytodbfgfbkgpooaadoor", sum := "8088046c888fb0c509a596f709b76b2efa2c187f98045d9cde6e0c221165082c", func := "shunter/shunterlaw12.RankExternal", spec := "rankExternal", unfollowed := true, recurses := true, named := ["shunter/rank.none"], apart := false, laid := [("shunter/rank.none", laid_shunter_rank_none)], narrowed := true }
def RankExternalUptoSaid : Prop := rankExternalUptoRow.holds Tryd.pinned (OpenSpec.upto rankExternalSpec)

end Rows
end Go.Proofs.YtodbfgfbkgpooaaDoor
