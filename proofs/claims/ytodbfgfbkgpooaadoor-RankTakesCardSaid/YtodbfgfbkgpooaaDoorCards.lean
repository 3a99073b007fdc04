/-
  DERIVED. GIVEN WITH THE SEED: THE CARDS: each row of YtodbfgfbkgpooaaDoorRows.lean that lists a variable, with what it lists TIED to the program's text (the seventh form; the later family's looks); each row that meets fmt, with fmt's text TOLD by the authors' own Lean function (tested against real Go, not proved from fmt's source: count such statements apart). THE CARD IS WHAT COUNTS. Prove the row's statement (the work); the ties are given (YtodbfgfbkgpooaaDoorTie.lean); close each card by the builder's one call (the guide's Derived/Test/ToyasCard.lean, 'card_holds'). Laid BY PROGRAM, IN A SANDBOX (cutbox-door.mjs). By AI agents, Wed Nov 11 2026. No macro, syntax, notation, axiom, sorry.
-/
import Derived.Test.YtodbfgfbkgpooaaDoorRows
import GoSem.ClaimSeven
namespace Go.Proofs.YtodbfgfbkgpooaaDoor
namespace Rows

/-- THE TIED CARD OF 'shunterlaw12.RankCompares'. -/
def rankComparesCard : Claim7 := { stood := { row := rankComparesRow, standIns := [], harness := (true, "92bf37087e4f57d29c361884281c60e1349c5d44b29048e794632a9665525a20"), looks := false }, kinds := [], alts := [], laidByText := true, laidKinds := [.data], laidTests := true, laidLooks := .later }
def RankComparesCardSaid : Prop := Claim7.holds Tryd.pinned (.plain (OpenSpec.ofChange rankComparesSpec)) rankComparesCard

/-- THE TIED CARD OF 'shunterlaw12.RankMoves'. -/
def rankMovesCard : Claim7 := { stood := { row := rankMovesRow, standIns := [], harness := (true, "92bf37087e4f57d29c361884281c60e1349c5d44b29048e794632a9665525a20"), looks := false }, kinds := [], alts := [], laidByText := true, laidKinds := [.data], laidTests := true, laidLooks := .later }
def RankMovesCardSaid : Prop := Claim7.holds Tryd.pinned (.plain (OpenSpec.ofChange rankMovesSpec)) rankMovesCard

/-- THE TIED CARD OF 'shunterlaw12.RankTakes'. -/
def rankTakesCard : Claim7 := { stood := { row := rankTakesRow, standIns := [], harness := (true, "92bf37087e4f57d29c361884281c60e1349c5d44b29048e794632a9665525a20"), looks := false }, kinds := [], alts := [], laidByText := true, laidKinds := [.data], laidTests := true, laidLooks := .later }
def RankTakesCardSaid : Prop := Claim7.holds Tryd.pinned (.plain (OpenSpec.ofChange rankTakesSpec)) rankTakesCard

/-- THE TIED CARD OF 'shunterlaw12.RankTurns'. -/
def rankTurnsCard : Claim7 := { stood := { row := rankTurnsRow, standIns := [], harness := (true, "92bf37087e4f57d29c361884281c60e1349c5d44b29048e794632a9665525a20"), looks := false }, kinds := [], alts := [], laidByText := true, laidKinds := [.data], laidTests := true, laidLooks := .later }
def RankTurnsCardSaid : Prop := Claim7.holds Tryd.pinned (.plain (OpenSpec.ofChange rankTurnsSpec)) rankTurnsCard

/-- THE TIED CARD OF 'shunterlaw12.RankMoved'. -/
def rankMovedCard : Claim7 := { stood := { row := rankMovedRow, standIns := [], harness := (true, "92bf37087e4f57d29c361884281c60e1349c5d44b29048e794632a9665525a20"), looks := false }, kinds := [], alts := [], laidByText := true, laidKinds := [.data], laidTests := true, laidLooks := .later }
def RankMovedCardSaid : Prop := Claim7.holds Tryd.pinned (.plain (OpenSpec.ofChange rankMovedSpec)) rankMovedCard

/-- THE TIED CARD OF 'shunterlaw12.RankRanks'. -/
def rankRanksCard : Claim7 := { stood := { row := rankRanksRow, standIns := [], harness := (true, "92bf37087e4f57d29c361884281c60e1349c5d44b29048e794632a9665525a20"), looks := false }, kinds := [], alts := [], laidByText := true, laidKinds := [.data], laidTests := true, laidLooks := .later }
def RankRanksCardSaid : Prop := Claim7.holds Tryd.pinned (.plain (OpenSpec.ofChange rankRanksSpec)) rankRanksCard

/-- THE TIED CARD OF 'shunterlaw12.RankOrders'. -/
def rankOrdersCard : Claim7 := { stood := { row := rankOrdersRow, standIns := [], harness := (true, "92bf37087e4f57d29c361884281c60e1349c5d44b29048e794632a9665525a20"), looks := false }, kinds := [], alts := [], laidByText := true, laidKinds := [.data], laidTests := true, laidLooks := .later }
def RankOrdersCardSaid : Prop := Claim7.holds Tryd.pinned (.plain (OpenSpec.ofChange rankOrdersSpec)) rankOrdersCard

/-- THE TIED CARD OF 'shunterlaw12.RankExternal'. -/
def rankExternalCard : Claim7 := { stood := { row := rankExternalRow, standIns := [], harness := (true, "92bf37087e4f57d29c361884281c60e1349c5d44b29048e794632a9665525a20"), looks := false }, kinds := [], alts := [], laidByText := true, laidKinds := [.data], laidTests := true, laidLooks := .later }
def RankExternalCardSaid : Prop := Claim7.holds Tryd.pinned (.plain (OpenSpec.ofChange rankExternalSpec)) rankExternalCard

/-- THE SECOND FORM's CARD OF 'shunterlaw12.RankCompares'. -/
def rankComparesUptoCard : Claim7 := { stood := { row := rankComparesUptoRow, standIns := [], harness := (true, "92bf37087e4f57d29c361884281c60e1349c5d44b29048e794632a9665525a20"), looks := false }, kinds := [], alts := [], laidByText := true, laidKinds := [.data], laidTests := true, laidLooks := .later }
def RankComparesUptoCardSaid : Prop := Claim7.holds Tryd.pinned (.plain (OpenSpec.upto rankComparesSpec)) rankComparesUptoCard

/-- THE SECOND FORM's CARD OF 'shunterlaw12.RankMoves'. -/
def rankMovesUptoCard : Claim7 := { stood := { row := rankMovesUptoRow, standIns := [], harness := (true, "92bf37087e4f57d29c361884281c60e1349c5d44b29048e794632a9665525a20"), looks := false }, kinds := [], alts := [], laidByText := true, laidKinds := [.data], laidTests := true, laidLooks := .later }
def RankMovesUptoCardSaid : Prop := Claim7.holds Tryd.pinned (.plain (OpenSpec.upto rankMovesSpec)) rankMovesUptoCard

/-- THE SECOND FORM's CARD OF 'shunterlaw12.RankTakes'. -/
def rankTakesUptoCard : Claim7 := { stood := { row := rankTakesUptoRow, standIns := [], harness := (true, "92bf37087e4f57d29c361884281c60e1349c5d44b29048e794632a9665525a20"), looks := false }, kinds := [], alts := [], laidByText := true, laidKinds := [.data], laidTests := true, laidLooks := .later }
def RankTakesUptoCardSaid : Prop := Claim7.holds Tryd.pinned (.plain (OpenSpec.upto rankTakesSpec)) rankTakesUptoCard

/-- THE SECOND FORM's CARD OF 'shunterlaw12.RankTurns'. -/
def rankTurnsUptoCard : Claim7 := { stood := { row := rankTurnsUptoRow, standIns := [], harness := (true, "92bf37087e4f57d29c361884281c60e1349c5d44b29048e794632a9665525a20"), looks := false }, kinds := [], alts := [], laidByText := true, laidKinds := [.data], laidTests := true, laidLooks := .later }
def RankTurnsUptoCardSaid : Prop := Claim7.holds Tryd.pinned (.plain (OpenSpec.upto rankTurnsSpec)) rankTurnsUptoCard

/-- THE SECOND FORM's CARD OF 'shunterlaw12.RankMoved'. -/
def rankMovedUptoCard : Claim7 := { stood := { row := rankMovedUptoRow, standIns := [], harness := (true, "92bf37087e4f57d29c361884281c60e1349c5d44b29048e794632a9665525a20"), looks := false }, kinds := [], alts := [], laidByText := true, laidKinds := [.data], laidTests := true, laidLooks := .later }
def RankMovedUptoCardSaid : Prop := Claim7.holds Tryd.pinned (.plain (OpenSpec.upto rankMovedSpec)) rankMovedUptoCard

/-- THE SECOND FORM's CARD OF 'shunterlaw12.RankRanks'. -/
def rankRanksUptoCard : Claim7 := { stood := { row := rankRanksUptoRow, standIns := [], harness := (true, "92bf37087e4f57d29c361884281c60e1349c5d44b29048e794632a9665525a20"), looks := false }, kinds := [], alts := [], laidByText := true, laidKinds := [.data], laidTests := true, laidLooks := .later }
def RankRanksUptoCardSaid : Prop := Claim7.holds Tryd.pinned (.plain (OpenSpec.upto rankRanksSpec)) rankRanksUptoCard

/-- THE SECOND FORM's CARD OF 'shunterlaw12.RankOrders'. -/
def rankOrdersUptoCard : Claim7 := { stood := { row := rankOrdersUptoRow, standIns := [], harness := (true, "92bf37087e4f57d29c361884281c60e1349c5d44b29048e794632a9665525a20"), looks := false }, kinds := [], alts := [], laidByText := true, laidKinds := [.data], laidTests := true, laidLooks := .later }
def RankOrdersUptoCardSaid : Prop := Claim7.holds Tryd.pinned (.plain (OpenSpec.upto rankOrdersSpec)) rankOrdersUptoCard

/-- THE SECOND FORM's CARD OF 'shunterlaw12.RankExternal'. -/
def rankExternalUptoCard : Claim7 := { stood := { row := rankExternalUptoRow, standIns := [], harness := (true, "92bf37087e4f57d29c361884281c60e1349c5d44b29048e794632a9665525a20"), looks := false }, kinds := [], alts := [], laidByText := true, laidKinds := [.data], laidTests := true, laidLooks := .later }
def RankExternalUptoCardSaid : Prop := Claim7.holds Tryd.pinned (.plain (OpenSpec.upto rankExternalSpec)) rankExternalUptoCard
end Rows
end Go.Proofs.YtodbfgfbkgpooaaDoor
