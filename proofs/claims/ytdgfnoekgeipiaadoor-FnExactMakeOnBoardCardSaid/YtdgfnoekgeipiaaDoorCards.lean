/-
  DERIVED. GIVEN WITH THE SEED: THE CARDS: each row of YtdgfnoekgeipiaaDoorRows.lean that lists a variable, with what it lists TIED to the program's text (the seventh form; the later family's looks); each row that meets fmt, with fmt's text TOLD by the authors' own Lean function (tested against real Go, not proved from fmt's source: count such statements apart). THE CARD IS WHAT COUNTS. Prove the row's statement (the work); the ties are given (YtdgfnoekgeipiaaDoorTie.lean); close each card by the builder's one call (the guide's Derived/Test/ToyasCard.lean, 'card_holds'). Laid BY PROGRAM, IN A SANDBOX (cutbox-door.mjs). By AI agents, Wed Nov 11 2026. No macro, syntax, notation, axiom, sorry.
-/
import Derived.Test.YtdgfnoekgeipiaaDoorRows
import GoSem.ClaimSeven
namespace Go.Proofs.YtdgfnoekgeipiaaDoor
namespace Rows

/-- THE TIED CARD OF 'laws.FnExactMakeOnBoard'. -/
def fnExactMakeOnBoardCard : Claim7 := { stood := { row := fnExactMakeOnBoardRow, standIns := [], harness := (true, "e42d8ad41e0b97f28eb4a2a6b8ac07ece3d0bd4e53f854478245585ebd0fcee5"), looks := false }, kinds := [], alts := [], laidByText := true, laidKinds := [.data, .pinned], laidTests := true, laidLooks := .later }
def FnExactMakeOnBoardCardSaid : Prop := Claim7.holds Tryd.pinned (.plain (OpenSpec.ofChange fnExactMakeOnBoardSpec)) fnExactMakeOnBoardCard

/-- THE SECOND FORM's CARD OF 'laws.FnExactMakeOnBoard'. -/
def fnExactMakeOnBoardUptoCard : Claim7 := { stood := { row := fnExactMakeOnBoardUptoRow, standIns := [], harness := (true, "e42d8ad41e0b97f28eb4a2a6b8ac07ece3d0bd4e53f854478245585ebd0fcee5"), looks := false }, kinds := [], alts := [], laidByText := true, laidKinds := [.data, .pinned], laidTests := true, laidLooks := .later }
def FnExactMakeOnBoardUptoCardSaid : Prop := Claim7.holds Tryd.pinned (.plain (OpenSpec.upto fnExactMakeOnBoardSpec)) fnExactMakeOnBoardUptoCard
end Rows
end Go.Proofs.YtdgfnoekgeipiaaDoor
