/-
  DERIVED. GIVEN WITH THE SEED: THE CARDS: each row of YtdpmeeflhnijkabGreatDoorRows.lean that lists a variable, with what it lists TIED to the program's text (the seventh form; the later family's looks); each row that meets fmt, with fmt's text TOLD by the authors' own Lean function (tested against real Go, not proved from fmt's source: count such statements apart). THE CARD IS WHAT COUNTS. Prove the row's statement (the work); the ties are given (YtdpmeeflhnijkabGreatDoorTie.lean); close each card by the builder's one call (the guide's Derived/Test/ToyasCard.lean, 'card_holds'). Laid BY PROGRAM, IN A SANDBOX (cutbox-door.mjs). By AI agents, Wed Nov 11 2026. No macro, syntax, notation, axiom, sorry.
-/
import Derived.Test.YtdpmeeflhnijkabGreatDoorRows
import GoSem.ClaimSeven
namespace Go.Proofs.YtdpmeeflhnijkabGreatDoor
namespace Rows

/-- THE TIED CARD OF 'morainelaw13.TableNobody'. -/
def tableNobodyCard : Claim7 := { stood := { row := tableNobodyRow, standIns := [], harness := (true, "c25b93e03a03b20fc135b8e47b8253bb6bd4cfd47e6a7c02334cd50c5f833f57"), looks := false }, kinds := [], alts := [], laidByText := true, laidKinds := [.data], laidTests := true, laidLooks := .later }
def TableNobodyCardSaid : Prop := Claim7.holds Tryz.pinned (.plain (OpenSpec.ofChange tableNobodySpec)) tableNobodyCard

/-- THE SECOND FORM's CARD OF 'morainelaw13.TableNobody'. -/
def tableNobodyUptoCard : Claim7 := { stood := { row := tableNobodyUptoRow, standIns := [], harness := (true, "c25b93e03a03b20fc135b8e47b8253bb6bd4cfd47e6a7c02334cd50c5f833f57"), looks := false }, kinds := [], alts := [], laidByText := true, laidKinds := [.data], laidTests := true, laidLooks := .later }
def TableNobodyUptoCardSaid : Prop := Claim7.holds Tryz.pinned (.plain (OpenSpec.upto tableNobodySpec)) tableNobodyUptoCard
end Rows
end Go.Proofs.YtdpmeeflhnijkabGreatDoor
