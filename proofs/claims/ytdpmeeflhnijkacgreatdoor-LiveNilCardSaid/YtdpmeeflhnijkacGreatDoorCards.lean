/-
  DERIVED. GIVEN WITH THE SEED: THE CARDS: each row of YtdpmeeflhnijkacGreatDoorRows.lean that lists a variable, with what it lists TIED to the program's text (the seventh form; the later family's looks); each row that meets fmt, with fmt's text TOLD by the authors' own Lean function (tested against real Go, not proved from fmt's source: count such statements apart). THE CARD IS WHAT COUNTS. Prove the row's statement (the work); the ties are given (YtdpmeeflhnijkacGreatDoorTie.lean); close each card by the builder's one call (the guide's Derived/Test/ToyasCard.lean, 'card_holds'). Laid BY PROGRAM, IN A SANDBOX (cutbox-door.mjs). By AI agents, Wed Nov 11 2026. No macro, syntax, notation, axiom, sorry.
-/
import Derived.Test.YtdpmeeflhnijkacGreatDoorRows
import GoSem.ClaimSeven
namespace Go.Proofs.YtdpmeeflhnijkacGreatDoor
namespace Rows

/-- THE TIED CARD OF 'morainelaw18.LiveNil'. -/
def liveNilCard : Claim7 := { stood := { row := liveNilRow, standIns := [], harness := (true, "dd7e385ddaaa2c0b792eb23533dfe49e792c3e4a8705fee57407db9605802d78"), looks := true }, kinds := [], alts := [], laidByText := true, laidKinds := [.data, .data, .data, .sentinel, .sentinel], laidTests := true, laidLooks := .later }
def LiveNilCardSaid : Prop := Claim7.holds Tryz.pinned (.plain (OpenSpec.ofChange liveNilSpec)) liveNilCard

/-- THE SECOND FORM's CARD OF 'morainelaw18.LiveNil'. -/
def liveNilUptoCard : Claim7 := { stood := { row := liveNilUptoRow, standIns := [], harness := (true, "dd7e385ddaaa2c0b792eb23533dfe49e792c3e4a8705fee57407db9605802d78"), looks := true }, kinds := [], alts := [], laidByText := true, laidKinds := [.data, .data, .data, .sentinel, .sentinel], laidTests := true, laidLooks := .later }
def LiveNilUptoCardSaid : Prop := Claim7.holds Tryz.pinned (.plain (OpenSpec.upto liveNilSpec)) liveNilUptoCard
end Rows
end Go.Proofs.YtdpmeeflhnijkacGreatDoor
