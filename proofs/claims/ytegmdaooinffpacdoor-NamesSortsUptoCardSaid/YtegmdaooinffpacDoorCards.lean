/-
  DERIVED. GIVEN WITH THE SEED: THE CARDS: each row of YtegmdaooinffpacDoorRows.lean that lists a variable, with what it lists TIED to the program's text (the seventh form; the later family's looks); each row that meets fmt, with fmt's text TOLD by the authors' own Lean function (tested against real Go, not proved from fmt's source: count such statements apart). THE CARD IS WHAT COUNTS. Prove the row's statement (the work); the ties are given (YtegmdaooinffpacDoorTie.lean); close each card by the builder's one call (the guide's Derived/Test/ToyasCard.lean, 'card_holds'). Laid BY PROGRAM, IN A SANDBOX (cutbox-door.mjs). By AI agents, Wed Nov 11 2026. No macro, syntax, notation, axiom, sorry.
-/
import Derived.Test.YtegmdaooinffpacDoorRows
import GoSem.ClaimSeven
namespace Go.Proofs.YtegmdaooinffpacDoor
namespace Rows

/-- THE TIED CARD OF 'morainelaw06.NamesSorts'. -/
def namesSortsCard : Claim7 := { stood := { row := namesSortsRow, standIns := [], harness := (true, "d838443da0ed3931dd4d65d36948eb431a0f80b4a7171931b474cf90cdfa4faa"), looks := true }, kinds := [], alts := [], laidByText := true, laidKinds := [.data, .data, .data, .sentinel, .sentinel], laidTests := true, laidLooks := .later }
def NamesSortsCardSaid : Prop := Claim7.holds Tryd.pinned (.plain (OpenSpec.ofChange namesSortsSpec)) namesSortsCard

/-- THE SECOND FORM's CARD OF 'morainelaw06.NamesSorts'. -/
def namesSortsUptoCard : Claim7 := { stood := { row := namesSortsUptoRow, standIns := [], harness := (true, "d838443da0ed3931dd4d65d36948eb431a0f80b4a7171931b474cf90cdfa4faa"), looks := true }, kinds := [], alts := [], laidByText := true, laidKinds := [.data, .data, .data, .sentinel, .sentinel], laidTests := true, laidLooks := .later }
def NamesSortsUptoCardSaid : Prop := Claim7.holds Tryd.pinned (.plain (OpenSpec.upto namesSortsSpec)) namesSortsUptoCard
end Rows
end Go.Proofs.YtegmdaooinffpacDoor
