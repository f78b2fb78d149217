/-
  DERIVED. GIVEN WITH THE SEED: THE CARDS: each row of YtligonpmifolfaaGreatDoorRows.lean that lists a variable, with what it lists TIED to the program's text (the seventh form; the later family's looks); each row that meets fmt, with fmt's text TOLD by the authors' own Lean function (tested against real Go, not proved from fmt's source: count such statements apart). THE CARD IS WHAT COUNTS. Prove the row's statement (the work); the ties are given (YtligonpmifolfaaGreatDoorTie.lean); close each card by the builder's one call (the guide's Derived/Test/ToyasCard.lean, 'card_holds'). Laid BY PROGRAM, IN A SANDBOX (cutbox-door.mjs). By AI agents, Wed Nov 11 2026. No macro, syntax, notation, axiom, sorry.
-/
import Derived.Test.YtligonpmifolfaaGreatDoorRows
import GoSem.ClaimSeven
namespace Go.Proofs.YtligonpmifolfaaGreatDoor
namespace Rows

/-- THE TIED CARD OF 'morainelaw18.LivePlays'. -/
def livePlaysCard : Claim7 := { stood := { row := livePlaysRow, standIns := [], harness := (true, "92b66dc89a52358126c8af3c7115090abc8a1902da3c14119bd79c7d949dd625"), looks := true }, kinds := [], alts := [], laidByText := true, laidKinds := [.data, .data, .data, .sentinel, .sentinel], laidTests := true, laidLooks := .later }
def LivePlaysCardSaid : Prop := Claim7.holds Tryz.pinned (.plain (OpenSpec.ofChange livePlaysSpec)) livePlaysCard

/-- THE TIED CARD OF 'morainelaw18.LiveCalm'. -/
def liveCalmCard : Claim7 := { stood := { row := liveCalmRow, standIns := [], harness := (true, "92b66dc89a52358126c8af3c7115090abc8a1902da3c14119bd79c7d949dd625"), looks := true }, kinds := [], alts := [], laidByText := true, laidKinds := [.data, .data, .data, .sentinel, .sentinel], laidTests := true, laidLooks := .later }
def LiveCalmCardSaid : Prop := Claim7.holds Tryz.pinned (.plain (OpenSpec.ofChange liveCalmSpec)) liveCalmCard

/-- THE TIED CARD OF 'morainelaw18.LiveHeld'. -/
def liveHeldCard : Claim7 := { stood := { row := liveHeldRow, standIns := [], harness := (true, "92b66dc89a52358126c8af3c7115090abc8a1902da3c14119bd79c7d949dd625"), looks := true }, kinds := [], alts := [], laidByText := true, laidKinds := [.data, .data, .data, .sentinel, .sentinel], laidTests := true, laidLooks := .later }
def LiveHeldCardSaid : Prop := Claim7.holds Tryz.pinned (.plain (OpenSpec.ofChange liveHeldSpec)) liveHeldCard

/-- THE SECOND FORM's CARD OF 'morainelaw18.LivePlays'. -/
def livePlaysUptoCard : Claim7 := { stood := { row := livePlaysUptoRow, standIns := [], harness := (true, "92b66dc89a52358126c8af3c7115090abc8a1902da3c14119bd79c7d949dd625"), looks := true }, kinds := [], alts := [], laidByText := true, laidKinds := [.data, .data, .data, .sentinel, .sentinel], laidTests := true, laidLooks := .later }
def LivePlaysUptoCardSaid : Prop := Claim7.holds Tryz.pinned (.plain (OpenSpec.upto livePlaysSpec)) livePlaysUptoCard

/-- THE SECOND FORM's CARD OF 'morainelaw18.LiveCalm'. -/
def liveCalmUptoCard : Claim7 := { stood := { row := liveCalmUptoRow, standIns := [], harness := (true, "92b66dc89a52358126c8af3c7115090abc8a1902da3c14119bd79c7d949dd625"), looks := true }, kinds := [], alts := [], laidByText := true, laidKinds := [.data, .data, .data, .sentinel, .sentinel], laidTests := true, laidLooks := .later }
def LiveCalmUptoCardSaid : Prop := Claim7.holds Tryz.pinned (.plain (OpenSpec.upto liveCalmSpec)) liveCalmUptoCard

/-- THE SECOND FORM's CARD OF 'morainelaw18.LiveHeld'. -/
def liveHeldUptoCard : Claim7 := { stood := { row := liveHeldUptoRow, standIns := [], harness := (true, "92b66dc89a52358126c8af3c7115090abc8a1902da3c14119bd79c7d949dd625"), looks := true }, kinds := [], alts := [], laidByText := true, laidKinds := [.data, .data, .data, .sentinel, .sentinel], laidTests := true, laidLooks := .later }
def LiveHeldUptoCardSaid : Prop := Claim7.holds Tryz.pinned (.plain (OpenSpec.upto liveHeldSpec)) liveHeldUptoCard
end Rows
end Go.Proofs.YtligonpmifolfaaGreatDoor
