/-
  DERIVED. GIVEN WITH THE SEED: THE CARDS: each row of YthndplnjiibgkaaDoorRows.lean that lists a variable, with what it lists TIED to the program's text (the seventh form; the later family's looks); each row that meets fmt, with fmt's text TOLD by the authors' own Lean function (tested against real Go, not proved from fmt's source: count such statements apart). THE CARD IS WHAT COUNTS. Prove the row's statement (the work); the ties are given (YthndplnjiibgkaaDoorTie.lean); close each card by the builder's one call (the guide's Derived/Test/ToyasCard.lean, 'card_holds'). Laid BY PROGRAM, IN A SANDBOX (cutbox-door.mjs). By AI agents, Wed Nov 11 2026. No macro, syntax, notation, axiom, sorry.
-/
import Derived.Test.YthndplnjiibgkaaDoorRows
import GoSem.ClaimSeven
namespace Go.Proofs.YthndplnjiibgkaaDoor
namespace Rows

/-- THE TIED CARD OF 'morainelaw24.ReopenReplays'. -/
def reopenReplaysCard : Claim7 := { stood := { row := reopenReplaysRow, standIns := [], harness := (true, "f1b262c337fecb751a39b7fe3fac2a811cfdedc650c85d0eecc6debcc94be7ff"), looks := false }, kinds := [], alts := [], laidByText := true, laidKinds := [.data], laidTests := true, laidLooks := .later }
def ReopenReplaysCardSaid : Prop := Claim7.holds Tryd.pinned (.plain (OpenSpec.ofChange reopenReplaysSpec)) reopenReplaysCard

/-- THE SECOND FORM's CARD OF 'morainelaw24.ReopenReplays'. -/
def reopenReplaysUptoCard : Claim7 := { stood := { row := reopenReplaysUptoRow, standIns := [], harness := (true, "f1b262c337fecb751a39b7fe3fac2a811cfdedc650c85d0eecc6debcc94be7ff"), looks := false }, kinds := [], alts := [], laidByText := true, laidKinds := [.data], laidTests := true, laidLooks := .later }
def ReopenReplaysUptoCardSaid : Prop := Claim7.holds Tryd.pinned (.plain (OpenSpec.upto reopenReplaysSpec)) reopenReplaysUptoCard
end Rows
end Go.Proofs.YthndplnjiibgkaaDoor
