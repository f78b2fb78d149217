/-
  DERIVED. GIVEN WITH THE SEED: THE CARDS: each row of YtgnihbbhmbbkbaaDoorRows.lean that lists a variable, with what it lists TIED to the program's text (the seventh form; the later family's looks); each row that meets fmt, with fmt's text TOLD by the authors' own Lean function (tested against real Go, not proved from fmt's source: count such statements apart). THE CARD IS WHAT COUNTS. Prove the row's statement (the work); the ties are given (YtgnihbbhmbbkbaaDoorTie.lean); close each card by the builder's one call (the guide's Derived/Test/ToyasCard.lean, 'card_holds'). Laid BY PROGRAM, IN A SANDBOX (cutbox-door.mjs). By AI agents, Wed Nov 11 2026. No macro, syntax, notation, axiom, sorry.
-/
import Derived.Test.YtgnihbbhmbbkbaaDoorRows
import GoSem.ClaimSeven
namespace Go.Proofs.YtgnihbbhmbbkbaaDoor
namespace Rows

/-- THE TIED CARD OF 'morainelaw06.NamesQuotes'. -/
def namesQuotesCard : Claim7 := { stood := { row := namesQuotesRow, standIns := [], harness := (true, "561adfa24ef8482cb201940e0c007fb932628e99e327228c5326831c7af5d6dd"), looks := true }, kinds := [], alts := [], laidByText := true, laidKinds := [.data, .pinned], laidTests := true, laidLooks := .later }
def NamesQuotesCardSaid : Prop := Claim7.holds Tryd.pinned (.plain (OpenSpec.ofChange namesQuotesSpec)) namesQuotesCard

/-- THE TIED CARD OF 'morainelaw06.NamesWords'. -/
def namesWordsCard : Claim7 := { stood := { row := namesWordsRow, standIns := [], harness := (true, "561adfa24ef8482cb201940e0c007fb932628e99e327228c5326831c7af5d6dd"), looks := true }, kinds := [], alts := [], laidByText := true, laidKinds := [.data, .pinned], laidTests := true, laidLooks := .later }
def NamesWordsCardSaid : Prop := Claim7.holds Tryd.pinned (.plain (OpenSpec.ofChange namesWordsSpec)) namesWordsCard

/-- THE TIED CARD OF 'morainelaw06.NamesWide'. -/
def namesWideCard : Claim7 := { stood := { row := namesWideRow, standIns := [], harness := (true, "561adfa24ef8482cb201940e0c007fb932628e99e327228c5326831c7af5d6dd"), looks := true }, kinds := [], alts := [], laidByText := true, laidKinds := [.data, .data, .data, .data, .pinned], laidTests := true, laidLooks := .later }
def NamesWideCardSaid : Prop := Claim7.holds Tryd.pinned (.plain (OpenSpec.ofChange namesWideSpec)) namesWideCard

/-- THE TIED CARD OF 'morainelaw06.NamesUnlike'. -/
def namesUnlikeCard : Claim7 := { stood := { row := namesUnlikeRow, standIns := [], harness := (true, "561adfa24ef8482cb201940e0c007fb932628e99e327228c5326831c7af5d6dd"), looks := true }, kinds := [], alts := [], laidByText := true, laidKinds := [.data, .data, .data, .data, .pinned], laidTests := true, laidLooks := .later }
def NamesUnlikeCardSaid : Prop := Claim7.holds Tryd.pinned (.plain (OpenSpec.ofChange namesUnlikeSpec)) namesUnlikeCard

/-- THE TIED CARD OF 'morainelaw06.NamesParted'. -/
def namesPartedCard : Claim7 := { stood := { row := namesPartedRow, standIns := [], harness := (true, "561adfa24ef8482cb201940e0c007fb932628e99e327228c5326831c7af5d6dd"), looks := true }, kinds := [], alts := [], laidByText := true, laidKinds := [.data, .data, .data, .data, .pinned], laidTests := true, laidLooks := .later }
def NamesPartedCardSaid : Prop := Claim7.holds Tryd.pinned (.plain (OpenSpec.ofChange namesPartedSpec)) namesPartedCard

/-- THE TIED CARD OF 'morainelaw06.NamesNames'. -/
def namesNamesCard : Claim7 := { stood := { row := namesNamesRow, standIns := [], harness := (true, "561adfa24ef8482cb201940e0c007fb932628e99e327228c5326831c7af5d6dd"), looks := true }, kinds := [], alts := [], laidByText := true, laidKinds := [.data, .data, .data, .sentinel, .sentinel], laidTests := true, laidLooks := .later }
def NamesNamesCardSaid : Prop := Claim7.holds Tryd.pinned (.plain (OpenSpec.ofChange namesNamesSpec)) namesNamesCard

/-- THE TIED CARD OF 'morainelaw06.NamesBack'. -/
def namesBackCard : Claim7 := { stood := { row := namesBackRow, standIns := [], harness := (true, "561adfa24ef8482cb201940e0c007fb932628e99e327228c5326831c7af5d6dd"), looks := true }, kinds := [], alts := [], laidByText := true, laidKinds := [.data, .data, .data, .data, .sentinel, .sentinel, .pinned], laidTests := true, laidLooks := .later }
def NamesBackCardSaid : Prop := Claim7.holds Tryd.pinned (.plain (OpenSpec.ofChange namesBackSpec)) namesBackCard

/-- THE TIED CARD OF 'morainelaw06.NamesSorts'. -/
def namesSortsCard : Claim7 := { stood := { row := namesSortsRow, standIns := [], harness := (true, "561adfa24ef8482cb201940e0c007fb932628e99e327228c5326831c7af5d6dd"), looks := true }, kinds := [], alts := [], laidByText := true, laidKinds := [.data, .data, .data, .sentinel, .sentinel], laidTests := true, laidLooks := .later }
def NamesSortsCardSaid : Prop := Claim7.holds Tryd.pinned (.plain (OpenSpec.ofChange namesSortsSpec)) namesSortsCard

/-- THE SECOND FORM's CARD OF 'morainelaw06.NamesQuotes'. -/
def namesQuotesUptoCard : Claim7 := { stood := { row := namesQuotesUptoRow, standIns := [], harness := (true, "561adfa24ef8482cb201940e0c007fb932628e99e327228c5326831c7af5d6dd"), looks := true }, kinds := [], alts := [], laidByText := true, laidKinds := [.data, .pinned], laidTests := true, laidLooks := .later }
def NamesQuotesUptoCardSaid : Prop := Claim7.holds Tryd.pinned (.plain (OpenSpec.upto namesQuotesSpec)) namesQuotesUptoCard

/-- THE SECOND FORM's CARD OF 'morainelaw06.NamesWords'. -/
def namesWordsUptoCard : Claim7 := { stood := { row := namesWordsUptoRow, standIns := [], harness := (true, "561adfa24ef8482cb201940e0c007fb932628e99e327228c5326831c7af5d6dd"), looks := true }, kinds := [], alts := [], laidByText := true, laidKinds := [.data, .pinned], laidTests := true, laidLooks := .later }
def NamesWordsUptoCardSaid : Prop := Claim7.holds Tryd.pinned (.plain (OpenSpec.upto namesWordsSpec)) namesWordsUptoCard

/-- THE SECOND FORM's CARD OF 'morainelaw06.NamesWide'. -/
def namesWideUptoCard : Claim7 := { stood := { row := namesWideUptoRow, standIns := [], harness := (true, "561adfa24ef8482cb201940e0c007fb932628e99e327228c5326831c7af5d6dd"), looks := true }, kinds := [], alts := [], laidByText := true, laidKinds := [.data, .data, .data, .data, .pinned], laidTests := true, laidLooks := .later }
def NamesWideUptoCardSaid : Prop := Claim7.holds Tryd.pinned (.plain (OpenSpec.upto namesWideSpec)) namesWideUptoCard

/-- THE SECOND FORM's CARD OF 'morainelaw06.NamesUnlike'. -/
def namesUnlikeUptoCard : Claim7 := { stood := { row := namesUnlikeUptoRow, standIns := [], harness := (true, "561adfa24ef8482cb201940e0c007fb932628e99e327228c5326831c7af5d6dd"), looks := true }, kinds := [], alts := [], laidByText := true, laidKinds := [.data, .data, .data, .data, .pinned], laidTests := true, laidLooks := .later }
def NamesUnlikeUptoCardSaid : Prop := Claim7.holds Tryd.pinned (.plain (OpenSpec.upto namesUnlikeSpec)) namesUnlikeUptoCard

/-- THE SECOND FORM's CARD OF 'morainelaw06.NamesParted'. -/
def namesPartedUptoCard : Claim7 := { stood := { row := namesPartedUptoRow, standIns := [], harness := (true, "561adfa24ef8482cb201940e0c007fb932628e99e327228c5326831c7af5d6dd"), looks := true }, kinds := [], alts := [], laidByText := true, laidKinds := [.data, .data, .data, .data, .pinned], laidTests := true, laidLooks := .later }
def NamesPartedUptoCardSaid : Prop := Claim7.holds Tryd.pinned (.plain (OpenSpec.upto namesPartedSpec)) namesPartedUptoCard

/-- THE SECOND FORM's CARD OF 'morainelaw06.NamesNames'. -/
def namesNamesUptoCard : Claim7 := { stood := { row := namesNamesUptoRow, standIns := [], harness := (true, "561adfa24ef8482cb201940e0c007fb932628e99e327228c5326831c7af5d6dd"), looks := true }, kinds := [], alts := [], laidByText := true, laidKinds := [.data, .data, .data, .sentinel, .sentinel], laidTests := true, laidLooks := .later }
def NamesNamesUptoCardSaid : Prop := Claim7.holds Tryd.pinned (.plain (OpenSpec.upto namesNamesSpec)) namesNamesUptoCard

/-- THE SECOND FORM's CARD OF 'morainelaw06.NamesBack'. -/
def namesBackUptoCard : Claim7 := { stood := { row := namesBackUptoRow, standIns := [], harness := (true, "561adfa24ef8482cb201940e0c007fb932628e99e327228c5326831c7af5d6dd"), looks := true }, kinds := [], alts := [], laidByText := true, laidKinds := [.data, .data, .data, .data, .sentinel, .sentinel, .pinned], laidTests := true, laidLooks := .later }
def NamesBackUptoCardSaid : Prop := Claim7.holds Tryd.pinned (.plain (OpenSpec.upto namesBackSpec)) namesBackUptoCard

/-- THE SECOND FORM's CARD OF 'morainelaw06.NamesSorts'. -/
def namesSortsUptoCard : Claim7 := { stood := { row := namesSortsUptoRow, standIns := [], harness := (true, "561adfa24ef8482cb201940e0c007fb932628e99e327228c5326831c7af5d6dd"), looks := true }, kinds := [], alts := [], laidByText := true, laidKinds := [.data, .data, .data, .sentinel, .sentinel], laidTests := true, laidLooks := .later }
def NamesSortsUptoCardSaid : Prop := Claim7.holds Tryd.pinned (.plain (OpenSpec.upto namesSortsSpec)) namesSortsUptoCard
end Rows
end Go.Proofs.YtgnihbbhmbbkbaaDoor
