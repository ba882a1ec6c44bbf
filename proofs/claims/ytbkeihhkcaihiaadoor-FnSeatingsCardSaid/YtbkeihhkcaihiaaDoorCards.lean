/-
  DERIVED. GIVEN WITH THE SEED: THE CARDS: each row of YtbkeihhkcaihiaaDoorRows.lean that lists a variable, with what it lists TIED to the program's text (the seventh form; the later family's looks); each row that meets fmt, with fmt's text TOLD by the authors' own Lean function (tested against real Go, not proved from fmt's source: count such statements apart). THE CARD IS WHAT COUNTS. Prove the row's statement (the work); the ties are given (YtbkeihhkcaihiaaDoorTie.lean); close each card by the builder's one call (the guide's Derived/Test/ToyasCard.lean, 'card_holds'). Laid BY PROGRAM, IN A SANDBOX (cutbox-door.mjs). By AI agents, Wed Nov 11 2026. No macro, syntax, notation, axiom, sorry.
-/
import Derived.Test.YtbkeihhkcaihiaaDoorRows
import GoSem.ClaimSeven
namespace Go.Proofs.YtbkeihhkcaihiaaDoor
namespace Rows

/-- THE TIED CARD OF 'laws.FnSeatings'. -/
def fnSeatingsCard : Claim7 := { stood := { row := fnSeatingsRow, standIns := [], harness := (true, "d3fe06d2d9dd37e3dab5010241b65937d47589fa63eaa7680f98a6f3a7f7c3c5"), looks := false }, kinds := [], alts := [], laidByText := true, laidKinds := [.data], laidTests := true, laidLooks := .later }
def FnSeatingsCardSaid : Prop := Claim7.holds Tryd.pinned (.plain (OpenSpec.ofChange fnSeatingsSpec)) fnSeatingsCard

/-- THE TIED CARD OF 'laws.FnStarts'. -/
def fnStartsCard : Claim7 := { stood := { row := fnStartsRow, standIns := [], harness := (true, "d3fe06d2d9dd37e3dab5010241b65937d47589fa63eaa7680f98a6f3a7f7c3c5"), looks := false }, kinds := [], alts := [], laidByText := true, laidKinds := [.data], laidTests := true, laidLooks := .later }
def FnStartsCardSaid : Prop := Claim7.holds Tryd.pinned (.plain (OpenSpec.ofChange fnStartsSpec)) fnStartsCard

/-- THE TIED CARD OF 'laws.FnSpaced'. -/
def fnSpacedCard : Claim7 := { stood := { row := fnSpacedRow, standIns := [], harness := (true, "d3fe06d2d9dd37e3dab5010241b65937d47589fa63eaa7680f98a6f3a7f7c3c5"), looks := false }, kinds := [], alts := [], laidByText := true, laidKinds := [.data], laidTests := true, laidLooks := .later }
def FnSpacedCardSaid : Prop := Claim7.holds Tryd.pinned (.plain (OpenSpec.ofChange fnSpacedSpec)) fnSpacedCard

/-- THE TIED CARD OF 'laws.FnTheatre'. -/
def fnTheatreCard : Claim7 := { stood := { row := fnTheatreRow, standIns := [], harness := (true, "d3fe06d2d9dd37e3dab5010241b65937d47589fa63eaa7680f98a6f3a7f7c3c5"), looks := false }, kinds := [], alts := [], laidByText := true, laidKinds := [.data], laidTests := true, laidLooks := .later }
def FnTheatreCardSaid : Prop := Claim7.holds Tryd.pinned (.plain (OpenSpec.ofChange fnTheatreSpec)) fnTheatreCard

/-- THE TIED CARD OF 'laws.FnKinds'. -/
def fnKindsCard : Claim7 := { stood := { row := fnKindsRow, standIns := [], harness := (true, "d3fe06d2d9dd37e3dab5010241b65937d47589fa63eaa7680f98a6f3a7f7c3c5"), looks := false }, kinds := [], alts := [], laidByText := true, laidKinds := [.data], laidTests := true, laidLooks := .later }
def FnKindsCardSaid : Prop := Claim7.holds Tryd.pinned (.plain (OpenSpec.ofChange fnKindsSpec)) fnKindsCard

/-- THE TIED CARD OF 'laws.FnWorths'. -/
def fnWorthsCard : Claim7 := { stood := { row := fnWorthsRow, standIns := [], harness := (true, "d3fe06d2d9dd37e3dab5010241b65937d47589fa63eaa7680f98a6f3a7f7c3c5"), looks := false }, kinds := [], alts := [], laidByText := true, laidKinds := [.data], laidTests := true, laidLooks := .later }
def FnWorthsCardSaid : Prop := Claim7.holds Tryd.pinned (.plain (OpenSpec.ofChange fnWorthsSpec)) fnWorthsCard

/-- THE TIED CARD OF 'laws.FnRowForms'. -/
def fnRowFormsCard : Claim7 := { stood := { row := fnRowFormsRow, standIns := [], harness := (true, "d3fe06d2d9dd37e3dab5010241b65937d47589fa63eaa7680f98a6f3a7f7c3c5"), looks := false }, kinds := [], alts := [], laidByText := true, laidKinds := [.data], laidTests := true, laidLooks := .later }
def FnRowFormsCardSaid : Prop := Claim7.holds Tryd.pinned (.plain (OpenSpec.ofChange fnRowFormsSpec)) fnRowFormsCard

/-- THE TIED CARD OF 'laws.FnGame'. -/
def fnGameCard : Claim7 := { stood := { row := fnGameRow, standIns := [], harness := (true, "d3fe06d2d9dd37e3dab5010241b65937d47589fa63eaa7680f98a6f3a7f7c3c5"), looks := false }, kinds := [], alts := [], laidByText := true, laidKinds := [.data], laidTests := true, laidLooks := .later }
def FnGameCardSaid : Prop := Claim7.holds Tryd.pinned (.plain (OpenSpec.ofChange fnGameSpec)) fnGameCard

/-- THE TIED CARD OF 'laws.FnGuests'. -/
def fnGuestsCard : Claim7 := { stood := { row := fnGuestsRow, standIns := [], harness := (true, "d3fe06d2d9dd37e3dab5010241b65937d47589fa63eaa7680f98a6f3a7f7c3c5"), looks := false }, kinds := [], alts := [], laidByText := true, laidKinds := [.data], laidTests := true, laidLooks := .later }
def FnGuestsCardSaid : Prop := Claim7.holds Tryd.pinned (.plain (OpenSpec.ofChange fnGuestsSpec)) fnGuestsCard

/-- THE TIED CARD OF 'laws.FnExactDoWork'. -/
def fnExactDoWorkCard : Claim7 := { stood := { row := fnExactDoWorkRow, standIns := [], harness := (true, "d3fe06d2d9dd37e3dab5010241b65937d47589fa63eaa7680f98a6f3a7f7c3c5"), looks := false }, kinds := [], alts := [], laidByText := true, laidKinds := [.data], laidTests := true, laidLooks := .later }
def FnExactDoWorkCardSaid : Prop := Claim7.holds Tryd.pinned (.plain (OpenSpec.ofChange fnExactDoWorkSpec)) fnExactDoWorkCard

/-- THE SECOND FORM's CARD OF 'laws.FnSeatings'. -/
def fnSeatingsUptoCard : Claim7 := { stood := { row := fnSeatingsUptoRow, standIns := [], harness := (true, "d3fe06d2d9dd37e3dab5010241b65937d47589fa63eaa7680f98a6f3a7f7c3c5"), looks := false }, kinds := [], alts := [], laidByText := true, laidKinds := [.data], laidTests := true, laidLooks := .later }
def FnSeatingsUptoCardSaid : Prop := Claim7.holds Tryd.pinned (.plain (OpenSpec.upto fnSeatingsSpec)) fnSeatingsUptoCard

/-- THE SECOND FORM's CARD OF 'laws.FnStarts'. -/
def fnStartsUptoCard : Claim7 := { stood := { row := fnStartsUptoRow, standIns := [], harness := (true, "d3fe06d2d9dd37e3dab5010241b65937d47589fa63eaa7680f98a6f3a7f7c3c5"), looks := false }, kinds := [], alts := [], laidByText := true, laidKinds := [.data], laidTests := true, laidLooks := .later }
def FnStartsUptoCardSaid : Prop := Claim7.holds Tryd.pinned (.plain (OpenSpec.upto fnStartsSpec)) fnStartsUptoCard

/-- THE SECOND FORM's CARD OF 'laws.FnSpaced'. -/
def fnSpacedUptoCard : Claim7 := { stood := { row := fnSpacedUptoRow, standIns := [], harness := (true, "d3fe06d2d9dd37e3dab5010241b65937d47589fa63eaa7680f98a6f3a7f7c3c5"), looks := false }, kinds := [], alts := [], laidByText := true, laidKinds := [.data], laidTests := true, laidLooks := .later }
def FnSpacedUptoCardSaid : Prop := Claim7.holds Tryd.pinned (.plain (OpenSpec.upto fnSpacedSpec)) fnSpacedUptoCard

/-- THE SECOND FORM's CARD OF 'laws.FnTheatre'. -/
def fnTheatreUptoCard : Claim7 := { stood := { row := fnTheatreUptoRow, standIns := [], harness := (true, "d3fe06d2d9dd37e3dab5010241b65937d47589fa63eaa7680f98a6f3a7f7c3c5"), looks := false }, kinds := [], alts := [], laidByText := true, laidKinds := [.data], laidTests := true, laidLooks := .later }
def FnTheatreUptoCardSaid : Prop := Claim7.holds Tryd.pinned (.plain (OpenSpec.upto fnTheatreSpec)) fnTheatreUptoCard

/-- THE SECOND FORM's CARD OF 'laws.FnKinds'. -/
def fnKindsUptoCard : Claim7 := { stood := { row := fnKindsUptoRow, standIns := [], harness := (true, "d3fe06d2d9dd37e3dab5010241b65937d47589fa63eaa7680f98a6f3a7f7c3c5"), looks := false }, kinds := [], alts := [], laidByText := true, laidKinds := [.data], laidTests := true, laidLooks := .later }
def FnKindsUptoCardSaid : Prop := Claim7.holds Tryd.pinned (.plain (OpenSpec.upto fnKindsSpec)) fnKindsUptoCard

/-- THE SECOND FORM's CARD OF 'laws.FnWorths'. -/
def fnWorthsUptoCard : Claim7 := { stood := { row := fnWorthsUptoRow, standIns := [], harness := (true, "d3fe06d2d9dd37e3dab5010241b65937d47589fa63eaa7680f98a6f3a7f7c3c5"), looks := false }, kinds := [], alts := [], laidByText := true, laidKinds := [.data], laidTests := true, laidLooks := .later }
def FnWorthsUptoCardSaid : Prop := Claim7.holds Tryd.pinned (.plain (OpenSpec.upto fnWorthsSpec)) fnWorthsUptoCard

/-- THE SECOND FORM's CARD OF 'laws.FnRowForms'. -/
def fnRowFormsUptoCard : Claim7 := { stood := { row := fnRowFormsUptoRow, standIns := [], harness := (true, "d3fe06d2d9dd37e3dab5010241b65937d47589fa63eaa7680f98a6f3a7f7c3c5"), looks := false }, kinds := [], alts := [], laidByText := true, laidKinds := [.data], laidTests := true, laidLooks := .later }
def FnRowFormsUptoCardSaid : Prop := Claim7.holds Tryd.pinned (.plain (OpenSpec.upto fnRowFormsSpec)) fnRowFormsUptoCard

/-- THE SECOND FORM's CARD OF 'laws.FnGame'. -/
def fnGameUptoCard : Claim7 := { stood := { row := fnGameUptoRow, standIns := [], harness := (true, "d3fe06d2d9dd37e3dab5010241b65937d47589fa63eaa7680f98a6f3a7f7c3c5"), looks := false }, kinds := [], alts := [], laidByText := true, laidKinds := [.data], laidTests := true, laidLooks := .later }
def FnGameUptoCardSaid : Prop := Claim7.holds Tryd.pinned (.plain (OpenSpec.upto fnGameSpec)) fnGameUptoCard

/-- THE SECOND FORM's CARD OF 'laws.FnGuests'. -/
def fnGuestsUptoCard : Claim7 := { stood := { row := fnGuestsUptoRow, standIns := [], harness := (true, "d3fe06d2d9dd37e3dab5010241b65937d47589fa63eaa7680f98a6f3a7f7c3c5"), looks := false }, kinds := [], alts := [], laidByText := true, laidKinds := [.data], laidTests := true, laidLooks := .later }
def FnGuestsUptoCardSaid : Prop := Claim7.holds Tryd.pinned (.plain (OpenSpec.upto fnGuestsSpec)) fnGuestsUptoCard

/-- THE SECOND FORM's CARD OF 'laws.FnExactDoWork'. -/
def fnExactDoWorkUptoCard : Claim7 := { stood := { row := fnExactDoWorkUptoRow, standIns := [], harness := (true, "d3fe06d2d9dd37e3dab5010241b65937d47589fa63eaa7680f98a6f3a7f7c3c5"), looks := false }, kinds := [], alts := [], laidByText := true, laidKinds := [.data], laidTests := true, laidLooks := .later }
def FnExactDoWorkUptoCardSaid : Prop := Claim7.holds Tryd.pinned (.plain (OpenSpec.upto fnExactDoWorkSpec)) fnExactDoWorkUptoCard
end Rows
end Go.Proofs.YtbkeihhkcaihiaaDoor
