/-
  DERIVED. GIVEN WITH THE SEED: THE CARDS: each row of YtjidhcepdjdceaaDoorRows.lean that lists a variable, with what it lists TIED to the program's text (the seventh form; the later family's looks); each row that meets fmt, with fmt's text TOLD by the authors' own Lean function (tested against real Go, not proved from fmt's source: count such statements apart). THE CARD IS WHAT COUNTS. Prove the row's statement (the work); the ties are given (YtjidhcepdjdceaaDoorTie.lean); close each card by the builder's one call (the guide's Derived/Test/ToyasCard.lean, 'card_holds'). Laid BY PROGRAM, IN A SANDBOX (cutbox-door.mjs). By AI agents, Wed Nov 11 2026. No macro, syntax, notation, axiom, sorry.
-/
import Derived.Test.YtjidhcepdjdceaaDoorRows
import GoSem.ClaimSeven
namespace Go.Proofs.YtjidhcepdjdceaaDoor
namespace Rows

/-- THE TIED CARD OF 'capstanlaw18.StateParses'. -/
def stateParsesCard : Claim7 := { stood := { row := stateParsesRow, standIns := [], harness := (true, "0d72f3457b13226ab762e2f4ca2b0a3706e1ca2b5b55495bfc5725c76df94956"), looks := false }, kinds := [], alts := [], laidByText := true, laidKinds := [.data], laidTests := true, laidLooks := .later }
def StateParsesCardSaid : Prop := Claim7.holds Tryd.pinned (.plain (OpenSpec.ofChange stateParsesSpec)) stateParsesCard

/-- THE TIED CARD OF 'capstanlaw18.StateBack'. -/
def stateBackCard : Claim7 := { stood := { row := stateBackRow, standIns := [], harness := (true, "0d72f3457b13226ab762e2f4ca2b0a3706e1ca2b5b55495bfc5725c76df94956"), looks := false }, kinds := [], alts := [], laidByText := true, laidKinds := [.data], laidTests := true, laidLooks := .later }
def StateBackCardSaid : Prop := Claim7.holds Tryd.pinned (.plain (OpenSpec.ofChange stateBackSpec)) stateBackCard

/-- THE TIED CARD OF 'capstanlaw18.StateOne'. -/
def stateOneCard : Claim7 := { stood := { row := stateOneRow, standIns := [], harness := (true, "0d72f3457b13226ab762e2f4ca2b0a3706e1ca2b5b55495bfc5725c76df94956"), looks := false }, kinds := [], alts := [], laidByText := true, laidKinds := [.data], laidTests := true, laidLooks := .later }
def StateOneCardSaid : Prop := Claim7.holds Tryd.pinned (.plain (OpenSpec.ofChange stateOneSpec)) stateOneCard

/-- THE TIED CARD OF 'capstanlaw20.EntryParses'. -/
def entryParsesCard : Claim7 := { stood := { row := entryParsesRow, standIns := [], harness := (true, "0d72f3457b13226ab762e2f4ca2b0a3706e1ca2b5b55495bfc5725c76df94956"), looks := false }, kinds := [], alts := [], laidByText := true, laidKinds := [.data], laidTests := true, laidLooks := .later }
def EntryParsesCardSaid : Prop := Claim7.holds Tryd.pinned (.plain (OpenSpec.ofChange entryParsesSpec)) entryParsesCard

/-- THE TIED CARD OF 'capstanlaw20.EntryBack'. -/
def entryBackCard : Claim7 := { stood := { row := entryBackRow, standIns := [], harness := (true, "0d72f3457b13226ab762e2f4ca2b0a3706e1ca2b5b55495bfc5725c76df94956"), looks := false }, kinds := [], alts := [], laidByText := true, laidKinds := [.data], laidTests := true, laidLooks := .later }
def EntryBackCardSaid : Prop := Claim7.holds Tryd.pinned (.plain (OpenSpec.ofChange entryBackSpec)) entryBackCard

/-- THE TIED CARD OF 'capstanlaw20.EntryApart'. -/
def entryApartCard : Claim7 := { stood := { row := entryApartRow, standIns := [], harness := (true, "0d72f3457b13226ab762e2f4ca2b0a3706e1ca2b5b55495bfc5725c76df94956"), looks := false }, kinds := [], alts := [], laidByText := true, laidKinds := [.data], laidTests := true, laidLooks := .later }
def EntryApartCardSaid : Prop := Claim7.holds Tryd.pinned (.plain (OpenSpec.ofChange entryApartSpec)) entryApartCard

/-- THE SECOND FORM's CARD OF 'capstanlaw18.StateParses'. -/
def stateParsesUptoCard : Claim7 := { stood := { row := stateParsesUptoRow, standIns := [], harness := (true, "0d72f3457b13226ab762e2f4ca2b0a3706e1ca2b5b55495bfc5725c76df94956"), looks := false }, kinds := [], alts := [], laidByText := true, laidKinds := [.data], laidTests := true, laidLooks := .later }
def StateParsesUptoCardSaid : Prop := Claim7.holds Tryd.pinned (.plain (OpenSpec.upto stateParsesSpec)) stateParsesUptoCard

/-- THE SECOND FORM's CARD OF 'capstanlaw18.StateBack'. -/
def stateBackUptoCard : Claim7 := { stood := { row := stateBackUptoRow, standIns := [], harness := (true, "0d72f3457b13226ab762e2f4ca2b0a3706e1ca2b5b55495bfc5725c76df94956"), looks := false }, kinds := [], alts := [], laidByText := true, laidKinds := [.data], laidTests := true, laidLooks := .later }
def StateBackUptoCardSaid : Prop := Claim7.holds Tryd.pinned (.plain (OpenSpec.upto stateBackSpec)) stateBackUptoCard

/-- THE SECOND FORM's CARD OF 'capstanlaw18.StateOne'. -/
def stateOneUptoCard : Claim7 := { stood := { row := stateOneUptoRow, standIns := [], harness := (true, "0d72f3457b13226ab762e2f4ca2b0a3706e1ca2b5b55495bfc5725c76df94956"), looks := false }, kinds := [], alts := [], laidByText := true, laidKinds := [.data], laidTests := true, laidLooks := .later }
def StateOneUptoCardSaid : Prop := Claim7.holds Tryd.pinned (.plain (OpenSpec.upto stateOneSpec)) stateOneUptoCard

/-- THE SECOND FORM's CARD OF 'capstanlaw20.EntryParses'. -/
def entryParsesUptoCard : Claim7 := { stood := { row := entryParsesUptoRow, standIns := [], harness := (true, "0d72f3457b13226ab762e2f4ca2b0a3706e1ca2b5b55495bfc5725c76df94956"), looks := false }, kinds := [], alts := [], laidByText := true, laidKinds := [.data], laidTests := true, laidLooks := .later }
def EntryParsesUptoCardSaid : Prop := Claim7.holds Tryd.pinned (.plain (OpenSpec.upto entryParsesSpec)) entryParsesUptoCard

/-- THE SECOND FORM's CARD OF 'capstanlaw20.EntryBack'. -/
def entryBackUptoCard : Claim7 := { stood := { row := entryBackUptoRow, standIns := [], harness := (true, "0d72f3457b13226ab762e2f4ca2b0a3706e1ca2b5b55495bfc5725c76df94956"), looks := false }, kinds := [], alts := [], laidByText := true, laidKinds := [.data], laidTests := true, laidLooks := .later }
def EntryBackUptoCardSaid : Prop := Claim7.holds Tryd.pinned (.plain (OpenSpec.upto entryBackSpec)) entryBackUptoCard

/-- THE SECOND FORM's CARD OF 'capstanlaw20.EntryApart'. -/
def entryApartUptoCard : Claim7 := { stood := { row := entryApartUptoRow, standIns := [], harness := (true, "0d72f3457b13226ab762e2f4ca2b0a3706e1ca2b5b55495bfc5725c76df94956"), looks := false }, kinds := [], alts := [], laidByText := true, laidKinds := [.data], laidTests := true, laidLooks := .later }
def EntryApartUptoCardSaid : Prop := Claim7.holds Tryd.pinned (.plain (OpenSpec.upto entryApartSpec)) entryApartUptoCard
end Rows
end Go.Proofs.YtjidhcepdjdceaaDoor
