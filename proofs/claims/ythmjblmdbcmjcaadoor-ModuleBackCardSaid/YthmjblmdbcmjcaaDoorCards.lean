/-
  DERIVED. GIVEN WITH THE SEED: THE CARDS: each row of YthmjblmdbcmjcaaDoorRows.lean that lists a variable, with what it lists TIED to the program's text (the seventh form; the later family's looks); each row that meets fmt, with fmt's text TOLD by the authors' own Lean function (tested against real Go, not proved from fmt's source: count such statements apart). THE CARD IS WHAT COUNTS. Prove the row's statement (the work); the ties are given (YthmjblmdbcmjcaaDoorTie.lean); close each card by the builder's one call (the guide's Derived/Test/ToyasCard.lean, 'card_holds'). Laid BY PROGRAM, IN A SANDBOX (cutbox-door.mjs). By AI agents, Wed Nov 11 2026. No macro, syntax, notation, axiom, sorry.
-/
import Derived.Test.YthmjblmdbcmjcaaDoorRows
import GoSem.ClaimSeven
namespace Go.Proofs.YthmjblmdbcmjcaaDoor
namespace Rows

/-- THE TIED CARD OF 'capstanlaw08.ModuleParses'. -/
def moduleParsesCard : Claim7 := { stood := { row := moduleParsesRow, standIns := [], harness := (true, "020409cb53cd6189169fa20cd18a305e73ff81312b2d3764a349fcd9657115d7"), looks := true }, kinds := [], alts := [], laidByText := true, laidKinds := [.data, .data], laidTests := true, laidLooks := .later }
def ModuleParsesCardSaid : Prop := Claim7.holds Tryd.pinned (.plain (OpenSpec.ofChange moduleParsesSpec)) moduleParsesCard

/-- THE TIED CARD OF 'capstanlaw08.ModuleTells'. -/
def moduleTellsCard : Claim7 := { stood := { row := moduleTellsRow, standIns := [], harness := (true, "020409cb53cd6189169fa20cd18a305e73ff81312b2d3764a349fcd9657115d7"), looks := true }, kinds := [], alts := [], laidByText := true, laidKinds := [.data], laidTests := true, laidLooks := .later }
def ModuleTellsCardSaid : Prop := Claim7.holds Tryd.pinned (.plain (OpenSpec.ofChange moduleTellsSpec)) moduleTellsCard

/-- THE TIED CARD OF 'capstanlaw08.ModuleParts'. -/
def modulePartsCard : Claim7 := { stood := { row := modulePartsRow, standIns := [], harness := (true, "020409cb53cd6189169fa20cd18a305e73ff81312b2d3764a349fcd9657115d7"), looks := true }, kinds := [], alts := [], laidByText := true, laidKinds := [.data, .data], laidTests := true, laidLooks := .later }
def ModulePartsCardSaid : Prop := Claim7.holds Tryd.pinned (.plain (OpenSpec.ofChange modulePartsSpec)) modulePartsCard

/-- THE TIED CARD OF 'capstanlaw08.ModuleBack'. -/
def moduleBackCard : Claim7 := { stood := { row := moduleBackRow, standIns := [], harness := (true, "020409cb53cd6189169fa20cd18a305e73ff81312b2d3764a349fcd9657115d7"), looks := true }, kinds := [], alts := [], laidByText := true, laidKinds := [.data, .data], laidTests := true, laidLooks := .later }
def ModuleBackCardSaid : Prop := Claim7.holds Tryd.pinned (.plain (OpenSpec.ofChange moduleBackSpec)) moduleBackCard

/-- THE TIED CARD OF 'capstanlaw08.ModuleSame'. -/
def moduleSameCard : Claim7 := { stood := { row := moduleSameRow, standIns := [], harness := (true, "020409cb53cd6189169fa20cd18a305e73ff81312b2d3764a349fcd9657115d7"), looks := true }, kinds := [], alts := [], laidByText := true, laidKinds := [.data, .data], laidTests := true, laidLooks := .later }
def ModuleSameCardSaid : Prop := Claim7.holds Tryd.pinned (.plain (OpenSpec.ofChange moduleSameSpec)) moduleSameCard

/-- THE SECOND FORM's CARD OF 'capstanlaw08.ModuleParses'. -/
def moduleParsesUptoCard : Claim7 := { stood := { row := moduleParsesUptoRow, standIns := [], harness := (true, "020409cb53cd6189169fa20cd18a305e73ff81312b2d3764a349fcd9657115d7"), looks := true }, kinds := [], alts := [], laidByText := true, laidKinds := [.data, .data], laidTests := true, laidLooks := .later }
def ModuleParsesUptoCardSaid : Prop := Claim7.holds Tryd.pinned (.plain (OpenSpec.upto moduleParsesSpec)) moduleParsesUptoCard

/-- THE SECOND FORM's CARD OF 'capstanlaw08.ModuleTells'. -/
def moduleTellsUptoCard : Claim7 := { stood := { row := moduleTellsUptoRow, standIns := [], harness := (true, "020409cb53cd6189169fa20cd18a305e73ff81312b2d3764a349fcd9657115d7"), looks := true }, kinds := [], alts := [], laidByText := true, laidKinds := [.data], laidTests := true, laidLooks := .later }
def ModuleTellsUptoCardSaid : Prop := Claim7.holds Tryd.pinned (.plain (OpenSpec.upto moduleTellsSpec)) moduleTellsUptoCard

/-- THE SECOND FORM's CARD OF 'capstanlaw08.ModuleParts'. -/
def modulePartsUptoCard : Claim7 := { stood := { row := modulePartsUptoRow, standIns := [], harness := (true, "020409cb53cd6189169fa20cd18a305e73ff81312b2d3764a349fcd9657115d7"), looks := true }, kinds := [], alts := [], laidByText := true, laidKinds := [.data, .data], laidTests := true, laidLooks := .later }
def ModulePartsUptoCardSaid : Prop := Claim7.holds Tryd.pinned (.plain (OpenSpec.upto modulePartsSpec)) modulePartsUptoCard

/-- THE SECOND FORM's CARD OF 'capstanlaw08.ModuleBack'. -/
def moduleBackUptoCard : Claim7 := { stood := { row := moduleBackUptoRow, standIns := [], harness := (true, "020409cb53cd6189169fa20cd18a305e73ff81312b2d3764a349fcd9657115d7"), looks := true }, kinds := [], alts := [], laidByText := true, laidKinds := [.data, .data], laidTests := true, laidLooks := .later }
def ModuleBackUptoCardSaid : Prop := Claim7.holds Tryd.pinned (.plain (OpenSpec.upto moduleBackSpec)) moduleBackUptoCard

/-- THE SECOND FORM's CARD OF 'capstanlaw08.ModuleSame'. -/
def moduleSameUptoCard : Claim7 := { stood := { row := moduleSameUptoRow, standIns := [], harness := (true, "020409cb53cd6189169fa20cd18a305e73ff81312b2d3764a349fcd9657115d7"), looks := true }, kinds := [], alts := [], laidByText := true, laidKinds := [.data, .data], laidTests := true, laidLooks := .later }
def ModuleSameUptoCardSaid : Prop := Claim7.holds Tryd.pinned (.plain (OpenSpec.upto moduleSameSpec)) moduleSameUptoCard
end Rows
end Go.Proofs.YthmjblmdbcmjcaaDoor
