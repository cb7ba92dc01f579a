/-
  DERIVED. GIVEN WITH THE SEED: THE CARDS: each row of YtahkaekiandchaaDoorRows.lean that lists a variable, with what it lists TIED to the program's text (the seventh form; the later family's looks); each row that meets fmt, with fmt's text TOLD by the authors' own Lean function (tested against real Go, not proved from fmt's source: count such statements apart). THE CARD IS WHAT COUNTS. Prove the row's statement (the work); the ties are given (YtahkaekiandchaaDoorTie.lean); close each card by the builder's one call (the guide's Derived/Test/ToyasCard.lean, 'card_holds'). Laid BY PROGRAM, IN A SANDBOX (cutbox-door.mjs). By AI agents, Wed Nov 11 2026. No macro, syntax, notation, axiom, sorry.
-/
import Derived.Test.YtahkaekiandchaaDoorRows
import GoSem.ClaimSeven
namespace Go.Proofs.YtahkaekiandchaaDoor
namespace Rows

/-- THE TIED CARD OF 'capstanlaw04.OpParses'. -/
def opParsesCard : Claim7 := { stood := { row := opParsesRow, standIns := [], harness := (true, "93a996f050fabff14d08b7f4ee28b42b266213c66141818bd2c000d803c9b17b"), looks := false }, kinds := [], alts := [], laidByText := true, laidKinds := [.widerDeep], laidTests := true, laidLooks := .later }
def OpParsesCardSaid : Prop := Claim7.holds Tryd.pinned (.plain (OpenSpec.ofChange opParsesSpec)) opParsesCard

/-- THE TIED CARD OF 'capstanlaw04.OpTells'. -/
def opTellsCard : Claim7 := { stood := { row := opTellsRow, standIns := [], harness := (true, "93a996f050fabff14d08b7f4ee28b42b266213c66141818bd2c000d803c9b17b"), looks := false }, kinds := [], alts := [], laidByText := true, laidKinds := [.widerDeep, .data], laidTests := true, laidLooks := .later }
def OpTellsCardSaid : Prop := Claim7.holds Tryd.pinned (.plain (OpenSpec.ofChange opTellsSpec)) opTellsCard

/-- THE TIED CARD OF 'capstanlaw04.OpBounds'. -/
def opBoundsCard : Claim7 := { stood := { row := opBoundsRow, standIns := [], harness := (true, "93a996f050fabff14d08b7f4ee28b42b266213c66141818bd2c000d803c9b17b"), looks := false }, kinds := [], alts := [], laidByText := true, laidKinds := [.widerDeep, .data], laidTests := true, laidLooks := .later }
def OpBoundsCardSaid : Prop := Claim7.holds Tryd.pinned (.plain (OpenSpec.ofChange opBoundsSpec)) opBoundsCard

/-- THE TIED CARD OF 'capstanlaw04.OpShape'. -/
def opShapeCard : Claim7 := { stood := { row := opShapeRow, standIns := [], harness := (true, "93a996f050fabff14d08b7f4ee28b42b266213c66141818bd2c000d803c9b17b"), looks := false }, kinds := [], alts := [], laidByText := true, laidKinds := [.widerDeep, .data], laidTests := true, laidLooks := .later }
def OpShapeCardSaid : Prop := Claim7.holds Tryd.pinned (.plain (OpenSpec.ofChange opShapeSpec)) opShapeCard

/-- THE TIED CARD OF 'capstanlaw04.OpNames'. -/
def opNamesCard : Claim7 := { stood := { row := opNamesRow, standIns := [], harness := (true, "93a996f050fabff14d08b7f4ee28b42b266213c66141818bd2c000d803c9b17b"), looks := false }, kinds := [], alts := [], laidByText := true, laidKinds := [.widerDeep, .data], laidTests := true, laidLooks := .later }
def OpNamesCardSaid : Prop := Claim7.holds Tryd.pinned (.plain (OpenSpec.ofChange opNamesSpec)) opNamesCard

/-- THE SECOND FORM's CARD OF 'capstanlaw04.OpParses'. -/
def opParsesUptoCard : Claim7 := { stood := { row := opParsesUptoRow, standIns := [], harness := (true, "93a996f050fabff14d08b7f4ee28b42b266213c66141818bd2c000d803c9b17b"), looks := false }, kinds := [], alts := [], laidByText := true, laidKinds := [.widerDeep], laidTests := true, laidLooks := .later }
def OpParsesUptoCardSaid : Prop := Claim7.holds Tryd.pinned (.plain (OpenSpec.upto opParsesSpec)) opParsesUptoCard

/-- THE SECOND FORM's CARD OF 'capstanlaw04.OpTells'. -/
def opTellsUptoCard : Claim7 := { stood := { row := opTellsUptoRow, standIns := [], harness := (true, "93a996f050fabff14d08b7f4ee28b42b266213c66141818bd2c000d803c9b17b"), looks := false }, kinds := [], alts := [], laidByText := true, laidKinds := [.widerDeep, .data], laidTests := true, laidLooks := .later }
def OpTellsUptoCardSaid : Prop := Claim7.holds Tryd.pinned (.plain (OpenSpec.upto opTellsSpec)) opTellsUptoCard

/-- THE SECOND FORM's CARD OF 'capstanlaw04.OpBounds'. -/
def opBoundsUptoCard : Claim7 := { stood := { row := opBoundsUptoRow, standIns := [], harness := (true, "93a996f050fabff14d08b7f4ee28b42b266213c66141818bd2c000d803c9b17b"), looks := false }, kinds := [], alts := [], laidByText := true, laidKinds := [.widerDeep, .data], laidTests := true, laidLooks := .later }
def OpBoundsUptoCardSaid : Prop := Claim7.holds Tryd.pinned (.plain (OpenSpec.upto opBoundsSpec)) opBoundsUptoCard

/-- THE SECOND FORM's CARD OF 'capstanlaw04.OpShape'. -/
def opShapeUptoCard : Claim7 := { stood := { row := opShapeUptoRow, standIns := [], harness := (true, "93a996f050fabff14d08b7f4ee28b42b266213c66141818bd2c000d803c9b17b"), looks := false }, kinds := [], alts := [], laidByText := true, laidKinds := [.widerDeep, .data], laidTests := true, laidLooks := .later }
def OpShapeUptoCardSaid : Prop := Claim7.holds Tryd.pinned (.plain (OpenSpec.upto opShapeSpec)) opShapeUptoCard

/-- THE SECOND FORM's CARD OF 'capstanlaw04.OpNames'. -/
def opNamesUptoCard : Claim7 := { stood := { row := opNamesUptoRow, standIns := [], harness := (true, "93a996f050fabff14d08b7f4ee28b42b266213c66141818bd2c000d803c9b17b"), looks := false }, kinds := [], alts := [], laidByText := true, laidKinds := [.widerDeep, .data], laidTests := true, laidLooks := .later }
def OpNamesUptoCardSaid : Prop := Claim7.holds Tryd.pinned (.plain (OpenSpec.upto opNamesSpec)) opNamesUptoCard
end Rows
end Go.Proofs.YtahkaekiandchaaDoor
