/-
  DERIVED. GIVEN WITH THE SEED: THE CARDS: each row of YtjnmomhkiknhdaaDoorRows.lean that lists a variable, with what it lists TIED to the program's text (the seventh form; the later family's looks); each row that meets fmt, with fmt's text TOLD by the authors' own Lean function (tested against real Go, not proved from fmt's source: count such statements apart). THE CARD IS WHAT COUNTS. Prove the row's statement (the work); the ties are given (YtjnmomhkiknhdaaDoorTie.lean); close each card by the builder's one call (the guide's Derived/Test/ToyasCard.lean, 'card_holds'). Laid BY PROGRAM, IN A SANDBOX (cutbox-door.mjs). By AI agents, Wed Nov 11 2026. No macro, syntax, notation, axiom, sorry.
-/
import Derived.Test.YtjnmomhkiknhdaaDoorRows
import GoSem.ClaimSeven
namespace Go.Proofs.YtjnmomhkiknhdaaDoor
namespace Rows

/-- THE TIED CARD OF 'capstanlaw06.PoolReads'. -/
def poolReadsCard : Claim7 := { stood := { row := poolReadsRow, standIns := [], harness := (true, "df667e05bcd6492f553ce70fde8f77180a32ff49f7b980b2431f94aa9095342f"), looks := false }, kinds := [], alts := [], laidByText := true, laidKinds := [.data], laidTests := true, laidLooks := .later }
def PoolReadsCardSaid : Prop := Claim7.holds Tryd.pinned (.plain (OpenSpec.ofChange poolReadsSpec)) poolReadsCard

/-- THE TIED CARD OF 'capstanlaw06.PoolBack'. -/
def poolBackCard : Claim7 := { stood := { row := poolBackRow, standIns := [], harness := (true, "df667e05bcd6492f553ce70fde8f77180a32ff49f7b980b2431f94aa9095342f"), looks := false }, kinds := [], alts := [], laidByText := true, laidKinds := [.data], laidTests := true, laidLooks := .later }
def PoolBackCardSaid : Prop := Claim7.holds Tryd.pinned (.plain (OpenSpec.ofChange poolBackSpec)) poolBackCard

/-- THE TIED CARD OF 'capstanlaw06.PoolOnce'. -/
def poolOnceCard : Claim7 := { stood := { row := poolOnceRow, standIns := [], harness := (true, "df667e05bcd6492f553ce70fde8f77180a32ff49f7b980b2431f94aa9095342f"), looks := false }, kinds := [], alts := [], laidByText := true, laidKinds := [.data], laidTests := true, laidLooks := .later }
def PoolOnceCardSaid : Prop := Claim7.holds Tryd.pinned (.plain (OpenSpec.ofChange poolOnceSpec)) poolOnceCard

/-- THE SECOND FORM's CARD OF 'capstanlaw06.PoolReads'. -/
def poolReadsUptoCard : Claim7 := { stood := { row := poolReadsUptoRow, standIns := [], harness := (true, "df667e05bcd6492f553ce70fde8f77180a32ff49f7b980b2431f94aa9095342f"), looks := false }, kinds := [], alts := [], laidByText := true, laidKinds := [.data], laidTests := true, laidLooks := .later }
def PoolReadsUptoCardSaid : Prop := Claim7.holds Tryd.pinned (.plain (OpenSpec.upto poolReadsSpec)) poolReadsUptoCard

/-- THE SECOND FORM's CARD OF 'capstanlaw06.PoolBack'. -/
def poolBackUptoCard : Claim7 := { stood := { row := poolBackUptoRow, standIns := [], harness := (true, "df667e05bcd6492f553ce70fde8f77180a32ff49f7b980b2431f94aa9095342f"), looks := false }, kinds := [], alts := [], laidByText := true, laidKinds := [.data], laidTests := true, laidLooks := .later }
def PoolBackUptoCardSaid : Prop := Claim7.holds Tryd.pinned (.plain (OpenSpec.upto poolBackSpec)) poolBackUptoCard

/-- THE SECOND FORM's CARD OF 'capstanlaw06.PoolOnce'. -/
def poolOnceUptoCard : Claim7 := { stood := { row := poolOnceUptoRow, standIns := [], harness := (true, "df667e05bcd6492f553ce70fde8f77180a32ff49f7b980b2431f94aa9095342f"), looks := false }, kinds := [], alts := [], laidByText := true, laidKinds := [.data], laidTests := true, laidLooks := .later }
def PoolOnceUptoCardSaid : Prop := Claim7.holds Tryd.pinned (.plain (OpenSpec.upto poolOnceSpec)) poolOnceUptoCard
end Rows
end Go.Proofs.YtjnmomhkiknhdaaDoor
