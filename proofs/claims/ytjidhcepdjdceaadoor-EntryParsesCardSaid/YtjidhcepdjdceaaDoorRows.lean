/-
  NARROWER THAN 'FOR EVERY INPUT', by the rows' own cells (each row's printed sentence says how): StateParses: laid · StateBack: laid · StateOne: laid · EntryParses: laid · EntryBack: laid · EntryApart: laid.
  DERIVED. THE GIVEN ROWS OF THIS SEAT. 6 by the template 'for every input the law returns true; each argument reads behind the call as it read before'; 0 by the template 'total and deterministic' (their statements: YtjidhcepdjdceaaDoorTotals.lean).
  GIVEN WITH THE SEED: the statements are not yours to turn. If you find one false, say at which input.
  Laid BY PROGRAM, IN A SANDBOX (cutbox-rows.mjs): the forced cells as the released guide's own fill.sh prints them over the translation 99aaa2eb17f4cd80… (all of the seat's roots in one cut). By AI agents, Wed Nov 11 2026. No macro, syntax, notation, axiom, sorry.
-/
import Derived.Test.YtjidhcepdjdceaaDoorChecked
import GoSem.Claim
import GoSem.ClaimJoined
import GoSem.ClaimMapViews
import Derived.JoinedTies
import Derived.KernelRfl
namespace Go.Proofs.YtjidhcepdjdceaaDoor
/- THE CELL 'sum', in the pinned program and in every row, IS THE sha256 OF THE DUMP (.gsa) THAT YtjidhcepdjdceaaDoorProg.lean LOADS. Nothing in Lean hashes anything: it is a label: what it is worth is what the hold of that sum in a sandbox is worth. -/
noncomputable def Tryd.pinned : Pinned := { name := "ytjidhcepdjdceaadoor", sum := "99aaa2eb17f4cd807428c479446b304f95d6f3249bbd32a482f6ebc41fd157b5", checked := Tryd.checked }
namespace Rows
def none {H : Type} : Left H := { results := [], args := [] }

/- WHAT THE LISTED PACKAGE-LEVEL VARIABLES READ AS WHEN THE CALL BEGINS. Each datum BY PROGRAM (the guide's laid-datum.mjs) off the statement by which the dump's own 'gosem.cut.vars' lays the variable. In a bare row this is a premise. The card (YtjidhcepdjdceaaDoorCards.lean) ties it to the program's text. -/
def laid_capstan_value_sizes {H : Type} : DataW H := .agg [.lit (.int .i64 0), .lit (.int .i64 8), .lit (.int .i64 6)]

/-- 'capstanlaw18.StateParses': WHATEVER THE INPUT: true; the input reads as it did. -/
def stateParsesSpec : ChangeSpec := { name := "stateParses", fn := fun _ => fun
  | [d] => { results := [.lit (.bool true)], args := [d] }
  | _ => none }
def stateParsesRow : OpenClaim := { program := "ytjidhcepdjdceaadoor", sum := "99aaa2eb17f4cd807428c479446b304f95d6f3249bbd32a482f6ebc41fd157b5", func := "capstan/capstanlaw18.StateParses", spec := "stateParses", unfollowed := true, recurses := true, named := ["capstan/value.sizes"], apart := false, laid := [("capstan/value.sizes", laid_capstan_value_sizes)] }
def StateParsesSaid : Prop := stateParsesRow.holds Tryd.pinned (OpenSpec.ofChange stateParsesSpec)

/-- ITS FALSE NEIGHBOUR: 'it returns false'. Refute it at one input. -/
def stateParsesWrong : ChangeSpec := { name := "stateParses", fn := fun _ => fun
  | [d] => { results := [.lit (.bool false)], args := [d] }
  | _ => none }
def StateParsesWrongFalsely : Prop := stateParsesRow.holds Tryd.pinned (OpenSpec.ofChange stateParsesWrong)

/-- 'capstanlaw18.StateBack': WHATEVER THE INPUT: true; the input reads as it did. -/
def stateBackSpec : ChangeSpec := { name := "stateBack", fn := fun _ => fun
  | [d1, d2] => { results := [.lit (.bool true)], args := [d1, d2] }
  | _ => none }
def stateBackRow : OpenClaim := { program := "ytjidhcepdjdceaadoor", sum := "99aaa2eb17f4cd807428c479446b304f95d6f3249bbd32a482f6ebc41fd157b5", func := "capstan/capstanlaw18.StateBack", spec := "stateBack", unfollowed := true, recurses := true, named := ["capstan/value.sizes"], apart := false, laid := [("capstan/value.sizes", laid_capstan_value_sizes)] }
def StateBackSaid : Prop := stateBackRow.holds Tryd.pinned (OpenSpec.ofChange stateBackSpec)

/-- ITS FALSE NEIGHBOUR: 'it returns false'. Refute it at one input. -/
def stateBackWrong : ChangeSpec := { name := "stateBack", fn := fun _ => fun
  | [d1, d2] => { results := [.lit (.bool false)], args := [d1, d2] }
  | _ => none }
def StateBackWrongFalsely : Prop := stateBackRow.holds Tryd.pinned (OpenSpec.ofChange stateBackWrong)

/-- 'capstanlaw18.StateOne': WHATEVER THE INPUT: true; the input reads as it did. -/
def stateOneSpec : ChangeSpec := { name := "stateOne", fn := fun _ => fun
  | [d1, d2] => { results := [.lit (.bool true)], args := [d1, d2] }
  | _ => none }
def stateOneRow : OpenClaim := { program := "ytjidhcepdjdceaadoor", sum := "99aaa2eb17f4cd807428c479446b304f95d6f3249bbd32a482f6ebc41fd157b5", func := "capstan/capstanlaw18.StateOne", spec := "stateOne", unfollowed := true, recurses := true, named := ["capstan/value.sizes"], apart := false, laid := [("capstan/value.sizes", laid_capstan_value_sizes)] }
def StateOneSaid : Prop := stateOneRow.holds Tryd.pinned (OpenSpec.ofChange stateOneSpec)

/-- ITS FALSE NEIGHBOUR: 'it returns false'. Refute it at one input. -/
def stateOneWrong : ChangeSpec := { name := "stateOne", fn := fun _ => fun
  | [d1, d2] => { results := [.lit (.bool false)], args := [d1, d2] }
  | _ => none }
def StateOneWrongFalsely : Prop := stateOneRow.holds Tryd.pinned (OpenSpec.ofChange stateOneWrong)

/-- 'capstanlaw20.EntryParses': WHATEVER THE INPUT: true; the input reads as it did. -/
def entryParsesSpec : ChangeSpec := { name := "entryParses", fn := fun _ => fun
  | [d] => { results := [.lit (.bool true)], args := [d] }
  | _ => none }
def entryParsesRow : OpenClaim := { program := "ytjidhcepdjdceaadoor", sum := "99aaa2eb17f4cd807428c479446b304f95d6f3249bbd32a482f6ebc41fd157b5", func := "capstan/capstanlaw20.EntryParses", spec := "entryParses", unfollowed := true, recurses := true, named := ["capstan/value.sizes"], apart := false, laid := [("capstan/value.sizes", laid_capstan_value_sizes)] }
def EntryParsesSaid : Prop := entryParsesRow.holds Tryd.pinned (OpenSpec.ofChange entryParsesSpec)

/-- ITS FALSE NEIGHBOUR: 'it returns false'. Refute it at one input. -/
def entryParsesWrong : ChangeSpec := { name := "entryParses", fn := fun _ => fun
  | [d] => { results := [.lit (.bool false)], args := [d] }
  | _ => none }
def EntryParsesWrongFalsely : Prop := entryParsesRow.holds Tryd.pinned (OpenSpec.ofChange entryParsesWrong)

/-- 'capstanlaw20.EntryBack': WHATEVER THE INPUT: true; the input reads as it did. -/
def entryBackSpec : ChangeSpec := { name := "entryBack", fn := fun _ => fun
  | [d1, d2] => { results := [.lit (.bool true)], args := [d1, d2] }
  | _ => none }
def entryBackRow : OpenClaim := { program := "ytjidhcepdjdceaadoor", sum := "99aaa2eb17f4cd807428c479446b304f95d6f3249bbd32a482f6ebc41fd157b5", func := "capstan/capstanlaw20.EntryBack", spec := "entryBack", unfollowed := true, recurses := true, named := ["capstan/value.sizes"], apart := false, laid := [("capstan/value.sizes", laid_capstan_value_sizes)] }
def EntryBackSaid : Prop := entryBackRow.holds Tryd.pinned (OpenSpec.ofChange entryBackSpec)

/-- ITS FALSE NEIGHBOUR: 'it returns false'. Refute it at one input. -/
def entryBackWrong : ChangeSpec := { name := "entryBack", fn := fun _ => fun
  | [d1, d2] => { results := [.lit (.bool false)], args := [d1, d2] }
  | _ => none }
def EntryBackWrongFalsely : Prop := entryBackRow.holds Tryd.pinned (OpenSpec.ofChange entryBackWrong)

/-- 'capstanlaw20.EntryApart': WHATEVER THE INPUT: true; the input reads as it did. -/
def entryApartSpec : ChangeSpec := { name := "entryApart", fn := fun _ => fun
  | [d1, d2] => { results := [.lit (.bool true)], args := [d1, d2] }
  | _ => none }
def entryApartRow : OpenClaim := { program := "ytjidhcepdjdceaadoor", sum := "99aaa2eb17f4cd807428c479446b304f95d6f3249bbd32a482f6ebc41fd157b5", func := "capstan/capstanlaw20.EntryApart", spec := "entryApart", unfollowed := true, recurses := true, named := ["capstan/value.sizes"], apart := false, laid := [("capstan/value.sizes", laid_capstan_value_sizes)] }
def EntryApartSaid : Prop := entryApartRow.holds Tryd.pinned (OpenSpec.ofChange entryApartSpec)

/-- ITS FALSE NEIGHBOUR: 'it returns false'. Refute it at one input. -/
def entryApartWrong : ChangeSpec := { name := "entryApart", fn := fun _ => fun
  | [d1, d2] => { results := [.lit (.bool false)], args := [d1, d2] }
  | _ => none }
def EntryApartWrongFalsely : Prop := entryApartRow.holds Tryd.pinned (OpenSpec.ofChange entryApartWrong)

/- THE SECOND FORM. 'bulk': how many values and letters a reading holds, each counted each time it is reached (what is shared counts as often as it is met; a slice's spare places count too). A statement '..UptoSaid' is the law's where the arguments, and the package variables that the reading takes, are together of bulk at most 1048576: NARROWER than '..Said'. Prove '..Said' where nothing that the law and all that it calls make is longer than what came in: it says more and counts as full. Else prove '..UptoSaid'. A law counts once. -/
mutual
def uptoBulk {H : Type} : DataW H → Nat
  | .lit (.string bytes) => bytes.length + 1
  | .lit _ => 1
  | .nil => 1
  | .ptr d => uptoBulk d + 1
  | .slice elems spare => uptoBulkAll elems + uptoBulkAll spare + 1
  | .agg parts => uptoBulkAll parts + 1
  | .iface _ d => uptoBulk d + 1
  | .map entries => uptoBulkEntries entries + 1
  | .held _ => 1
def uptoBulkAll {H : Type} : List (DataW H) → Nat
  | [] => 0
  | d :: r => uptoBulk d + uptoBulkAll r
def uptoBulkEntries {H : Type} : List (Lit × DataW H) → Nat
  | [] => 0
  | x :: r => uptoBulkEntry x + uptoBulkEntries r
def uptoBulkEntry {H : Type} : Lit × DataW H → Nat
  | (.string bytes, d) => bytes.length + uptoBulk d + 1
  | (_, d) => uptoBulk d + 1
 end
def uptoSmall : (H : Type) → List (DataW H) → Bool := fun _ ds => decide (uptoBulkAll ds ≤ 1048576)
def OpenSpec.upto (s : _root_.Go.ChangeSpec) : _root_.Go.OpenSpec := { _root_.Go.OpenSpec.ofChange s with cond := some uptoSmall }

/-- 'capstanlaw18.StateParses', WHERE WHAT IT READS IS OF BULK AT MOST 1048576: true; the input reads as it did. -/
def stateParsesUptoRow : OpenClaim := { program := "ytjidhcepdjdceaadoor", sum := "99aaa2eb17f4cd807428c479446b304f95d6f3249bbd32a482f6ebc41fd157b5", func := "capstan/capstanlaw18.StateParses", spec := "stateParses", unfollowed := true, recurses := true, named := ["capstan/value.sizes"], apart := false, laid := [("capstan/value.sizes", laid_capstan_value_sizes)], narrowed := true }
def StateParsesUptoSaid : Prop := stateParsesUptoRow.holds Tryd.pinned (OpenSpec.upto stateParsesSpec)

/-- 'capstanlaw18.StateBack', WHERE WHAT IT READS IS OF BULK AT MOST 1048576: true; the input reads as it did. -/
def stateBackUptoRow : OpenClaim := { program := "ytjidhcepdjdceaadoor", sum := "99aaa2eb17f4cd807428c479446b304f95d6f3249bbd32a482f6ebc41fd157b5", func := "capstan/capstanlaw18.StateBack", spec := "stateBack", unfollowed := true, recurses := true, named := ["capstan/value.sizes"], apart := false, laid := [("capstan/value.sizes", laid_capstan_value_sizes)], narrowed := true }
def StateBackUptoSaid : Prop := stateBackUptoRow.holds Tryd.pinned (OpenSpec.upto stateBackSpec)

/-- 'capstanlaw18.StateOne', WHERE WHAT IT READS IS OF BULK AT MOST 1048576: true; the input reads as it did. -/
def stateOneUptoRow : OpenClaim := { program := "ytjidhcepdjdceaadoor", sum := "99aaa2eb17f4cd807428c479446b304f95d6f3249bbd32a482f6ebc41fd157b5", func := "capstan/capstanlaw18.StateOne", spec := "stateOne", unfollowed := true, recurses := true, named := ["capstan/value.sizes"], apart := false, laid := [("capstan/value.sizes", laid_capstan_value_sizes)], narrowed := true }
def StateOneUptoSaid : Prop := stateOneUptoRow.holds Tryd.pinned (OpenSpec.upto stateOneSpec)

/-- 'capstanlaw20.EntryParses', WHERE WHAT IT READS IS OF BULK AT MOST 1048576: true; the input reads as it did. -/
def entryParsesUptoRow : OpenClaim := { program := "ytjidhcepdjdceaadoor", sum := "99aaa2eb17f4cd807428c479446b304f95d6f3249bbd32a482f6ebc41fd157b5", func := "capstan/capstanlaw20.EntryParses", spec := "entryParses", unfollowed := true, recurses := true, named := ["capstan/value.sizes"], apart := false, laid := [("capstan/value.sizes", laid_capstan_value_sizes)], narrowed := true }
def EntryParsesUptoSaid : Prop := entryParsesUptoRow.holds Tryd.pinned (OpenSpec.upto entryParsesSpec)

/-- 'capstanlaw20.EntryBack', WHERE WHAT IT READS IS OF BULK AT MOST 1048576: true; the input reads as it did. -/
def entryBackUptoRow : OpenClaim := { program := "ytjidhcepdjdceaadoor", sum := "99aaa2eb17f4cd807428c479446b304f95d6f3249bbd32a482f6ebc41fd157b5", func := "capstan/capstanlaw20.EntryBack", spec := "entryBack", unfollowed := true, recurses := true, named := ["capstan/value.sizes"], apart := false, laid := [("capstan/value.sizes", laid_capstan_value_sizes)], narrowed := true }
def EntryBackUptoSaid : Prop := entryBackUptoRow.holds Tryd.pinned (OpenSpec.upto entryBackSpec)

/-- 'capstanlaw20.EntryApart', WHERE WHAT IT READS IS OF BULK AT MOST 1048576: true; the input reads as it did. -/
def entryApartUptoRow : OpenClaim := { program := "ytjidhcepdjdceaadoor", sum := "99aaa2eb17f4cd807428c479446b304f95d6f3249bbd32a482f6ebc41fd157b5", func := "capstan/capstanlaw20.EntryApart", spec := "entryApart", unfollowed := true, recurses := true, named := ["capstan/value.sizes"], apart := false, laid := [("capstan/value.sizes", laid_capstan_value_sizes)], narrowed := true }
def EntryApartUptoSaid : Prop := entryApartUptoRow.holds Tryd.pinned (OpenSpec.upto entryApartSpec)

end Rows
end Go.Proofs.YtjidhcepdjdceaaDoor
