/-
  NARROWER THAN 'FOR EVERY INPUT', by the rows' own cells (each row's printed sentence says how): ModuleParses: laid · ModuleTells: laid · ModuleParts: laid · ModuleBack: laid · ModuleSame: laid.
  DERIVED. THE GIVEN ROWS OF THIS SEAT. 5 by the template 'for every input the law returns true; each argument reads behind the call as it read before'; 0 by the template 'total and deterministic' (their statements: YthmjblmdbcmjcaaDoorTotals.lean).
  GIVEN WITH THE SEED: the statements are not yours to turn. If you find one false, say at which input.
  Laid BY PROGRAM, IN A SANDBOX (cutbox-rows.mjs): the forced cells as the released guide's own fill.sh prints them over the translation 361a9658e6c59b1a… (all of the seat's roots in one cut). By AI agents, Wed Nov 11 2026. No macro, syntax, notation, axiom, sorry.
-/
import Derived.Test.YthmjblmdbcmjcaaDoorChecked
import GoSem.Claim
import GoSem.ClaimJoined
import GoSem.ClaimMapViews
import Derived.JoinedTies
import Derived.KernelRfl
namespace Go.Proofs.YthmjblmdbcmjcaaDoor
/- THE CELL 'sum', in the pinned program and in every row, IS THE sha256 OF THE DUMP (.gsa) THAT YthmjblmdbcmjcaaDoorProg.lean LOADS. Nothing in Lean hashes anything: it is a label: what it is worth is what the hold of that sum in a sandbox is worth. -/
noncomputable def Tryd.pinned : Pinned := { name := "ythmjblmdbcmjcaadoor", sum := "361a9658e6c59b1ab79fd943a46d2a2c2f1f9dd1138689e4a7a086d93d471d91", checked := Tryd.checked }
namespace Rows
def none {H : Type} : Left H := { results := [], args := [] }

/- WHAT THE LISTED PACKAGE-LEVEL VARIABLES READ AS WHEN THE CALL BEGINS. Each datum BY PROGRAM (the guide's laid-datum.mjs) off the statement by which the dump's own 'gosem.cut.vars' lays the variable. In a bare row this is a premise. The card (YthmjblmdbcmjcaaDoorCards.lean) ties it to the program's text. -/
def laid_capstan_op_bounds {H : Type} : DataW H := .agg [.agg [.lit (.int .i64 0), .lit (.int .i64 0)], .agg [.lit (.int .i64 0), .lit (.int .i64 31)], .agg [.lit (.int .i64 0), .lit (.int .i64 15)], .agg [.lit (.int .i64 0), .lit (.int .i64 3)], .agg [.lit (.int .i64 0), .lit (.int .i64 1024)], .agg [.lit (.int .i64 0), .lit (.int .i64 199)], .agg [.lit (.int .i64 0), .lit (.int .i64 15)], .agg [.lit (.int .i64 0), .lit (.int .i64 255)], .agg [.lit (.int .i64 1), .lit (.int .i64 100)]]
def laid_capstan_value_sizes {H : Type} : DataW H := .agg [.lit (.int .i64 0), .lit (.int .i64 8), .lit (.int .i64 6)]

/-- 'capstanlaw08.ModuleParses': WHATEVER THE INPUT: true; the input reads as it did. -/
def moduleParsesSpec : ChangeSpec := { name := "moduleParses", fn := fun _ => fun
  | [d] => { results := [.lit (.bool true)], args := [d] }
  | _ => none }
def moduleParsesRow : OpenClaim := { program := "ythmjblmdbcmjcaadoor", sum := "361a9658e6c59b1ab79fd943a46d2a2c2f1f9dd1138689e4a7a086d93d471d91", func := "capstan/capstanlaw08.ModuleParses", spec := "moduleParses", unfollowed := true, recurses := true, named := ["capstan/value.sizes", "capstan/op.bounds"], apart := false, laid := [("capstan/op.bounds", laid_capstan_op_bounds), ("capstan/value.sizes", laid_capstan_value_sizes)] }
def ModuleParsesSaid : Prop := moduleParsesRow.holds Tryd.pinned (OpenSpec.ofChange moduleParsesSpec)

/-- ITS FALSE NEIGHBOUR: 'it returns false'. Refute it at one input. -/
def moduleParsesWrong : ChangeSpec := { name := "moduleParses", fn := fun _ => fun
  | [d] => { results := [.lit (.bool false)], args := [d] }
  | _ => none }
def ModuleParsesWrongFalsely : Prop := moduleParsesRow.holds Tryd.pinned (OpenSpec.ofChange moduleParsesWrong)

/-- 'capstanlaw08.ModuleTells': WHATEVER THE INPUT: true; the input reads as it did. -/
def moduleTellsSpec : ChangeSpec := { name := "moduleTells", fn := fun _ => fun
  | [d1, d2] => { results := [.lit (.bool true)], args := [d1, d2] }
  | _ => none }
def moduleTellsRow : OpenClaim := { program := "ythmjblmdbcmjcaadoor", sum := "361a9658e6c59b1ab79fd943a46d2a2c2f1f9dd1138689e4a7a086d93d471d91", func := "capstan/capstanlaw08.ModuleTells", spec := "moduleTells", unfollowed := true, recurses := true, named := ["capstan/op.bounds"], apart := false, laid := [("capstan/op.bounds", laid_capstan_op_bounds)] }
def ModuleTellsSaid : Prop := moduleTellsRow.holds Tryd.pinned (OpenSpec.ofChange moduleTellsSpec)

/-- ITS FALSE NEIGHBOUR: 'it returns false'. Refute it at one input. -/
def moduleTellsWrong : ChangeSpec := { name := "moduleTells", fn := fun _ => fun
  | [d1, d2] => { results := [.lit (.bool false)], args := [d1, d2] }
  | _ => none }
def ModuleTellsWrongFalsely : Prop := moduleTellsRow.holds Tryd.pinned (OpenSpec.ofChange moduleTellsWrong)

/-- 'capstanlaw08.ModuleParts': WHATEVER THE INPUT: true; the input reads as it did. -/
def modulePartsSpec : ChangeSpec := { name := "moduleParts", fn := fun _ => fun
  | [d] => { results := [.lit (.bool true)], args := [d] }
  | _ => none }
def modulePartsRow : OpenClaim := { program := "ythmjblmdbcmjcaadoor", sum := "361a9658e6c59b1ab79fd943a46d2a2c2f1f9dd1138689e4a7a086d93d471d91", func := "capstan/capstanlaw08.ModuleParts", spec := "moduleParts", unfollowed := true, recurses := true, named := ["capstan/op.bounds", "capstan/value.sizes"], apart := false, laid := [("capstan/op.bounds", laid_capstan_op_bounds), ("capstan/value.sizes", laid_capstan_value_sizes)] }
def ModulePartsSaid : Prop := modulePartsRow.holds Tryd.pinned (OpenSpec.ofChange modulePartsSpec)

/-- ITS FALSE NEIGHBOUR: 'it returns false'. Refute it at one input. -/
def modulePartsWrong : ChangeSpec := { name := "moduleParts", fn := fun _ => fun
  | [d] => { results := [.lit (.bool false)], args := [d] }
  | _ => none }
def ModulePartsWrongFalsely : Prop := modulePartsRow.holds Tryd.pinned (OpenSpec.ofChange modulePartsWrong)

/-- 'capstanlaw08.ModuleBack': WHATEVER THE INPUT: true; the input reads as it did. -/
def moduleBackSpec : ChangeSpec := { name := "moduleBack", fn := fun _ => fun
  | [d1, d2, d3] => { results := [.lit (.bool true)], args := [d1, d2, d3] }
  | _ => none }
def moduleBackRow : OpenClaim := { program := "ythmjblmdbcmjcaadoor", sum := "361a9658e6c59b1ab79fd943a46d2a2c2f1f9dd1138689e4a7a086d93d471d91", func := "capstan/capstanlaw08.ModuleBack", spec := "moduleBack", unfollowed := true, recurses := true, named := ["capstan/op.bounds", "capstan/value.sizes"], apart := false, laid := [("capstan/op.bounds", laid_capstan_op_bounds), ("capstan/value.sizes", laid_capstan_value_sizes)] }
def ModuleBackSaid : Prop := moduleBackRow.holds Tryd.pinned (OpenSpec.ofChange moduleBackSpec)

/-- ITS FALSE NEIGHBOUR: 'it returns false'. Refute it at one input. -/
def moduleBackWrong : ChangeSpec := { name := "moduleBack", fn := fun _ => fun
  | [d1, d2, d3] => { results := [.lit (.bool false)], args := [d1, d2, d3] }
  | _ => none }
def ModuleBackWrongFalsely : Prop := moduleBackRow.holds Tryd.pinned (OpenSpec.ofChange moduleBackWrong)

/-- 'capstanlaw08.ModuleSame': WHATEVER THE INPUT: true; the input reads as it did. -/
def moduleSameSpec : ChangeSpec := { name := "moduleSame", fn := fun _ => fun
  | [d1, d2] => { results := [.lit (.bool true)], args := [d1, d2] }
  | _ => none }
def moduleSameRow : OpenClaim := { program := "ythmjblmdbcmjcaadoor", sum := "361a9658e6c59b1ab79fd943a46d2a2c2f1f9dd1138689e4a7a086d93d471d91", func := "capstan/capstanlaw08.ModuleSame", spec := "moduleSame", unfollowed := true, recurses := true, named := ["capstan/op.bounds", "capstan/value.sizes"], apart := false, laid := [("capstan/op.bounds", laid_capstan_op_bounds), ("capstan/value.sizes", laid_capstan_value_sizes)] }
def ModuleSameSaid : Prop := moduleSameRow.holds Tryd.pinned (OpenSpec.ofChange moduleSameSpec)

/-- ITS FALSE NEIGHBOUR: 'it returns false'. Refute it at one input. -/
def moduleSameWrong : ChangeSpec := { name := "moduleSame", fn := fun _ => fun
  | [d1, d2] => { results := [.lit (.bool false)], args := [d1, d2] }
  | _ => none }
def ModuleSameWrongFalsely : Prop := moduleSameRow.holds Tryd.pinned (OpenSpec.ofChange moduleSameWrong)

/- THE SECOND FORM. 'bulk': how many values and letters a reading holds, each counted each time it is reached (what is shared counts as often as it is met; a slice's spare places count too). A statement '..UptoSaid' is the law's where the arguments, and the package variables that the reading takes, are together of bulk at most 1048576: NARROWER than '..Said'. Prove '..Said' where nothing that the law and all that it calls make is longer than what came in: it says more and counts as full. Else prove '..UptoSaid'. A law counts once. -/
mutual
def uptoBulk {H : Type} : DataW H → Nat
  | .lit (.string bytes) => bytes.length + 1
  | .lit _ => 1
  | .nil => 1
  | .ptr d => uptoBulk d + 1
  | .slice elems spare => uptoBulkAll elems + uptoBulkAll spare + 1
  | .agg parts => uptoBulkAll parts + 1
  | .iface _ d => uptoBulk d + 1
  | .map entries => uptoBulkEntries entries + 1
  | .held _ => 1
def uptoBulkAll {H : Type} : List (DataW H) → Nat
  | [] => 0
  | d :: r => uptoBulk d + uptoBulkAll r
def uptoBulkEntries {H : Type} : List (Lit × DataW H) → Nat
  | [] => 0
  | x :: r => uptoBulkEntry x + uptoBulkEntries r
def uptoBulkEntry {H : Type} : Lit × DataW H → Nat
  | (.string bytes, d) => bytes.length + uptoBulk d + 1
  | (_, d) => uptoBulk d + 1
 end
def uptoSmall : (H : Type) → List (DataW H) → Bool := fun _ ds => decide (uptoBulkAll ds ≤ 1048576)
def OpenSpec.upto (s : _root_.Go.ChangeSpec) : _root_.Go.OpenSpec := { _root_.Go.OpenSpec.ofChange s with cond := some uptoSmall }

/-- 'capstanlaw08.ModuleParses', WHERE WHAT IT READS IS OF BULK AT MOST 1048576: true; the input reads as it did. -/
def moduleParsesUptoRow : OpenClaim := { program := "ythmjblmdbcmjcaadoor", sum := "361a9658e6c59b1ab79fd943a46d2a2c2f1f9dd1138689e4a7a086d93d471d91", func := "capstan/capstanlaw08.ModuleParses", spec := "moduleParses", unfollowed := true, recurses := true, named := ["capstan/value.sizes", "capstan/op.bounds"], apart := false, laid := [("capstan/op.bounds", laid_capstan_op_bounds), ("capstan/value.sizes", laid_capstan_value_sizes)], narrowed := true }
def ModuleParsesUptoSaid : Prop := moduleParsesUptoRow.holds Tryd.pinned (OpenSpec.upto moduleParsesSpec)

/-- 'capstanlaw08.ModuleTells', WHERE WHAT IT READS IS OF BULK AT MOST 1048576: true; the input reads as it did. -/
def moduleTellsUptoRow : OpenClaim := { program := "ythmjblmdbcmjcaadoor", sum := "361a9658e6c59b1ab79fd943a46d2a2c2f1f9dd1138689e4a7a086d93d471d91", func := "capstan/capstanlaw08.ModuleTells", spec := "moduleTells", unfollowed := true, recurses := true, named := ["capstan/op.bounds"], apart := false, laid := [("capstan/op.bounds", laid_capstan_op_bounds)], narrowed := true }
def ModuleTellsUptoSaid : Prop := moduleTellsUptoRow.holds Tryd.pinned (OpenSpec.upto moduleTellsSpec)

/-- 'capstanlaw08.ModuleParts', WHERE WHAT IT READS IS OF BULK AT MOST 1048576: true; the input reads as it did. -/
def modulePartsUptoRow : OpenClaim := { program := "ythmjblmdbcmjcaadoor", sum := "361a9658e6c59b1ab79fd943a46d2a2c2f1f9dd1138689e4a7a086d93d471d91", func := "capstan/capstanlaw08.ModuleParts", spec := "moduleParts", unfollowed := true, recurses := true, named := ["capstan/op.bounds", "capstan/value.sizes"], apart := false, laid := [("capstan/op.bounds", laid_capstan_op_bounds), ("capstan/value.sizes", laid_capstan_value_sizes)], narrowed := true }
def ModulePartsUptoSaid : Prop := modulePartsUptoRow.holds Tryd.pinned (OpenSpec.upto modulePartsSpec)

/-- 'capstanlaw08.ModuleBack', WHERE WHAT IT READS IS OF BULK AT MOST 1048576: true; the input reads as it did. -/
def moduleBackUptoRow : OpenClaim := { program := "ythmjblmdbcmjcaadoor", sum := "361a9658e6c59b1ab79fd943a46d2a2c2f1f9dd1138689e4a7a086d93d471d91", func := "capstan/capstanlaw08.ModuleBack", spec := "moduleBack", unfollowed := true, recurses := true, named := ["capstan/op.bounds", "capstan/value.sizes"], apart := false, laid := [("capstan/op.bounds", laid_capstan_op_bounds), ("capstan/value.sizes", laid_capstan_value_sizes)], narrowed := true }
def ModuleBackUptoSaid : Prop := moduleBackUptoRow.holds Tryd.pinned (OpenSpec.upto moduleBackSpec)

/-- 'capstanlaw08.ModuleSame', WHERE WHAT IT READS IS OF BULK AT MOST 1048576: true; the input reads as it did. -/
def moduleSameUptoRow : OpenClaim := { program := "ythmjblmdbcmjcaadoor", sum := "361a9658e6c59b1ab79fd943a46d2a2c2f1f9dd1138689e4a7a086d93d471d91", func := "capstan/capstanlaw08.ModuleSame", spec := "moduleSame", unfollowed := true, recurses := true, named := ["capstan/op.bounds", "capstan/value.sizes"], apart := false, laid := [("capstan/op.bounds", laid_capstan_op_bounds), ("capstan/value.sizes", laid_capstan_value_sizes)], narrowed := true }
def ModuleSameUptoSaid : Prop := moduleSameUptoRow.holds Tryd.pinned (OpenSpec.upto moduleSameSpec)

end Rows
end Go.Proofs.YthmjblmdbcmjcaaDoor
