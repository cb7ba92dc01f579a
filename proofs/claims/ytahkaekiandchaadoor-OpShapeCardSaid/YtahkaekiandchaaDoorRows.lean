/-
  NARROWER THAN 'FOR EVERY INPUT', by the rows' own cells (each row's printed sentence says how): OpParses: laid · OpTells: laid · OpBounds: laid · OpShape: laid · OpNames: laid.
  DERIVED. THE GIVEN ROWS OF THIS SEAT. 5 by the template 'for every input the law returns true; each argument reads behind the call as it read before'; 0 by the template 'total and deterministic' (their statements: YtahkaekiandchaaDoorTotals.lean).
  GIVEN WITH THE SEED: the statements are not yours to turn. If you find one false, say at which input.
  Laid BY PROGRAM, IN A SANDBOX (cutbox-rows.mjs): the forced cells as the released guide's own fill.sh prints them over the translation 495a73cd0a16b45c… (all of the seat's roots in one cut). By AI agents, Wed Nov 11 2026. No macro, syntax, notation, axiom, sorry.
-/
import Derived.Test.YtahkaekiandchaaDoorChecked
import GoSem.Claim
import GoSem.ClaimJoined
import GoSem.ClaimMapViews
import Derived.JoinedTies
import Derived.KernelRfl
namespace Go.Proofs.YtahkaekiandchaaDoor
/- THE CELL 'sum', in the pinned program and in every row, IS THE sha256 OF THE DUMP (.gsa) THAT YtahkaekiandchaaDoorProg.lean LOADS. Nothing in Lean hashes anything: it is a label: what it is worth is what the hold of that sum in a sandbox is worth. -/
noncomputable def Tryd.pinned : Pinned := { name := "ytahkaekiandchaadoor", sum := "495a73cd0a16b45cea41a90ca38de12f7e977b0c184cb070bbd61ed508d4f709", checked := Tryd.checked }
namespace Rows
def none {H : Type} : Left H := { results := [], args := [] }

/- WHAT THE LISTED PACKAGE-LEVEL VARIABLES READ AS WHEN THE CALL BEGINS. Each datum BY PROGRAM (the guide's laid-datum.mjs) off the statement by which the dump's own 'gosem.cut.vars' lays the variable. In a bare row this is a premise. The card (YtahkaekiandchaaDoorCards.lean) ties it to the program's text. -/
def laid_capstan_op_names {H : Type} : DataW H := .agg [.lit (.string [110, 111, 112]), .lit (.string [99, 111, 110, 115, 116]), .lit (.string [103, 101, 116]), .lit (.string [115, 101, 116]), .lit (.string [108, 111, 97, 100]), .lit (.string [115, 116, 111, 114, 101]), .lit (.string [112, 111, 112]), .lit (.string [100, 117, 112]), .lit (.string [115, 119, 97, 112]), .lit (.string [97, 100, 100]), .lit (.string [115, 117, 98]), .lit (.string [109, 117, 108]), .lit (.string [100, 105, 118]), .lit (.string [114, 101, 109]), .lit (.string [108, 101, 115, 115]), .lit (.string [115, 97, 109, 101]), .lit (.string [112, 97, 105, 114]), .lit (.string [114, 101]), .lit (.string [105, 109]), .lit (.string [112, 97, 100, 100]), .lit (.string [112, 109, 117, 108]), .lit (.string [99, 111, 110, 106]), .lit (.string [110, 101, 119]), .lit (.string [97, 116]), .lit (.string [112, 117, 116]), .lit (.string [108, 101, 110]), .lit (.string [106, 117, 109, 112]), .lit (.string [122, 101, 114, 111]), .lit (.string [108, 111, 111, 112]), .lit (.string [97, 103, 97, 105, 110]), .lit (.string [99, 97, 108, 108]), .lit (.string [114, 101, 116]), .lit (.string [116, 114, 97, 112])]
def laid_capstan_op_bounds {H : Type} : DataW H := .agg [.agg [.lit (.int .i64 0), .lit (.int .i64 0)], .agg [.lit (.int .i64 0), .lit (.int .i64 31)], .agg [.lit (.int .i64 0), .lit (.int .i64 15)], .agg [.lit (.int .i64 0), .lit (.int .i64 3)], .agg [.lit (.int .i64 0), .lit (.int .i64 1024)], .agg [.lit (.int .i64 0), .lit (.int .i64 199)], .agg [.lit (.int .i64 0), .lit (.int .i64 15)], .agg [.lit (.int .i64 0), .lit (.int .i64 255)], .agg [.lit (.int .i64 1), .lit (.int .i64 100)]]

/-- 'capstanlaw04.OpParses': WHATEVER THE INPUT: true; the input reads as it did. -/
def opParsesSpec : ChangeSpec := { name := "opParses", fn := fun _ => fun
  | [d] => { results := [.lit (.bool true)], args := [d] }
  | _ => none }
def opParsesRow : OpenClaim := { program := "ytahkaekiandchaadoor", sum := "495a73cd0a16b45cea41a90ca38de12f7e977b0c184cb070bbd61ed508d4f709", func := "capstan/capstanlaw04.OpParses", spec := "opParses", named := ["capstan/op.names"], apart := false, laid := [("capstan/op.names", laid_capstan_op_names)] }
def OpParsesSaid : Prop := opParsesRow.holds Tryd.pinned (OpenSpec.ofChange opParsesSpec)

/-- ITS FALSE NEIGHBOUR: 'it returns false'. Refute it at one input. -/
def opParsesWrong : ChangeSpec := { name := "opParses", fn := fun _ => fun
  | [d] => { results := [.lit (.bool false)], args := [d] }
  | _ => none }
def OpParsesWrongFalsely : Prop := opParsesRow.holds Tryd.pinned (OpenSpec.ofChange opParsesWrong)

/-- 'capstanlaw04.OpTells': WHATEVER THE INPUT: true; the input reads as it did. -/
def opTellsSpec : ChangeSpec := { name := "opTells", fn := fun _ => fun
  | [d] => { results := [.lit (.bool true)], args := [d] }
  | _ => none }
def opTellsRow : OpenClaim := { program := "ytahkaekiandchaadoor", sum := "495a73cd0a16b45cea41a90ca38de12f7e977b0c184cb070bbd61ed508d4f709", func := "capstan/capstanlaw04.OpTells", spec := "opTells", named := ["capstan/op.bounds", "capstan/op.names"], apart := false, laid := [("capstan/op.names", laid_capstan_op_names), ("capstan/op.bounds", laid_capstan_op_bounds)] }
def OpTellsSaid : Prop := opTellsRow.holds Tryd.pinned (OpenSpec.ofChange opTellsSpec)

/-- ITS FALSE NEIGHBOUR: 'it returns false'. Refute it at one input. -/
def opTellsWrong : ChangeSpec := { name := "opTells", fn := fun _ => fun
  | [d] => { results := [.lit (.bool false)], args := [d] }
  | _ => none }
def OpTellsWrongFalsely : Prop := opTellsRow.holds Tryd.pinned (OpenSpec.ofChange opTellsWrong)

/-- 'capstanlaw04.OpBounds': WHATEVER THE INPUT: true; the input reads as it did. -/
def opBoundsSpec : ChangeSpec := { name := "opBounds", fn := fun _ => fun
  | [d1, d2] => { results := [.lit (.bool true)], args := [d1, d2] }
  | _ => none }
def opBoundsRow : OpenClaim := { program := "ytahkaekiandchaadoor", sum := "495a73cd0a16b45cea41a90ca38de12f7e977b0c184cb070bbd61ed508d4f709", func := "capstan/capstanlaw04.OpBounds", spec := "opBounds", named := ["capstan/op.bounds", "capstan/op.names"], apart := false, laid := [("capstan/op.names", laid_capstan_op_names), ("capstan/op.bounds", laid_capstan_op_bounds)] }
def OpBoundsSaid : Prop := opBoundsRow.holds Tryd.pinned (OpenSpec.ofChange opBoundsSpec)

/-- ITS FALSE NEIGHBOUR: 'it returns false'. Refute it at one input. -/
def opBoundsWrong : ChangeSpec := { name := "opBounds", fn := fun _ => fun
  | [d1, d2] => { results := [.lit (.bool false)], args := [d1, d2] }
  | _ => none }
def OpBoundsWrongFalsely : Prop := opBoundsRow.holds Tryd.pinned (OpenSpec.ofChange opBoundsWrong)

/-- 'capstanlaw04.OpShape': WHATEVER THE INPUT: true; the input reads as it did. -/
def opShapeSpec : ChangeSpec := { name := "opShape", fn := fun _ => fun
  | [d] => { results := [.lit (.bool true)], args := [d] }
  | _ => none }
def opShapeRow : OpenClaim := { program := "ytahkaekiandchaadoor", sum := "495a73cd0a16b45cea41a90ca38de12f7e977b0c184cb070bbd61ed508d4f709", func := "capstan/capstanlaw04.OpShape", spec := "opShape", named := ["capstan/op.bounds", "capstan/op.names"], apart := false, laid := [("capstan/op.names", laid_capstan_op_names), ("capstan/op.bounds", laid_capstan_op_bounds)] }
def OpShapeSaid : Prop := opShapeRow.holds Tryd.pinned (OpenSpec.ofChange opShapeSpec)

/-- ITS FALSE NEIGHBOUR: 'it returns false'. Refute it at one input. -/
def opShapeWrong : ChangeSpec := { name := "opShape", fn := fun _ => fun
  | [d] => { results := [.lit (.bool false)], args := [d] }
  | _ => none }
def OpShapeWrongFalsely : Prop := opShapeRow.holds Tryd.pinned (OpenSpec.ofChange opShapeWrong)

/-- 'capstanlaw04.OpNames': WHATEVER THE INPUT: true; the input reads as it did. -/
def opNamesSpec : ChangeSpec := { name := "opNames", fn := fun _ => fun
  | [d1, d2, d3] => { results := [.lit (.bool true)], args := [d1, d2, d3] }
  | _ => none }
def opNamesRow : OpenClaim := { program := "ytahkaekiandchaadoor", sum := "495a73cd0a16b45cea41a90ca38de12f7e977b0c184cb070bbd61ed508d4f709", func := "capstan/capstanlaw04.OpNames", spec := "opNames", named := ["capstan/op.bounds", "capstan/op.names"], apart := false, laid := [("capstan/op.names", laid_capstan_op_names), ("capstan/op.bounds", laid_capstan_op_bounds)] }
def OpNamesSaid : Prop := opNamesRow.holds Tryd.pinned (OpenSpec.ofChange opNamesSpec)

/-- ITS FALSE NEIGHBOUR: 'it returns false'. Refute it at one input. -/
def opNamesWrong : ChangeSpec := { name := "opNames", fn := fun _ => fun
  | [d1, d2, d3] => { results := [.lit (.bool false)], args := [d1, d2, d3] }
  | _ => none }
def OpNamesWrongFalsely : Prop := opNamesRow.holds Tryd.pinned (OpenSpec.ofChange opNamesWrong)

/- THE SECOND FORM. 'bulk': how many values and letters a reading holds, each counted each time it is reached (what is shared counts as often as it is met; a slice's spare places count too). A statement '..UptoSaid' is the law's where the arguments, and the package variables that the reading takes, are together of bulk at most 1048576: NARROWER than '..Said'. Prove '..Said' where nothing that the law and all that it calls make is longer than what came in: it says more and counts as full. Else prove '..UptoSaid'. A law counts once. -/
mutual
def uptoBulk {H : Type} : DataW H → Nat
  | .lit (.string bytes) => bytes.length + 1
  | .lit _ => 1
  | .nil => 1
  | .ptr d => uptoBulk d + 1
  | .slice elems spare => uptoBulkAll elems + uptoBulkAll spare + 1
  | .agg parts => uptoBulkAll parts + 1
  | .iface _ d => uptoBulk d + 1
  | .map entries => uptoBulkEntries entries + 1
  | .held _ => 1
def uptoBulkAll {H : Type} : List (DataW H) → Nat
  | [] => 0
  | d :: r => uptoBulk d + uptoBulkAll r
def uptoBulkEntries {H : Type} : List (Lit × DataW H) → Nat
  | [] => 0
  | x :: r => uptoBulkEntry x + uptoBulkEntries r
def uptoBulkEntry {H : Type} : Lit × DataW H → Nat
  | (.string bytes, d) => bytes.length + uptoBulk d + 1
  | (_, d) => uptoBulk d + 1
 end
def uptoSmall : (H : Type) → List (DataW H) → Bool := fun _ ds => decide (uptoBulkAll ds ≤ 1048576)
def OpenSpec.upto (s : _root_.Go.ChangeSpec) : _root_.Go.OpenSpec := { _root_.Go.OpenSpec.ofChange s with cond := some uptoSmall }

/-- 'capstanlaw04.OpParses', WHERE WHAT IT READS IS OF BULK AT MOST 1048576: true; the input reads as it did. -/
def opParsesUptoRow : OpenClaim := { program := "ytahkaekiandchaadoor", sum := "495a73cd0a16b45cea41a90ca38de12f7e977b0c184cb070bbd61ed508d4f709", func := "capstan/capstanlaw04.OpParses", spec := "opParses", named := ["capstan/op.names"], apart := false, laid := [("capstan/op.names", laid_capstan_op_names)], narrowed := true }
def OpParsesUptoSaid : Prop := opParsesUptoRow.holds Tryd.pinned (OpenSpec.upto opParsesSpec)

/-- 'capstanlaw04.OpTells', WHERE WHAT IT READS IS OF BULK AT MOST 1048576: true; the input reads as it did. -/
def opTellsUptoRow : OpenClaim := { program := "ytahkaekiandchaadoor", sum := "495a73cd0a16b45cea41a90ca38de12f7e977b0c184cb070bbd61ed508d4f709", func := "capstan/capstanlaw04.OpTells", spec := "opTells", named := ["capstan/op.bounds", "capstan/op.names"], apart := false, laid := [("capstan/op.names", laid_capstan_op_names), ("capstan/op.bounds", laid_capstan_op_bounds)], narrowed := true }
def OpTellsUptoSaid : Prop := opTellsUptoRow.holds Tryd.pinned (OpenSpec.upto opTellsSpec)

/-- 'capstanlaw04.OpBounds', WHERE WHAT IT READS IS OF BULK AT MOST 1048576: true; the input reads as it did. -/
def opBoundsUptoRow : OpenClaim := { program := "ytahkaekiandchaadoor", sum := "495a73cd0a16b45cea41a90ca38de12f7e977b0c184cb070bbd61ed508d4f709", func := "capstan/capstanlaw04.OpBounds", spec := "opBounds", named := ["capstan/op.bounds", "capstan/op.names"], apart := false, laid := [("capstan/op.names", laid_capstan_op_names), ("capstan/op.bounds", laid_capstan_op_bounds)], narrowed := true }
def OpBoundsUptoSaid : Prop := opBoundsUptoRow.holds Tryd.pinned (OpenSpec.upto opBoundsSpec)

/-- 'capstanlaw04.OpShape', WHERE WHAT IT READS IS OF BULK AT MOST 1048576: true; the input reads as it did. -/
def opShapeUptoRow : OpenClaim := { program := "ytahkaekiandchaadoor", sum := "495a73cd0a16b45cea41a90ca38de12f7e977b0c184cb070bbd61ed508d4f709", func := "capstan/capstanlaw04.OpShape", spec := "opShape", named := ["capstan/op.bounds", "capstan/op.names"], apart := false, laid := [("capstan/op.names", laid_capstan_op_names), ("capstan/op.bounds", laid_capstan_op_bounds)], narrowed := true }
def OpShapeUptoSaid : Prop := opShapeUptoRow.holds Tryd.pinned (OpenSpec.upto opShapeSpec)

/-- 'capstanlaw04.OpNames', WHERE WHAT IT READS IS OF BULK AT MOST 1048576: true; the input reads as it did. -/
def opNamesUptoRow : OpenClaim := { program := "ytahkaekiandchaadoor", sum := "495a73cd0a16b45cea41a90ca38de12f7e977b0c184cb070bbd61ed508d4f709", func := "capstan/capstanlaw04.OpNames", spec := "opNames", named := ["capstan/op.bounds", "capstan/op.names"], apart := false, laid := [("capstan/op.names", laid_capstan_op_names), ("capstan/op.bounds", laid_capstan_op_bounds)], narrowed := true }
def OpNamesUptoSaid : Prop := opNamesUptoRow.holds Tryd.pinned (OpenSpec.upto opNamesSpec)

end Rows
end Go.Proofs.YtahkaekiandchaaDoor
