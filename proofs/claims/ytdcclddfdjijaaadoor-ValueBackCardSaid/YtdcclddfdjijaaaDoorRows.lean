/-
  NARROWER THAN 'FOR EVERY INPUT', by the rows' own cells (each row's printed sentence says how): ValueReads: laid · ValueOne: laid · ValueBack: laid · ValueKinds: laid.
  DERIVED. THE GIVEN ROWS OF THIS SEAT. 4 by the template 'for every input the law returns true; each argument reads behind the call as it read before'; 0 by the template 'total and deterministic' (their statements: YtdcclddfdjijaaaDoorTotals.lean).
  GIVEN WITH THE SEED: the statements are not yours to turn. If you find one false, say at which input.
  Laid BY PROGRAM, IN A SANDBOX (cutbox-rows.mjs): the forced cells as the released guide's own fill.sh prints them over the translation 81f2ad5e0041dcd3… (all of the seat's roots in one cut). By AI agents, Wed Nov 11 2026. No macro, syntax, notation, axiom, sorry.
-/
import Derived.Test.YtdcclddfdjijaaaDoorChecked
import GoSem.Claim
import GoSem.ClaimJoined
import GoSem.ClaimMapViews
import Derived.JoinedTies
import Derived.KernelRfl
namespace Go.Proofs.YtdcclddfdjijaaaDoor
/- THE CELL 'sum', in the pinned program and in every row, IS THE sha256 OF THE DUMP (.gsa) THAT YtdcclddfdjijaaaDoorProg.lean LOADS. Nothing in Lean hashes anything: it is a label: what it is worth is what the hold of that sum in a sandbox is worth. -/
noncomputable def Tryd.pinned : Pinned := { name := "ytdcclddfdjijaaadoor", sum := "81f2ad5e0041dcd3184c793b52dd5e588a8d9ec9930d6ddbb926dcb45e025727", checked := Tryd.checked }
namespace Rows
def none {H : Type} : Left H := { results := [], args := [] }

/- WHAT THE LISTED PACKAGE-LEVEL VARIABLES READ AS WHEN THE CALL BEGINS. Each datum BY PROGRAM (the guide's laid-datum.mjs) off the statement by which the dump's own 'gosem.cut.vars' lays the variable. In a bare row this is a premise. The card (YtdcclddfdjijaaaDoorCards.lean) ties it to the program's text. -/
def laid_capstan_value_sizes {H : Type} : DataW H := .agg [.lit (.int .i64 0), .lit (.int .i64 8), .lit (.int .i64 6)]

/-- 'capstanlaw03.ValueReads': WHATEVER THE INPUT: true; the input reads as it did. -/
def valueReadsSpec : ChangeSpec := { name := "valueReads", fn := fun _ => fun
  | [d1, d2] => { results := [.lit (.bool true)], args := [d1, d2] }
  | _ => none }
def valueReadsRow : OpenClaim := { program := "ytdcclddfdjijaaadoor", sum := "81f2ad5e0041dcd3184c793b52dd5e588a8d9ec9930d6ddbb926dcb45e025727", func := "capstan/capstanlaw03.ValueReads", spec := "valueReads", unfollowed := true, recurses := true, named := ["capstan/value.sizes"], apart := false, laid := [("capstan/value.sizes", laid_capstan_value_sizes)] }
def ValueReadsSaid : Prop := valueReadsRow.holds Tryd.pinned (OpenSpec.ofChange valueReadsSpec)

/-- ITS FALSE NEIGHBOUR: 'it returns false'. Refute it at one input. -/
def valueReadsWrong : ChangeSpec := { name := "valueReads", fn := fun _ => fun
  | [d1, d2] => { results := [.lit (.bool false)], args := [d1, d2] }
  | _ => none }
def ValueReadsWrongFalsely : Prop := valueReadsRow.holds Tryd.pinned (OpenSpec.ofChange valueReadsWrong)

/-- 'capstanlaw03.ValueOne': WHATEVER THE INPUT: true; the input reads as it did. -/
def valueOneSpec : ChangeSpec := { name := "valueOne", fn := fun _ => fun
  | [d1, d2] => { results := [.lit (.bool true)], args := [d1, d2] }
  | _ => none }
def valueOneRow : OpenClaim := { program := "ytdcclddfdjijaaadoor", sum := "81f2ad5e0041dcd3184c793b52dd5e588a8d9ec9930d6ddbb926dcb45e025727", func := "capstan/capstanlaw03.ValueOne", spec := "valueOne", unfollowed := true, recurses := true, named := ["capstan/value.sizes"], apart := false, laid := [("capstan/value.sizes", laid_capstan_value_sizes)] }
def ValueOneSaid : Prop := valueOneRow.holds Tryd.pinned (OpenSpec.ofChange valueOneSpec)

/-- ITS FALSE NEIGHBOUR: 'it returns false'. Refute it at one input. -/
def valueOneWrong : ChangeSpec := { name := "valueOne", fn := fun _ => fun
  | [d1, d2] => { results := [.lit (.bool false)], args := [d1, d2] }
  | _ => none }
def ValueOneWrongFalsely : Prop := valueOneRow.holds Tryd.pinned (OpenSpec.ofChange valueOneWrong)

/-- 'capstanlaw03.ValueBack': WHATEVER THE INPUT: true; the input reads as it did. -/
def valueBackSpec : ChangeSpec := { name := "valueBack", fn := fun _ => fun
  | [d1, d2, d3, d4] => { results := [.lit (.bool true)], args := [d1, d2, d3, d4] }
  | _ => none }
def valueBackRow : OpenClaim := { program := "ytdcclddfdjijaaadoor", sum := "81f2ad5e0041dcd3184c793b52dd5e588a8d9ec9930d6ddbb926dcb45e025727", func := "capstan/capstanlaw03.ValueBack", spec := "valueBack", unfollowed := true, recurses := true, named := ["capstan/value.sizes"], apart := false, laid := [("capstan/value.sizes", laid_capstan_value_sizes)] }
def ValueBackSaid : Prop := valueBackRow.holds Tryd.pinned (OpenSpec.ofChange valueBackSpec)

/-- ITS FALSE NEIGHBOUR: 'it returns false'. Refute it at one input. -/
def valueBackWrong : ChangeSpec := { name := "valueBack", fn := fun _ => fun
  | [d1, d2, d3, d4] => { results := [.lit (.bool false)], args := [d1, d2, d3, d4] }
  | _ => none }
def ValueBackWrongFalsely : Prop := valueBackRow.holds Tryd.pinned (OpenSpec.ofChange valueBackWrong)

/-- 'capstanlaw03.ValueKinds': WHATEVER THE INPUT: true; the input reads as it did. -/
def valueKindsSpec : ChangeSpec := { name := "valueKinds", fn := fun _ => fun
  | [d] => { results := [.lit (.bool true)], args := [d] }
  | _ => none }
def valueKindsRow : OpenClaim := { program := "ytdcclddfdjijaaadoor", sum := "81f2ad5e0041dcd3184c793b52dd5e588a8d9ec9930d6ddbb926dcb45e025727", func := "capstan/capstanlaw03.ValueKinds", spec := "valueKinds", unfollowed := true, recurses := true, named := ["capstan/value.sizes"], apart := false, laid := [("capstan/value.sizes", laid_capstan_value_sizes)] }
def ValueKindsSaid : Prop := valueKindsRow.holds Tryd.pinned (OpenSpec.ofChange valueKindsSpec)

/-- ITS FALSE NEIGHBOUR: 'it returns false'. Refute it at one input. -/
def valueKindsWrong : ChangeSpec := { name := "valueKinds", fn := fun _ => fun
  | [d] => { results := [.lit (.bool false)], args := [d] }
  | _ => none }
def ValueKindsWrongFalsely : Prop := valueKindsRow.holds Tryd.pinned (OpenSpec.ofChange valueKindsWrong)

/- THE SECOND FORM. 'bulk': how many values and letters a reading holds, each counted each time it is reached (what is shared counts as often as it is met; a slice's spare places count too). A statement '..UptoSaid' is the law's where the arguments, and the package variables that the reading takes, are together of bulk at most 1048576: NARROWER than '..Said'. Prove '..Said' where nothing that the law and all that it calls make is longer than what came in: it says more and counts as full. Else prove '..UptoSaid'. A law counts once. -/
mutual
def uptoBulk {H : Type} : DataW H → Nat
  | .lit (.string bytes) => bytes.length + 1
  | .lit _ => 1
  | .nil => 1
  | .ptr d => uptoBulk d + 1
  | .slice elems spare => uptoBulkAll elems + uptoBulkAll spare + 1
  | .agg parts => uptoBulkAll parts + 1
  | .iface _ d => uptoBulk d + 1
  | .map entries => uptoBulkEntries entries + 1
  | .held _ => 1
def uptoBulkAll {H : Type} : List (DataW H) → Nat
  | [] => 0
  | d :: r => uptoBulk d + uptoBulkAll r
def uptoBulkEntries {H : Type} : List (Lit × DataW H) → Nat
  | [] => 0
  | x :: r => uptoBulkEntry x + uptoBulkEntries r
def uptoBulkEntry {H : Type} : Lit × DataW H → Nat
  | (.string bytes, d) => bytes.length + uptoBulk d + 1
  | (_, d) => uptoBulk d + 1
 end
def uptoSmall : (H : Type) → List (DataW H) → Bool := fun _ ds => decide (uptoBulkAll ds ≤ 1048576)
def OpenSpec.upto (s : _root_.Go.ChangeSpec) : _root_.Go.OpenSpec := { _root_.Go.OpenSpec.ofChange s with cond := some uptoSmall }

/-- 'capstanlaw03.ValueReads', WHERE WHAT IT READS IS OF BULK AT MOST 1048576: true; the input reads as it did. -/
def valueReadsUptoRow : OpenClaim := { program := "ytdcclddfdjijaaadoor", sum := "81f2ad5e0041dcd3184c793b52dd5e588a8d9ec9930d6ddbb926dcb45e025727", func := "capstan/capstanlaw03.ValueReads", spec := "valueReads", unfollowed := true, recurses := true, named := ["capstan/value.sizes"], apart := false, laid := [("capstan/value.sizes", laid_capstan_value_sizes)], narrowed := true }
def ValueReadsUptoSaid : Prop := valueReadsUptoRow.holds Tryd.pinned (OpenSpec.upto valueReadsSpec)

/-- 'capstanlaw03.ValueOne', WHERE WHAT IT READS IS OF BULK AT MOST 1048576: true; the input reads as it did. -/
def valueOneUptoRow : OpenClaim := { program := "ytdcclddfdjijaaadoor", sum := "81f2ad5e0041dcd3184c793b52dd5e588a8d9ec9930d6ddbb926dcb45e025727", func := "capstan/capstanlaw03.ValueOne", spec := "valueOne", unfollowed := true, recurses := true, named := ["capstan/value.sizes"], apart := false, laid := [("capstan/value.sizes", laid_capstan_value_sizes)], narrowed := true }
def ValueOneUptoSaid : Prop := valueOneUptoRow.holds Tryd.pinned (OpenSpec.upto valueOneSpec)

/-- 'capstanlaw03.ValueBack', WHERE WHAT IT READS IS OF BULK AT MOST 1048576: true; the input reads as it did. -/
def valueBackUptoRow : OpenClaim := { program := "ytdcclddfdjijaaadoor", sum := "81f2ad5e0041dcd3184c793b52dd5e588a8d9ec9930d6ddbb926dcb45e025727", func := "capstan/capstanlaw03.ValueBack", spec := "valueBack", unfollowed := true, recurses := true, named := ["capstan/value.sizes"], apart := false, laid := [("capstan/value.sizes", laid_capstan_value_sizes)], narrowed := true }
def ValueBackUptoSaid : Prop := valueBackUptoRow.holds Tryd.pinned (OpenSpec.upto valueBackSpec)

/-- 'capstanlaw03.ValueKinds', WHERE WHAT IT READS IS OF BULK AT MOST 1048576: true; the input reads as it did. -/
def valueKindsUptoRow : OpenClaim := { program := "ytdcclddfdjijaaadoor", sum := "81f2ad5e0041dcd3184c793b52dd5e588a8d9ec9930d6ddbb926dcb45e025727", func := "capstan/capstanlaw03.ValueKinds", spec := "valueKinds", unfollowed := true, recurses := true, named := ["capstan/value.sizes"], apart := false, laid := [("capstan/value.sizes", laid_capstan_value_sizes)], narrowed := true }
def ValueKindsUptoSaid : Prop := valueKindsUptoRow.holds Tryd.pinned (OpenSpec.upto valueKindsSpec)

end Rows
end Go.Proofs.YtdcclddfdjijaaaDoor
