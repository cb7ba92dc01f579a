/-
  NARROWER THAN 'FOR EVERY INPUT', by the rows' own cells (each row's printed sentence says how): PoolReads: laid · PoolBack: laid · PoolOnce: laid.
  DERIVED. THE GIVEN ROWS OF THIS SEAT. 3 by the template 'for every input the law returns true; each argument reads behind the call as it read before'; 0 by the template 'total and deterministic' (their statements: YtjnmomhkiknhdaaDoorTotals.lean).
  GIVEN WITH THE SEED: the statements are not yours to turn. If you find one false, say at which input.
  Laid BY PROGRAM, IN A SANDBOX (cutbox-rows.mjs): the forced cells as the released guide's own fill.sh prints them over the translation 32be63b57751c40f… (all of the seat's roots in one cut). By AI agents, Wed Nov 11 2026. No macro, syntax, notation, axiom, sorry.
-/
import Derived.Test.YtjnmomhkiknhdaaDoorChecked
import GoSem.Claim
import GoSem.ClaimJoined
import GoSem.ClaimMapViews
import Derived.JoinedTies
import Derived.KernelRfl
namespace Go.Proofs.YtjnmomhkiknhdaaDoor
/- THE CELL 'sum', in the pinned program and in every row, IS THE sha256 OF THE DUMP (.gsa) THAT YtjnmomhkiknhdaaDoorProg.lean LOADS. Nothing in Lean hashes anything: it is a label: what it is worth is what the hold of that sum in a sandbox is worth. -/
noncomputable def Tryd.pinned : Pinned := { name := "ytjnmomhkiknhdaadoor", sum := "32be63b57751c40f844d43b6b0b1604283b1d2934a867c1b80138f2c59be6d9d", checked := Tryd.checked }
namespace Rows
def none {H : Type} : Left H := { results := [], args := [] }

/- WHAT THE LISTED PACKAGE-LEVEL VARIABLES READ AS WHEN THE CALL BEGINS. Each datum BY PROGRAM (the guide's laid-datum.mjs) off the statement by which the dump's own 'gosem.cut.vars' lays the variable. In a bare row this is a premise. The card (YtjnmomhkiknhdaaDoorCards.lean) ties it to the program's text. -/
def laid_capstan_value_sizes {H : Type} : DataW H := .agg [.lit (.int .i64 0), .lit (.int .i64 8), .lit (.int .i64 6)]

/-- 'capstanlaw06.PoolReads': WHATEVER THE INPUT: true; the input reads as it did. -/
def poolReadsSpec : ChangeSpec := { name := "poolReads", fn := fun _ => fun
  | [d1, d2] => { results := [.lit (.bool true)], args := [d1, d2] }
  | _ => none }
def poolReadsRow : OpenClaim := { program := "ytjnmomhkiknhdaadoor", sum := "32be63b57751c40f844d43b6b0b1604283b1d2934a867c1b80138f2c59be6d9d", func := "capstan/capstanlaw06.PoolReads", spec := "poolReads", unfollowed := true, recurses := true, named := ["capstan/value.sizes"], apart := false, laid := [("capstan/value.sizes", laid_capstan_value_sizes)] }
def PoolReadsSaid : Prop := poolReadsRow.holds Tryd.pinned (OpenSpec.ofChange poolReadsSpec)

/-- ITS FALSE NEIGHBOUR: 'it returns false'. Refute it at one input. -/
def poolReadsWrong : ChangeSpec := { name := "poolReads", fn := fun _ => fun
  | [d1, d2] => { results := [.lit (.bool false)], args := [d1, d2] }
  | _ => none }
def PoolReadsWrongFalsely : Prop := poolReadsRow.holds Tryd.pinned (OpenSpec.ofChange poolReadsWrong)

/-- 'capstanlaw06.PoolBack': WHATEVER THE INPUT: true; the input reads as it did. -/
def poolBackSpec : ChangeSpec := { name := "poolBack", fn := fun _ => fun
  | [d1, d2, d3, d4] => { results := [.lit (.bool true)], args := [d1, d2, d3, d4] }
  | _ => none }
def poolBackRow : OpenClaim := { program := "ytjnmomhkiknhdaadoor", sum := "32be63b57751c40f844d43b6b0b1604283b1d2934a867c1b80138f2c59be6d9d", func := "capstan/capstanlaw06.PoolBack", spec := "poolBack", unfollowed := true, recurses := true, named := ["capstan/value.sizes"], apart := false, laid := [("capstan/value.sizes", laid_capstan_value_sizes)] }
def PoolBackSaid : Prop := poolBackRow.holds Tryd.pinned (OpenSpec.ofChange poolBackSpec)

/-- ITS FALSE NEIGHBOUR: 'it returns false'. Refute it at one input. -/
def poolBackWrong : ChangeSpec := { name := "poolBack", fn := fun _ => fun
  | [d1, d2, d3, d4] => { results := [.lit (.bool false)], args := [d1, d2, d3, d4] }
  | _ => none }
def PoolBackWrongFalsely : Prop := poolBackRow.holds Tryd.pinned (OpenSpec.ofChange poolBackWrong)

/-- 'capstanlaw06.PoolOnce': WHATEVER THE INPUT: true; the input reads as it did. -/
def poolOnceSpec : ChangeSpec := { name := "poolOnce", fn := fun _ => fun
  | [d] => { results := [.lit (.bool true)], args := [d] }
  | _ => none }
def poolOnceRow : OpenClaim := { program := "ytjnmomhkiknhdaadoor", sum := "32be63b57751c40f844d43b6b0b1604283b1d2934a867c1b80138f2c59be6d9d", func := "capstan/capstanlaw06.PoolOnce", spec := "poolOnce", unfollowed := true, recurses := true, named := ["capstan/value.sizes"], apart := false, laid := [("capstan/value.sizes", laid_capstan_value_sizes)] }
def PoolOnceSaid : Prop := poolOnceRow.holds Tryd.pinned (OpenSpec.ofChange poolOnceSpec)

/-- ITS FALSE NEIGHBOUR: 'it returns false'. Refute it at one input. -/
def poolOnceWrong : ChangeSpec := { name := "poolOnce", fn := fun _ => fun
  | [d] => { results := [.lit (.bool false)], args := [d] }
  | _ => none }
def PoolOnceWrongFalsely : Prop := poolOnceRow.holds Tryd.pinned (OpenSpec.ofChange poolOnceWrong)

/- THE SECOND FORM. 'bulk': how many values and letters a reading holds, each counted each time it is reached (what is shared counts as often as it is met; a slice's spare places count too). A statement '..UptoSaid' is the law's where the arguments, and the package variables that the reading takes, are together of bulk at most 1048576: NARROWER than '..Said'. Prove '..Said' where nothing that the law and all that it calls make is longer than what came in: it says more and counts as full. Else prove '..UptoSaid'. A law counts once. -/
mutual
def uptoBulk {H : Type} : DataW H → Nat
  | .lit (.string bytes) => bytes.length + 1
  | .lit _ => 1
  | .nil => 1
  | .ptr d => uptoBulk d + 1
  | .slice elems spare => uptoBulkAll elems + uptoBulkAll spare + 1
  | .agg parts => uptoBulkAll parts + 1
  | .iface _ d => uptoBulk d + 1
  | .map entries => uptoBulkEntries entries + 1
  | .held _ => 1
def uptoBulkAll {H : Type} : List (DataW H) → Nat
  | [] => 0
  | d :: r => uptoBulk d + uptoBulkAll r
def uptoBulkEntries {H : Type} : List (Lit × DataW H) → Nat
  | [] => 0
  | x :: r => uptoBulkEntry x + uptoBulkEntries r
def uptoBulkEntry {H : Type} : Lit × DataW H → Nat
  | (.string bytes, d) => bytes.length + uptoBulk d + 1
  | (_, d) => uptoBulk d + 1
 end
def uptoSmall : (H : Type) → List (DataW H) → Bool := fun _ ds => decide (uptoBulkAll ds ≤ 1048576)
def OpenSpec.upto (s : _root_.Go.ChangeSpec) : _root_.Go.OpenSpec := { _root_.Go.OpenSpec.ofChange s with cond := some uptoSmall }

/-- 'capstanlaw06.PoolReads', WHERE WHAT IT READS IS OF BULK AT MOST 1048576: true; the input reads as it did. -/
def poolReadsUptoRow : OpenClaim := { program := "ytjnmomhkiknhdaadoor", sum := "32be63b57751c40f844d43b6b0b1604283b1d2934a867c1b80138f2c59be6d9d", func := "capstan/capstanlaw06.PoolReads", spec := "poolReads", unfollowed := true, recurses := true, named := ["capstan/value.sizes"], apart := false, laid := [("capstan/value.sizes", laid_capstan_value_sizes)], narrowed := true }
def PoolReadsUptoSaid : Prop := poolReadsUptoRow.holds Tryd.pinned (OpenSpec.upto poolReadsSpec)

/-- 'capstanlaw06.PoolBack', WHERE WHAT IT READS IS OF BULK AT MOST 1048576: true; the input reads as it did. -/
def poolBackUptoRow : OpenClaim := { program := "ytjnmomhkiknhdaadoor", sum := "32be63b57751c40f844d43b6b0b1604283b1d2934a867c1b80138f2c59be6d9d", func := "capstan/capstanlaw06.PoolBack", spec := "poolBack", unfollowed := true, recurses := true, named := ["capstan/value.sizes"], apart := false, laid := [("capstan/value.sizes", laid_capstan_value_sizes)], narrowed := true }
def PoolBackUptoSaid : Prop := poolBackUptoRow.holds Tryd.pinned (OpenSpec.upto poolBackSpec)

/-- 'capstanlaw06.PoolOnce', WHERE WHAT IT READS IS OF BULK AT MOST 1048576: true; the input reads as it did. -/
def poolOnceUptoRow : OpenClaim := { program := "ytjnmomhkiknhdaadoor", sum := "32be63b57751c40f844d43b6b0b1604283b1d2934a867c1b80138f2c59be6d9d", func := "capstan/capstanlaw06.PoolOnce", spec := "poolOnce", unfollowed := true, recurses := true, named := ["capstan/value.sizes"], apart := false, laid := [("capstan/value.sizes", laid_capstan_value_sizes)], narrowed := true }
def PoolOnceUptoSaid : Prop := poolOnceUptoRow.holds Tryd.pinned (OpenSpec.upto poolOnceSpec)

end Rows
end Go.Proofs.YtjnmomhkiknhdaaDoor
