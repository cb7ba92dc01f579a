/-
  No cell of these rows narrows 'for every input' (looked for: loops, veiled, ifaces, maps, wideKeys, modest, calm, conditions, laid).
  DERIVED. THE GIVEN ROWS OF THIS SEAT. 5 by the template 'for every input the law returns true; each argument reads behind the call as it read before'; 0 by the template 'total and deterministic' (their statements: YtdbdajifalioiaaTotals.lean).
  GIVEN WITH THE SEED: the statements are not yours to turn. If you find one false, say at which input.
  Laid BY PROGRAM, IN A SANDBOX (cutbox-rows.mjs): the forced cells as the released guide's own fill.sh prints them over the translation eadcea37297cb194… (all of the seat's roots in one cut). By AI agents, Wed Nov 11 2026. No macro, syntax, notation, axiom, sorry.
-/
import Derived.Test.YtdbdajifalioiaaChecked
import GoSem.Claim
import GoSem.ClaimJoined
import GoSem.ClaimMapViews
import Derived.JoinedTies
import Derived.KernelRfl
namespace Go.Proofs.Ytdbdajifalioiaa
/- THE CELL 'sum', in the pinned program and in every row, IS THE sha256 OF THE DUMP (.gsa) THAT YtdbdajifalioiaaProg.lean LOADS. Nothing in Lean hashes anything: it is a label: what it is worth is what the hold of that sum in a sandbox is worth. -/
noncomputable def Try.pinned : Pinned := { name := "ytdbdajifalioiaa", sum := "eadcea37297cb1942bf00daea137ac3f3521b8b16efc7d26114cc4a4e3b322a2", checked := Try.checked }
namespace Rows
def none {H : Type} : Left H := { results := [], args := [] }

/-- 'capstanlaw07.MethodReads': WHATEVER THE INPUT: true; the input reads as it did. -/
def methodReadsSpec : ChangeSpec := { name := "methodReads", fn := fun _ => fun
  | [d1, d2] => { results := [.lit (.bool true)], args := [d1, d2] }
  | _ => none }
def methodReadsRow : OpenClaim := { program := "ytdbdajifalioiaa", sum := "eadcea37297cb1942bf00daea137ac3f3521b8b16efc7d26114cc4a4e3b322a2", func := "capstan/capstanlaw07.MethodReads", spec := "methodReads", unfollowed := true, recurses := true, apart := false }
def MethodReadsSaid : Prop := methodReadsRow.holds Try.pinned (OpenSpec.ofChange methodReadsSpec)

/-- ITS FALSE NEIGHBOUR: 'it returns false'. Refute it at one input. -/
def methodReadsWrong : ChangeSpec := { name := "methodReads", fn := fun _ => fun
  | [d1, d2] => { results := [.lit (.bool false)], args := [d1, d2] }
  | _ => none }
def MethodReadsWrongFalsely : Prop := methodReadsRow.holds Try.pinned (OpenSpec.ofChange methodReadsWrong)

/-- 'capstanlaw07.MethodTells': WHATEVER THE INPUT: true; the input reads as it did. -/
def methodTellsSpec : ChangeSpec := { name := "methodTells", fn := fun _ => fun
  | [d1, d2, d3] => { results := [.lit (.bool true)], args := [d1, d2, d3] }
  | _ => none }
def methodTellsRow : OpenClaim := { program := "ytdbdajifalioiaa", sum := "eadcea37297cb1942bf00daea137ac3f3521b8b16efc7d26114cc4a4e3b322a2", func := "capstan/capstanlaw07.MethodTells", spec := "methodTells", apart := false }
def MethodTellsSaid : Prop := methodTellsRow.holds Try.pinned (OpenSpec.ofChange methodTellsSpec)

/-- ITS FALSE NEIGHBOUR: 'it returns false'. Refute it at one input. -/
def methodTellsWrong : ChangeSpec := { name := "methodTells", fn := fun _ => fun
  | [d1, d2, d3] => { results := [.lit (.bool false)], args := [d1, d2, d3] }
  | _ => none }
def MethodTellsWrongFalsely : Prop := methodTellsRow.holds Try.pinned (OpenSpec.ofChange methodTellsWrong)

/-- 'capstanlaw07.MethodBack': WHATEVER THE INPUT: true; the input reads as it did. -/
def methodBackSpec : ChangeSpec := { name := "methodBack", fn := fun _ => fun
  | [d1, d2, d3, d4] => { results := [.lit (.bool true)], args := [d1, d2, d3, d4] }
  | _ => none }
def methodBackRow : OpenClaim := { program := "ytdbdajifalioiaa", sum := "eadcea37297cb1942bf00daea137ac3f3521b8b16efc7d26114cc4a4e3b322a2", func := "capstan/capstanlaw07.MethodBack", spec := "methodBack", unfollowed := true, recurses := true, apart := false }
def MethodBackSaid : Prop := methodBackRow.holds Try.pinned (OpenSpec.ofChange methodBackSpec)

/-- ITS FALSE NEIGHBOUR: 'it returns false'. Refute it at one input. -/
def methodBackWrong : ChangeSpec := { name := "methodBack", fn := fun _ => fun
  | [d1, d2, d3, d4] => { results := [.lit (.bool false)], args := [d1, d2, d3, d4] }
  | _ => none }
def MethodBackWrongFalsely : Prop := methodBackRow.holds Try.pinned (OpenSpec.ofChange methodBackWrong)

/-- 'capstanlaw07.MethodSame': WHATEVER THE INPUT: true; the input reads as it did. -/
def methodSameSpec : ChangeSpec := { name := "methodSame", fn := fun _ => fun
  | [d1, d2, d3] => { results := [.lit (.bool true)], args := [d1, d2, d3] }
  | _ => none }
def methodSameRow : OpenClaim := { program := "ytdbdajifalioiaa", sum := "eadcea37297cb1942bf00daea137ac3f3521b8b16efc7d26114cc4a4e3b322a2", func := "capstan/capstanlaw07.MethodSame", spec := "methodSame", unfollowed := true, recurses := true, apart := false }
def MethodSameSaid : Prop := methodSameRow.holds Try.pinned (OpenSpec.ofChange methodSameSpec)

/-- ITS FALSE NEIGHBOUR: 'it returns false'. Refute it at one input. -/
def methodSameWrong : ChangeSpec := { name := "methodSame", fn := fun _ => fun
  | [d1, d2, d3] => { results := [.lit (.bool false)], args := [d1, d2, d3] }
  | _ => none }
def MethodSameWrongFalsely : Prop := methodSameRow.holds Try.pinned (OpenSpec.ofChange methodSameWrong)

/-- 'capstanlaw07.MethodZeros': WHATEVER THE INPUT: true; the input reads as it did. -/
def methodZerosSpec : ChangeSpec := { name := "methodZeros", fn := fun _ => fun
  | [d1, d2] => { results := [.lit (.bool true)], args := [d1, d2] }
  | _ => none }
def methodZerosRow : OpenClaim := { program := "ytdbdajifalioiaa", sum := "eadcea37297cb1942bf00daea137ac3f3521b8b16efc7d26114cc4a4e3b322a2", func := "capstan/capstanlaw07.MethodZeros", spec := "methodZeros", unfollowed := true, recurses := true, apart := false }
def MethodZerosSaid : Prop := methodZerosRow.holds Try.pinned (OpenSpec.ofChange methodZerosSpec)

/-- ITS FALSE NEIGHBOUR: 'it returns false'. Refute it at one input. -/
def methodZerosWrong : ChangeSpec := { name := "methodZeros", fn := fun _ => fun
  | [d1, d2] => { results := [.lit (.bool false)], args := [d1, d2] }
  | _ => none }
def MethodZerosWrongFalsely : Prop := methodZerosRow.holds Try.pinned (OpenSpec.ofChange methodZerosWrong)

/- THE SECOND FORM. 'bulk': how many values and letters a reading holds, each counted each time it is reached (what is shared counts as often as it is met; a slice's spare places count too). A statement '..UptoSaid' is the law's where the arguments, and the package variables that the reading takes, are together of bulk at most 1048576: NARROWER than '..Said'. Prove '..Said' where nothing that the law and all that it calls make is longer than what came in: it says more and counts as full. Else prove '..UptoSaid'. A law counts once. -/
mutual
def uptoBulk {H : Type} : DataW H → Nat
  | .lit (.string bytes) => bytes.length + 1
  | .lit _ => 1
  | .nil => 1
  | .ptr d => uptoBulk d + 1
  | .slice elems spare => uptoBulkAll elems + uptoBulkAll spare + 1
  | .agg parts => uptoBulkAll parts + 1
  | .iface _ d => uptoBulk d + 1
  | .map entries => uptoBulkEntries entries + 1
  | .held _ => 1
def uptoBulkAll {H : Type} : List (DataW H) → Nat
  | [] => 0
  | d :: r => uptoBulk d + uptoBulkAll r
def uptoBulkEntries {H : Type} : List (Lit × DataW H) → Nat
  | [] => 0
  | x :: r => uptoBulkEntry x + uptoBulkEntries r
def uptoBulkEntry {H : Type} : Lit × DataW H → Nat
  | (.string bytes, d) => bytes.length + uptoBulk d + 1
  | (_, d) => uptoBulk d + 1
 end
def uptoSmall : (H : Type) → List (DataW H) → Bool := fun _ ds => decide (uptoBulkAll ds ≤ 1048576)
def OpenSpec.upto (s : _root_.Go.ChangeSpec) : _root_.Go.OpenSpec := { _root_.Go.OpenSpec.ofChange s with cond := some uptoSmall }

/-- 'capstanlaw07.MethodReads', WHERE WHAT IT READS IS OF BULK AT MOST 1048576: true; the input reads as it did. -/
def methodReadsUptoRow : OpenClaim := { program := "ytdbdajifalioiaa", sum := "eadcea37297cb1942bf00daea137ac3f3521b8b16efc7d26114cc4a4e3b322a2", func := "capstan/capstanlaw07.MethodReads", spec := "methodReads", unfollowed := true, recurses := true, apart := false, narrowed := true }
def MethodReadsUptoSaid : Prop := methodReadsUptoRow.holds Try.pinned (OpenSpec.upto methodReadsSpec)

/-- 'capstanlaw07.MethodTells', WHERE WHAT IT READS IS OF BULK AT MOST 1048576: true; the input reads as it did. -/
def methodTellsUptoRow : OpenClaim := { program := "ytdbdajifalioiaa", sum := "eadcea37297cb1942bf00daea137ac3f3521b8b16efc7d26114cc4a4e3b322a2", func := "capstan/capstanlaw07.MethodTells", spec := "methodTells", apart := false, narrowed := true }
def MethodTellsUptoSaid : Prop := methodTellsUptoRow.holds Try.pinned (OpenSpec.upto methodTellsSpec)

/-- 'capstanlaw07.MethodBack', WHERE WHAT IT READS IS OF BULK AT MOST 1048576: true; the input reads as it did. -/
def methodBackUptoRow : OpenClaim := { program := "ytdbdajifalioiaa", sum := "eadcea37297cb1942bf00daea137ac3f3521b8b16efc7d26114cc4a4e3b322a2", func := "capstan/capstanlaw07.MethodBack", spec := "methodBack", unfollowed := true, recurses := true, apart := false, narrowed := true }
def MethodBackUptoSaid : Prop := methodBackUptoRow.holds Try.pinned (OpenSpec.upto methodBackSpec)

/-- 'capstanlaw07.MethodSame', WHERE WHAT IT READS IS OF BULK AT MOST 1048576: true; the input reads as it did. -/
def methodSameUptoRow : OpenClaim := { program := "ytdbdajifalioiaa", sum := "eadcea37297cb1942bf00daea137ac3f3521b8b16efc7d26114cc4a4e3b322a2", func := "capstan/capstanlaw07.MethodSame", spec := "methodSame", unfollowed := true, recurses := true, apart := false, narrowed := true }
def MethodSameUptoSaid : Prop := methodSameUptoRow.holds Try.pinned (OpenSpec.upto methodSameSpec)

/-- 'capstanlaw07.MethodZeros', WHERE WHAT IT READS IS OF BULK AT MOST 1048576: true; the input reads as it did. -/
def methodZerosUptoRow : OpenClaim := { program := "ytdbdajifalioiaa", sum := "eadcea37297cb1942bf00daea137ac3f3521b8b16efc7d26114cc4a4e3b322a2", func := "capstan/capstanlaw07.MethodZeros", spec := "methodZeros", unfollowed := true, recurses := true, apart := false, narrowed := true }
def MethodZerosUptoSaid : Prop := methodZerosUptoRow.holds Try.pinned (OpenSpec.upto methodZerosSpec)

end Rows
end Go.Proofs.Ytdbdajifalioiaa
