/-
  No cell of these rows narrows 'for every input' (looked for: loops, veiled, ifaces, maps, wideKeys, modest, calm, conditions, laid).
  DERIVED. THE GIVEN ROWS OF THIS SEAT. 7 by the template 'for every input the law returns true; each argument reads behind the call as it read before'; 0 by the template 'total and deterministic' (their statements: YtdcclddfdjijaaaTotals.lean).
  GIVEN WITH THE SEED: the statements are not yours to turn. If you find one false, say at which input.
  Laid BY PROGRAM, IN A SANDBOX (cutbox-rows.mjs): the forced cells as the released guide's own fill.sh prints them over the translation c493e20a0e563919… (all of the seat's roots in one cut). By AI agents, Wed Nov 11 2026. No macro, syntax, notation, axiom, sorry.
-/
import Derived.Test.YtdcclddfdjijaaaChecked
import GoSem.Claim
import GoSem.ClaimJoined
import GoSem.ClaimMapViews
import Derived.JoinedTies
import Derived.KernelRfl
namespace Go.Proofs.Ytdcclddfdjijaaa
/- THE CELL 'sum', in the pinned program and in every row, IS THE sha256 OF THE DUMP (.gsa) THAT YtdcclddfdjijaaaProg.lean LOADS. Nothing in Lean hashes anything: it is a label: what it is worth is what the hold of that sum in a sandbox is worth. -/
noncomputable def Try.pinned : Pinned := { name := "ytdcclddfdjijaaa", sum := "c493e20a0e563919911212fff437b2f479ebb1857ede55ccb51724a19583f5ad", checked := Try.checked }
namespace Rows
def none {H : Type} : Left H := { results := [], args := [] }

/-- 'capstanlaw01.OctetPuts': WHATEVER THE INPUT: true; the input reads as it did. -/
def octetPutsSpec : ChangeSpec := { name := "octetPuts", fn := fun _ => fun
  | [d1, d2, d3, d4] => { results := [.lit (.bool true)], args := [d1, d2, d3, d4] }
  | _ => none }
def octetPutsRow : OpenClaim := { program := "ytdcclddfdjijaaa", sum := "c493e20a0e563919911212fff437b2f479ebb1857ede55ccb51724a19583f5ad", func := "capstan/capstanlaw01.OctetPuts", spec := "octetPuts", apart := false }
def OctetPutsSaid : Prop := octetPutsRow.holds Try.pinned (OpenSpec.ofChange octetPutsSpec)

/-- ITS FALSE NEIGHBOUR: 'it returns false'. Refute it at one input. -/
def octetPutsWrong : ChangeSpec := { name := "octetPuts", fn := fun _ => fun
  | [d1, d2, d3, d4] => { results := [.lit (.bool false)], args := [d1, d2, d3, d4] }
  | _ => none }
def OctetPutsWrongFalsely : Prop := octetPutsRow.holds Try.pinned (OpenSpec.ofChange octetPutsWrong)

/-- 'capstanlaw01.OctetGets': WHATEVER THE INPUT: true; the input reads as it did. -/
def octetGetsSpec : ChangeSpec := { name := "octetGets", fn := fun _ => fun
  | [d1, d2, d3] => { results := [.lit (.bool true)], args := [d1, d2, d3] }
  | _ => none }
def octetGetsRow : OpenClaim := { program := "ytdcclddfdjijaaa", sum := "c493e20a0e563919911212fff437b2f479ebb1857ede55ccb51724a19583f5ad", func := "capstan/capstanlaw01.OctetGets", spec := "octetGets", unfollowed := true, recurses := true, apart := false }
def OctetGetsSaid : Prop := octetGetsRow.holds Try.pinned (OpenSpec.ofChange octetGetsSpec)

/-- ITS FALSE NEIGHBOUR: 'it returns false'. Refute it at one input. -/
def octetGetsWrong : ChangeSpec := { name := "octetGets", fn := fun _ => fun
  | [d1, d2, d3] => { results := [.lit (.bool false)], args := [d1, d2, d3] }
  | _ => none }
def OctetGetsWrongFalsely : Prop := octetGetsRow.holds Try.pinned (OpenSpec.ofChange octetGetsWrong)

/-- 'capstanlaw01.OctetRise': WHATEVER THE INPUT: true; the input reads as it did. -/
def octetRiseSpec : ChangeSpec := { name := "octetRise", fn := fun _ => fun
  | [d1, d2, d3] => { results := [.lit (.bool true)], args := [d1, d2, d3] }
  | _ => none }
def octetRiseRow : OpenClaim := { program := "ytdcclddfdjijaaa", sum := "c493e20a0e563919911212fff437b2f479ebb1857ede55ccb51724a19583f5ad", func := "capstan/capstanlaw01.OctetRise", spec := "octetRise", unfollowed := true, recurses := true, apart := false }
def OctetRiseSaid : Prop := octetRiseRow.holds Try.pinned (OpenSpec.ofChange octetRiseSpec)

/-- ITS FALSE NEIGHBOUR: 'it returns false'. Refute it at one input. -/
def octetRiseWrong : ChangeSpec := { name := "octetRise", fn := fun _ => fun
  | [d1, d2, d3] => { results := [.lit (.bool false)], args := [d1, d2, d3] }
  | _ => none }
def OctetRiseWrongFalsely : Prop := octetRiseRow.holds Try.pinned (OpenSpec.ofChange octetRiseWrong)

/-- 'capstanlaw01.OctetBack': WHATEVER THE INPUT: true; the input reads as it did. -/
def octetBackSpec : ChangeSpec := { name := "octetBack", fn := fun _ => fun
  | [d1, d2, d3, d4, d5, d6] => { results := [.lit (.bool true)], args := [d1, d2, d3, d4, d5, d6] }
  | _ => none }
def octetBackRow : OpenClaim := { program := "ytdcclddfdjijaaa", sum := "c493e20a0e563919911212fff437b2f479ebb1857ede55ccb51724a19583f5ad", func := "capstan/capstanlaw01.OctetBack", spec := "octetBack", unfollowed := true, recurses := true, apart := false }
def OctetBackSaid : Prop := octetBackRow.holds Try.pinned (OpenSpec.ofChange octetBackSpec)

/-- ITS FALSE NEIGHBOUR: 'it returns false'. Refute it at one input. -/
def octetBackWrong : ChangeSpec := { name := "octetBack", fn := fun _ => fun
  | [d1, d2, d3, d4, d5, d6] => { results := [.lit (.bool false)], args := [d1, d2, d3, d4, d5, d6] }
  | _ => none }
def OctetBackWrongFalsely : Prop := octetBackRow.holds Try.pinned (OpenSpec.ofChange octetBackWrong)

/-- 'capstanlaw01.OctetAgain': WHATEVER THE INPUT: true; the input reads as it did. -/
def octetAgainSpec : ChangeSpec := { name := "octetAgain", fn := fun _ => fun
  | [d1, d2, d3] => { results := [.lit (.bool true)], args := [d1, d2, d3] }
  | _ => none }
def octetAgainRow : OpenClaim := { program := "ytdcclddfdjijaaa", sum := "c493e20a0e563919911212fff437b2f479ebb1857ede55ccb51724a19583f5ad", func := "capstan/capstanlaw01.OctetAgain", spec := "octetAgain", unfollowed := true, recurses := true, apart := false }
def OctetAgainSaid : Prop := octetAgainRow.holds Try.pinned (OpenSpec.ofChange octetAgainSpec)

/-- ITS FALSE NEIGHBOUR: 'it returns false'. Refute it at one input. -/
def octetAgainWrong : ChangeSpec := { name := "octetAgain", fn := fun _ => fun
  | [d1, d2, d3] => { results := [.lit (.bool false)], args := [d1, d2, d3] }
  | _ => none }
def OctetAgainWrongFalsely : Prop := octetAgainRow.holds Try.pinned (OpenSpec.ofChange octetAgainWrong)

/-- 'capstanlaw01.OctetFew': WHATEVER THE INPUT: true; the input reads as it did. -/
def octetFewSpec : ChangeSpec := { name := "octetFew", fn := fun _ => fun
  | [d1, d2, d3, d4] => { results := [.lit (.bool true)], args := [d1, d2, d3, d4] }
  | _ => none }
def octetFewRow : OpenClaim := { program := "ytdcclddfdjijaaa", sum := "c493e20a0e563919911212fff437b2f479ebb1857ede55ccb51724a19583f5ad", func := "capstan/capstanlaw01.OctetFew", spec := "octetFew", unfollowed := true, recurses := true, apart := false }
def OctetFewSaid : Prop := octetFewRow.holds Try.pinned (OpenSpec.ofChange octetFewSpec)

/-- ITS FALSE NEIGHBOUR: 'it returns false'. Refute it at one input. -/
def octetFewWrong : ChangeSpec := { name := "octetFew", fn := fun _ => fun
  | [d1, d2, d3, d4] => { results := [.lit (.bool false)], args := [d1, d2, d3, d4] }
  | _ => none }
def OctetFewWrongFalsely : Prop := octetFewRow.holds Try.pinned (OpenSpec.ofChange octetFewWrong)

/-- 'capstanlaw03.ValueTells': WHATEVER THE INPUT: true; the input reads as it did. -/
def valueTellsSpec : ChangeSpec := { name := "valueTells", fn := fun _ => fun
  | [d1, d2] => { results := [.lit (.bool true)], args := [d1, d2] }
  | _ => none }
def valueTellsRow : OpenClaim := { program := "ytdcclddfdjijaaa", sum := "c493e20a0e563919911212fff437b2f479ebb1857ede55ccb51724a19583f5ad", func := "capstan/capstanlaw03.ValueTells", spec := "valueTells", apart := false }
def ValueTellsSaid : Prop := valueTellsRow.holds Try.pinned (OpenSpec.ofChange valueTellsSpec)

/-- ITS FALSE NEIGHBOUR: 'it returns false'. Refute it at one input. -/
def valueTellsWrong : ChangeSpec := { name := "valueTells", fn := fun _ => fun
  | [d1, d2] => { results := [.lit (.bool false)], args := [d1, d2] }
  | _ => none }
def ValueTellsWrongFalsely : Prop := valueTellsRow.holds Try.pinned (OpenSpec.ofChange valueTellsWrong)

/- THE SECOND FORM. 'bulk': how many values and letters a reading holds, each counted each time it is reached (what is shared counts as often as it is met; a slice's spare places count too). A statement '..UptoSaid' is the law's where the arguments, and the package variables that the reading takes, are together of bulk at most 1048576: NARROWER than '..Said'. Prove '..Said' where nothing that the law and all that it calls make is longer than what came in: it says more and counts as full. Else prove '..UptoSaid'. A law counts once. -/
mutual
def uptoBulk {H : Type} : DataW H → Nat
  | .lit (.string bytes) => bytes.length + 1
  | .lit _ => 1
  | .nil => 1
  | .ptr d => uptoBulk d + 1
  | .slice elems spare => uptoBulkAll elems + uptoBulkAll spare + 1
  | .agg parts => uptoBulkAll parts + 1
  | .iface _ d => uptoBulk d + 1
  | .map entries => uptoBulkEntries entries + 1
  | .held _ => 1
def uptoBulkAll {H : Type} : List (DataW H) → Nat
  | [] => 0
  | d :: r => uptoBulk d + uptoBulkAll r
def uptoBulkEntries {H : Type} : List (Lit × DataW H) → Nat
  | [] => 0
  | x :: r => uptoBulkEntry x + uptoBulkEntries r
def uptoBulkEntry {H : Type} : Lit × DataW H → Nat
  | (.string bytes, d) => bytes.length + uptoBulk d + 1
  | (_, d) => uptoBulk d + 1
 end
def uptoSmall : (H : Type) → List (DataW H) → Bool := fun _ ds => decide (uptoBulkAll ds ≤ 1048576)
def OpenSpec.upto (s : _root_.Go.ChangeSpec) : _root_.Go.OpenSpec := { _root_.Go.OpenSpec.ofChange s with cond := some uptoSmall }

/-- 'capstanlaw01.OctetPuts', WHERE WHAT IT READS IS OF BULK AT MOST 1048576: true; the input reads as it did. -/
def octetPutsUptoRow : OpenClaim := { program := "ytdcclddfdjijaaa", sum := "c493e20a0e563919911212fff437b2f479ebb1857ede55ccb51724a19583f5ad", func := "capstan/capstanlaw01.OctetPuts", spec := "octetPuts", apart := false, narrowed := true }
def OctetPutsUptoSaid : Prop := octetPutsUptoRow.holds Try.pinned (OpenSpec.upto octetPutsSpec)

/-- 'capstanlaw01.OctetGets', WHERE WHAT IT READS IS OF BULK AT MOST 1048576: true; the input reads as it did. -/
def octetGetsUptoRow : OpenClaim := { program := "ytdcclddfdjijaaa", sum := "c493e20a0e563919911212fff437b2f479ebb1857ede55ccb51724a19583f5ad", func := "capstan/capstanlaw01.OctetGets", spec := "octetGets", unfollowed := true, recurses := true, apart := false, narrowed := true }
def OctetGetsUptoSaid : Prop := octetGetsUptoRow.holds Try.pinned (OpenSpec.upto octetGetsSpec)

/-- 'capstanlaw01.OctetRise', WHERE WHAT IT READS IS OF BULK AT MOST 1048576: true; the input reads as it did. -/
def octetRiseUptoRow : OpenClaim := { program := "ytdcclddfdjijaaa", sum := "c493e20a0e563919911212fff437b2f479ebb1857ede55ccb51724a19583f5ad", func := "capstan/capstanlaw01.OctetRise", spec := "octetRise", unfollowed := true, recurses := true, apart := false, narrowed := true }
def OctetRiseUptoSaid : Prop := octetRiseUptoRow.holds Try.pinned (OpenSpec.upto octetRiseSpec)

/-- 'capstanlaw01.OctetBack', WHERE WHAT IT READS IS OF BULK AT MOST 1048576: true; the input reads as it did. -/
def octetBackUptoRow : OpenClaim := { program := "ytdcclddfdjijaaa", sum := "c493e20a0e563919911212fff437b2f479ebb1857ede55ccb51724a19583f5ad", func := "capstan/capstanlaw01.OctetBack", spec := "octetBack", unfollowed := true, recurses := true, apart := false, narrowed := true }
def OctetBackUptoSaid : Prop := octetBackUptoRow.holds Try.pinned (OpenSpec.upto octetBackSpec)

/-- 'capstanlaw01.OctetAgain', WHERE WHAT IT READS IS OF BULK AT MOST 1048576: true; the input reads as it did. -/
def octetAgainUptoRow : OpenClaim := { program := "ytdcclddfdjijaaa", sum := "c493e20a0e563919911212fff437b2f479ebb1857ede55ccb51724a19583f5ad", func := "capstan/capstanlaw01.OctetAgain", spec := "octetAgain", unfollowed := true, recurses := true, apart := false, narrowed := true }
def OctetAgainUptoSaid : Prop := octetAgainUptoRow.holds Try.pinned (OpenSpec.upto octetAgainSpec)

/-- 'capstanlaw01.OctetFew', WHERE WHAT IT READS IS OF BULK AT MOST 1048576: true; the input reads as it did. -/
def octetFewUptoRow : OpenClaim := { program := "ytdcclddfdjijaaa", sum := "c493e20a0e563919911212fff437b2f479ebb1857ede55ccb51724a19583f5ad", func := "capstan/capstanlaw01.OctetFew", spec := "octetFew", unfollowed := true, recurses := true, apart := false, narrowed := true }
def OctetFewUptoSaid : Prop := octetFewUptoRow.holds Try.pinned (OpenSpec.upto octetFewSpec)

/-- 'capstanlaw03.ValueTells', WHERE WHAT IT READS IS OF BULK AT MOST 1048576: true; the input reads as it did. -/
def valueTellsUptoRow : OpenClaim := { program := "ytdcclddfdjijaaa", sum := "c493e20a0e563919911212fff437b2f479ebb1857ede55ccb51724a19583f5ad", func := "capstan/capstanlaw03.ValueTells", spec := "valueTells", apart := false, narrowed := true }
def ValueTellsUptoSaid : Prop := valueTellsUptoRow.holds Try.pinned (OpenSpec.upto valueTellsSpec)

end Rows
end Go.Proofs.Ytdcclddfdjijaaa
