/-
  No cell of these rows narrows 'for every input' (looked for: loops, veiled, ifaces, maps, wideKeys, modest, calm, conditions, laid).
  DERIVED. THE GIVEN ROWS OF THIS SEAT. 8 by the template 'for every input the law returns true; each argument reads behind the call as it read before'; 0 by the template 'total and deterministic' (their statements: YtkmnachdibhdhaaTotals.lean).
  GIVEN WITH THE SEED: the statements are not yours to turn. If you find one false, say at which input.
  Laid BY PROGRAM, IN A SANDBOX (cutbox-rows.mjs): the forced cells as the released guide's own fill.sh prints them over the translation 030d4886e50e0b4b… (all of the seat's roots in one cut). By AI agents, Wed Nov 11 2026. No macro, syntax, notation, axiom, sorry.
-/
import Derived.Test.YtkmnachdibhdhaaChecked
import GoSem.Claim
import GoSem.ClaimJoined
import GoSem.ClaimMapViews
import Derived.JoinedTies
import Derived.KernelRfl
namespace Go.Proofs.Ytkmnachdibhdhaa
/- THE CELL 'sum', in the pinned program and in every row, IS THE sha256 OF THE DUMP (.gsa) THAT YtkmnachdibhdhaaProg.lean LOADS. Nothing in Lean hashes anything: it is a label: what it is worth is what the hold of that sum in a sandbox is worth. -/
noncomputable def Try.pinned : Pinned := { name := "ytkmnachdibhdhaa", sum := "030d4886e50e0b4be333521e2323a31ddef6c6e20e895a420bb9307875a75366", checked := Try.checked }
namespace Rows
def none {H : Type} : Left H := { results := [], args := [] }

/-- 'capstanlaw13.PureTells': WHATEVER THE INPUT: true; the input reads as it did. -/
def pureTellsSpec : ChangeSpec := { name := "pureTells", fn := fun _ => fun
  | [d1, d2] => { results := [.lit (.bool true)], args := [d1, d2] }
  | _ => none }
def pureTellsRow : OpenClaim := { program := "ytkmnachdibhdhaa", sum := "030d4886e50e0b4be333521e2323a31ddef6c6e20e895a420bb9307875a75366", func := "capstan/capstanlaw13.PureTells", spec := "pureTells", unfollowed := true, recurses := true, apart := false }
def PureTellsSaid : Prop := pureTellsRow.holds Try.pinned (OpenSpec.ofChange pureTellsSpec)

/-- ITS FALSE NEIGHBOUR: 'it returns false'. Refute it at one input. -/
def pureTellsWrong : ChangeSpec := { name := "pureTells", fn := fun _ => fun
  | [d1, d2] => { results := [.lit (.bool false)], args := [d1, d2] }
  | _ => none }
def PureTellsWrongFalsely : Prop := pureTellsRow.holds Try.pinned (OpenSpec.ofChange pureTellsWrong)

/-- 'capstanlaw13.PureMost': WHATEVER THE INPUT: true; the input reads as it did. -/
def pureMostSpec : ChangeSpec := { name := "pureMost", fn := fun _ => fun
  | [d1, d2] => { results := [.lit (.bool true)], args := [d1, d2] }
  | _ => none }
def pureMostRow : OpenClaim := { program := "ytkmnachdibhdhaa", sum := "030d4886e50e0b4be333521e2323a31ddef6c6e20e895a420bb9307875a75366", func := "capstan/capstanlaw13.PureMost", spec := "pureMost", unfollowed := true, recurses := true, apart := false }
def PureMostSaid : Prop := pureMostRow.holds Try.pinned (OpenSpec.ofChange pureMostSpec)

/-- ITS FALSE NEIGHBOUR: 'it returns false'. Refute it at one input. -/
def pureMostWrong : ChangeSpec := { name := "pureMost", fn := fun _ => fun
  | [d1, d2] => { results := [.lit (.bool false)], args := [d1, d2] }
  | _ => none }
def PureMostWrongFalsely : Prop := pureMostRow.holds Try.pinned (OpenSpec.ofChange pureMostWrong)

/-- 'capstanlaw11.CallsTells': WHATEVER THE INPUT: true; the input reads as it did. -/
def callsTellsSpec : ChangeSpec := { name := "callsTells", fn := fun _ => fun
  | [d1, d2] => { results := [.lit (.bool true)], args := [d1, d2] }
  | _ => none }
def callsTellsRow : OpenClaim := { program := "ytkmnachdibhdhaa", sum := "030d4886e50e0b4be333521e2323a31ddef6c6e20e895a420bb9307875a75366", func := "capstan/capstanlaw11.CallsTells", spec := "callsTells", unfollowed := true, recurses := true, apart := false }
def CallsTellsSaid : Prop := callsTellsRow.holds Try.pinned (OpenSpec.ofChange callsTellsSpec)

/-- ITS FALSE NEIGHBOUR: 'it returns false'. Refute it at one input. -/
def callsTellsWrong : ChangeSpec := { name := "callsTells", fn := fun _ => fun
  | [d1, d2] => { results := [.lit (.bool false)], args := [d1, d2] }
  | _ => none }
def CallsTellsWrongFalsely : Prop := callsTellsRow.holds Try.pinned (OpenSpec.ofChange callsTellsWrong)

/-- 'capstanlaw11.CallsOrder': WHATEVER THE INPUT: true; the input reads as it did. -/
def callsOrderSpec : ChangeSpec := { name := "callsOrder", fn := fun _ => fun
  | [d] => { results := [.lit (.bool true)], args := [d] }
  | _ => none }
def callsOrderRow : OpenClaim := { program := "ytkmnachdibhdhaa", sum := "030d4886e50e0b4be333521e2323a31ddef6c6e20e895a420bb9307875a75366", func := "capstan/capstanlaw11.CallsOrder", spec := "callsOrder", unfollowed := true, recurses := true, apart := false }
def CallsOrderSaid : Prop := callsOrderRow.holds Try.pinned (OpenSpec.ofChange callsOrderSpec)

/-- ITS FALSE NEIGHBOUR: 'it returns false'. Refute it at one input. -/
def callsOrderWrong : ChangeSpec := { name := "callsOrder", fn := fun _ => fun
  | [d] => { results := [.lit (.bool false)], args := [d] }
  | _ => none }
def CallsOrderWrongFalsely : Prop := callsOrderRow.holds Try.pinned (OpenSpec.ofChange callsOrderWrong)

/-- 'capstanlaw11.CallsRound': WHATEVER THE INPUT: true; the input reads as it did. -/
def callsRoundSpec : ChangeSpec := { name := "callsRound", fn := fun _ => fun
  | [d1, d2, d3, d4, d5] => { results := [.lit (.bool true)], args := [d1, d2, d3, d4, d5] }
  | _ => none }
def callsRoundRow : OpenClaim := { program := "ytkmnachdibhdhaa", sum := "030d4886e50e0b4be333521e2323a31ddef6c6e20e895a420bb9307875a75366", func := "capstan/capstanlaw11.CallsRound", spec := "callsRound", unfollowed := true, recurses := true, apart := false }
def CallsRoundSaid : Prop := callsRoundRow.holds Try.pinned (OpenSpec.ofChange callsRoundSpec)

/-- ITS FALSE NEIGHBOUR: 'it returns false'. Refute it at one input. -/
def callsRoundWrong : ChangeSpec := { name := "callsRound", fn := fun _ => fun
  | [d1, d2, d3, d4, d5] => { results := [.lit (.bool false)], args := [d1, d2, d3, d4, d5] }
  | _ => none }
def CallsRoundWrongFalsely : Prop := callsRoundRow.holds Try.pinned (OpenSpec.ofChange callsRoundWrong)

/-- 'capstanlaw11.CallsDeep': WHATEVER THE INPUT: true; the input reads as it did. -/
def callsDeepSpec : ChangeSpec := { name := "callsDeep", fn := fun _ => fun
  | [d] => { results := [.lit (.bool true)], args := [d] }
  | _ => none }
def callsDeepRow : OpenClaim := { program := "ytkmnachdibhdhaa", sum := "030d4886e50e0b4be333521e2323a31ddef6c6e20e895a420bb9307875a75366", func := "capstan/capstanlaw11.CallsDeep", spec := "callsDeep", unfollowed := true, recurses := true, apart := false }
def CallsDeepSaid : Prop := callsDeepRow.holds Try.pinned (OpenSpec.ofChange callsDeepSpec)

/-- ITS FALSE NEIGHBOUR: 'it returns false'. Refute it at one input. -/
def callsDeepWrong : ChangeSpec := { name := "callsDeep", fn := fun _ => fun
  | [d] => { results := [.lit (.bool false)], args := [d] }
  | _ => none }
def CallsDeepWrongFalsely : Prop := callsDeepRow.holds Try.pinned (OpenSpec.ofChange callsDeepWrong)

/-- 'capstanlaw13.PureSays': WHATEVER THE INPUT: true; the input reads as it did. -/
def pureSaysSpec : ChangeSpec := { name := "pureSays", fn := fun _ => fun
  | [d] => { results := [.lit (.bool true)], args := [d] }
  | _ => none }
def pureSaysRow : OpenClaim := { program := "ytkmnachdibhdhaa", sum := "030d4886e50e0b4be333521e2323a31ddef6c6e20e895a420bb9307875a75366", func := "capstan/capstanlaw13.PureSays", spec := "pureSays", unfollowed := true, recurses := true, apart := false }
def PureSaysSaid : Prop := pureSaysRow.holds Try.pinned (OpenSpec.ofChange pureSaysSpec)

/-- ITS FALSE NEIGHBOUR: 'it returns false'. Refute it at one input. -/
def pureSaysWrong : ChangeSpec := { name := "pureSays", fn := fun _ => fun
  | [d] => { results := [.lit (.bool false)], args := [d] }
  | _ => none }
def PureSaysWrongFalsely : Prop := pureSaysRow.holds Try.pinned (OpenSpec.ofChange pureSaysWrong)

/-- 'capstanlaw13.PureStore': WHATEVER THE INPUT: true; the input reads as it did. -/
def pureStoreSpec : ChangeSpec := { name := "pureStore", fn := fun _ => fun
  | [d1, d2] => { results := [.lit (.bool true)], args := [d1, d2] }
  | _ => none }
def pureStoreRow : OpenClaim := { program := "ytkmnachdibhdhaa", sum := "030d4886e50e0b4be333521e2323a31ddef6c6e20e895a420bb9307875a75366", func := "capstan/capstanlaw13.PureStore", spec := "pureStore", unfollowed := true, recurses := true, apart := false }
def PureStoreSaid : Prop := pureStoreRow.holds Try.pinned (OpenSpec.ofChange pureStoreSpec)

/-- ITS FALSE NEIGHBOUR: 'it returns false'. Refute it at one input. -/
def pureStoreWrong : ChangeSpec := { name := "pureStore", fn := fun _ => fun
  | [d1, d2] => { results := [.lit (.bool false)], args := [d1, d2] }
  | _ => none }
def PureStoreWrongFalsely : Prop := pureStoreRow.holds Try.pinned (OpenSpec.ofChange pureStoreWrong)

/- THE SECOND FORM. 'bulk': how many values and letters a reading holds, each counted each time it is reached (what is shared counts as often as it is met; a slice's spare places count too). A statement '..UptoSaid' is the law's where the arguments, and the package variables that the reading takes, are together of bulk at most 1048576: NARROWER than '..Said'. Prove '..Said' where nothing that the law and all that it calls make is longer than what came in: it says more and counts as full. Else prove '..UptoSaid'. A law counts once. -/
mutual
def uptoBulk {H : Type} : DataW H → Nat
  | .lit (.string bytes) => bytes.length + 1
  | .lit _ => 1
  | .nil => 1
  | .ptr d => uptoBulk d + 1
  | .slice elems spare => uptoBulkAll elems + uptoBulkAll spare + 1
  | .agg parts => uptoBulkAll parts + 1
  | .iface _ d => uptoBulk d + 1
  | .map entries => uptoBulkEntries entries + 1
  | .held _ => 1
def uptoBulkAll {H : Type} : List (DataW H) → Nat
  | [] => 0
  | d :: r => uptoBulk d + uptoBulkAll r
def uptoBulkEntries {H : Type} : List (Lit × DataW H) → Nat
  | [] => 0
  | x :: r => uptoBulkEntry x + uptoBulkEntries r
def uptoBulkEntry {H : Type} : Lit × DataW H → Nat
  | (.string bytes, d) => bytes.length + uptoBulk d + 1
  | (_, d) => uptoBulk d + 1
 end
def uptoSmall : (H : Type) → List (DataW H) → Bool := fun _ ds => decide (uptoBulkAll ds ≤ 1048576)
def OpenSpec.upto (s : _root_.Go.ChangeSpec) : _root_.Go.OpenSpec := { _root_.Go.OpenSpec.ofChange s with cond := some uptoSmall }

/-- 'capstanlaw13.PureTells', WHERE WHAT IT READS IS OF BULK AT MOST 1048576: true; the input reads as it did. -/
def pureTellsUptoRow : OpenClaim := { program := "ytkmnachdibhdhaa", sum := "030d4886e50e0b4be333521e2323a31ddef6c6e20e895a420bb9307875a75366", func := "capstan/capstanlaw13.PureTells", spec := "pureTells", unfollowed := true, recurses := true, apart := false, narrowed := true }
def PureTellsUptoSaid : Prop := pureTellsUptoRow.holds Try.pinned (OpenSpec.upto pureTellsSpec)

/-- 'capstanlaw13.PureMost', WHERE WHAT IT READS IS OF BULK AT MOST 1048576: true; the input reads as it did. -/
def pureMostUptoRow : OpenClaim := { program := "ytkmnachdibhdhaa", sum := "030d4886e50e0b4be333521e2323a31ddef6c6e20e895a420bb9307875a75366", func := "capstan/capstanlaw13.PureMost", spec := "pureMost", unfollowed := true, recurses := true, apart := false, narrowed := true }
def PureMostUptoSaid : Prop := pureMostUptoRow.holds Try.pinned (OpenSpec.upto pureMostSpec)

/-- 'capstanlaw11.CallsTells', WHERE WHAT IT READS IS OF BULK AT MOST 1048576: true; the input reads as it did. -/
def callsTellsUptoRow : OpenClaim := { program := "ytkmnachdibhdhaa", sum := "030d4886e50e0b4be333521e2323a31ddef6c6e20e895a420bb9307875a75366", func := "capstan/capstanlaw11.CallsTells", spec := "callsTells", unfollowed := true, recurses := true, apart := false, narrowed := true }
def CallsTellsUptoSaid : Prop := callsTellsUptoRow.holds Try.pinned (OpenSpec.upto callsTellsSpec)

/-- 'capstanlaw11.CallsOrder', WHERE WHAT IT READS IS OF BULK AT MOST 1048576: true; the input reads as it did. -/
def callsOrderUptoRow : OpenClaim := { program := "ytkmnachdibhdhaa", sum := "030d4886e50e0b4be333521e2323a31ddef6c6e20e895a420bb9307875a75366", func := "capstan/capstanlaw11.CallsOrder", spec := "callsOrder", unfollowed := true, recurses := true, apart := false, narrowed := true }
def CallsOrderUptoSaid : Prop := callsOrderUptoRow.holds Try.pinned (OpenSpec.upto callsOrderSpec)

/-- 'capstanlaw11.CallsRound', WHERE WHAT IT READS IS OF BULK AT MOST 1048576: true; the input reads as it did. -/
def callsRoundUptoRow : OpenClaim := { program := "ytkmnachdibhdhaa", sum := "030d4886e50e0b4be333521e2323a31ddef6c6e20e895a420bb9307875a75366", func := "capstan/capstanlaw11.CallsRound", spec := "callsRound", unfollowed := true, recurses := true, apart := false, narrowed := true }
def CallsRoundUptoSaid : Prop := callsRoundUptoRow.holds Try.pinned (OpenSpec.upto callsRoundSpec)

/-- 'capstanlaw11.CallsDeep', WHERE WHAT IT READS IS OF BULK AT MOST 1048576: true; the input reads as it did. -/
def callsDeepUptoRow : OpenClaim := { program := "ytkmnachdibhdhaa", sum := "030d4886e50e0b4be333521e2323a31ddef6c6e20e895a420bb9307875a75366", func := "capstan/capstanlaw11.CallsDeep", spec := "callsDeep", unfollowed := true, recurses := true, apart := false, narrowed := true }
def CallsDeepUptoSaid : Prop := callsDeepUptoRow.holds Try.pinned (OpenSpec.upto callsDeepSpec)

/-- 'capstanlaw13.PureSays', WHERE WHAT IT READS IS OF BULK AT MOST 1048576: true; the input reads as it did. -/
def pureSaysUptoRow : OpenClaim := { program := "ytkmnachdibhdhaa", sum := "030d4886e50e0b4be333521e2323a31ddef6c6e20e895a420bb9307875a75366", func := "capstan/capstanlaw13.PureSays", spec := "pureSays", unfollowed := true, recurses := true, apart := false, narrowed := true }
def PureSaysUptoSaid : Prop := pureSaysUptoRow.holds Try.pinned (OpenSpec.upto pureSaysSpec)

/-- 'capstanlaw13.PureStore', WHERE WHAT IT READS IS OF BULK AT MOST 1048576: true; the input reads as it did. -/
def pureStoreUptoRow : OpenClaim := { program := "ytkmnachdibhdhaa", sum := "030d4886e50e0b4be333521e2323a31ddef6c6e20e895a420bb9307875a75366", func := "capstan/capstanlaw13.PureStore", spec := "pureStore", unfollowed := true, recurses := true, apart := false, narrowed := true }
def PureStoreUptoSaid : Prop := pureStoreUptoRow.holds Try.pinned (OpenSpec.upto pureStoreSpec)

end Rows
end Go.Proofs.Ytkmnachdibhdhaa
