/- Layer 11 in plain terms: the order of the methods (of calls_Whom.f). -/
import Derived.Test.YtkmnachdibhdhaaT2
import Derived.Test.YtkmnachdibhdhaaLCalls0
namespace Go.Proofs.Ytkmnachdibhdhaa.M
open Go.RowKit Go.Proofs.Ytkmnachdibhdhaa.T Go.Proofs.YtkmnachdibhdhaaW.PrintWords Go.Proofs.YtkmnachdibhdhaaW.PrintLast Go.Proofs.YtkmnachdibhdhaaW.PrintMore

/-- Whom each calls: numbers of methods, none twice. -/
def WhomOk (whom : List (List Int)) : Prop := ∀ z : Nat, z < whom.length → (whom.getD z []).Nodup ∧ ∀ x ∈ whom.getD z [], 0 ≤ x ∧ x < (whom.length : Int)
end Go.Proofs.Ytkmnachdibhdhaa.M
