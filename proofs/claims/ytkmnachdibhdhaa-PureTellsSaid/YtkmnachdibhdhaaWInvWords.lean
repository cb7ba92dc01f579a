import Derived.Test.YtkmnachdibhdhaaWInv
import Derived.Test.YtkmnachdibhdhaaWFootNe
namespace Go.Proofs.YtkmnachdibhdhaaW.PrintWords
open Go.RowKit
end Go.Proofs.YtkmnachdibhdhaaW.PrintWords
namespace Go.Proofs.YtkmnachdibhdhaaW.PrintLast
section
variable {ops : Array Oper} {a : Act} {o og : Oper} {g : Nat} {t : Tmp} {u : Bool}
end
end Go.Proofs.YtkmnachdibhdhaaW.PrintLast
