import Derived.Test.YtjnmomhkiknhdaaWInv
import Derived.Test.YtjnmomhkiknhdaaWFootNe
namespace Go.Proofs.YtjnmomhkiknhdaaW.PrintWords
open Go.RowKit
end Go.Proofs.YtjnmomhkiknhdaaW.PrintWords
namespace Go.Proofs.YtjnmomhkiknhdaaW.PrintLast
section
variable {ops : Array Oper} {a : Act} {o og : Oper} {g : Nat} {t : Tmp} {u : Bool}
end
end Go.Proofs.YtjnmomhkiknhdaaW.PrintLast
