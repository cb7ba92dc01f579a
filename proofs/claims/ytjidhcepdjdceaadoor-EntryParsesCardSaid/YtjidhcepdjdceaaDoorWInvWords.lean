import Derived.Test.YtjidhcepdjdceaaDoorWInv
import Derived.Test.YtjidhcepdjdceaaDoorWFootNe
namespace Go.Proofs.YtjidhcepdjdceaaDoorW.PrintWords
open Go.RowKit
end Go.Proofs.YtjidhcepdjdceaaDoorW.PrintWords
namespace Go.Proofs.YtjidhcepdjdceaaDoorW.PrintLast
section
variable {ops : Array Oper} {a : Act} {o og : Oper} {g : Nat} {t : Tmp} {u : Bool}
end
end Go.Proofs.YtjidhcepdjdceaaDoorW.PrintLast
