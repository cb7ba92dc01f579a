import Derived.Test.YthmjblmdbcmjcaaDoorWInv
import Derived.Test.YthmjblmdbcmjcaaDoorWFootNe
namespace Go.Proofs.YthmjblmdbcmjcaaDoorW.PrintWords
open Go.RowKit
end Go.Proofs.YthmjblmdbcmjcaaDoorW.PrintWords
namespace Go.Proofs.YthmjblmdbcmjcaaDoorW.PrintLast
section
variable {ops : Array Oper} {a : Act} {o og : Oper} {g : Nat} {t : Tmp} {u : Bool}
end
end Go.Proofs.YthmjblmdbcmjcaaDoorW.PrintLast
