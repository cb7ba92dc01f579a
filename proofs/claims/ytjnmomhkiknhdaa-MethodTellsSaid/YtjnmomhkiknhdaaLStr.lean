/- Rows of bytes and the strings that they are read as. -/
import Derived.Test.YtjnmomhkiknhdaaLib
import Derived.Lib.Bytes
namespace Go.Proofs.Ytjnmomhkiknhdaa.M
open Go.RowKit Go.Proofs.YtjnmomhkiknhdaaW.PrintWords Go.Proofs.YtjnmomhkiknhdaaW.PrintMore

end Go.Proofs.Ytjnmomhkiknhdaa.M
