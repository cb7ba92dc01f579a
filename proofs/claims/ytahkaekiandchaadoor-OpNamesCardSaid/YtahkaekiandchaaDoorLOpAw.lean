/- The chapter's examples of operations. -/
import Derived.Test.YtahkaekiandchaaDoorP4
import Derived.Test.YtahkaekiandchaaDoorLOp
namespace Go.Proofs.YtahkaekiandchaaDoor.M
open Go.RowKit Go.Proofs.YtahkaekiandchaaDoor.P Go.Proofs.YtahkaekiandchaaDoorW.PrintWords Go.Proofs.YtahkaekiandchaaDoorW.PrintLast Go.Proofs.YtahkaekiandchaaDoorW.PrintMore

theorem opawake_f (k : Nat) (hk : 10 ≤ k) : capstanlaw04_awake.f k = some true := op_up (fun k => capstanlaw04_awake.mono k) (show capstanlaw04_awake.f 10 = some true by decide +kernel) k hk
end Go.Proofs.YtahkaekiandchaaDoor.M
