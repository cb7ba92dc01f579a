/- The chapter's examples of pools. -/
import Derived.Test.YtjnmomhkiknhdaaDoorP7
import Derived.Test.YtjnmomhkiknhdaaDoorLPool2
namespace Go.Proofs.YtjnmomhkiknhdaaDoor.M
open Go.RowKit Go.Proofs.YtjnmomhkiknhdaaDoor.P Go.Proofs.YtjnmomhkiknhdaaDoorW.PrintWords Go.Proofs.YtjnmomhkiknhdaaDoorW.PrintLast Go.Proofs.YtjnmomhkiknhdaaDoorW.PrintMore

theorem pawake_f (k : Nat) (hk : 100 ≤ k) : capstanlaw06_awake.f k = some true := by
  obtain ⟨d, rfl⟩ := Nat.exists_eq_add_of_le hk
  induction d with
  | zero => decide +kernel
  | succ d ih => exact capstanlaw06_awake.mono _ _ (ih (by omega))
end Go.Proofs.YtjnmomhkiknhdaaDoor.M
