/- What more rounds tell; modules that aren't too long (of capstanlaw08_Great.f). -/
import Derived.Test.YtilhmjhblfpknaaP3
namespace Go.Proofs.Ytilhmjhblfpknaa.M
open Go.RowKit Go.Proofs.Ytilhmjhblfpknaa.P Go.Proofs.YtilhmjhblfpknaaW.PrintWords Go.Proofs.YtilhmjhblfpknaaW.PrintLast Go.Proofs.YtilhmjhblfpknaaW.PrintMore

theorem up {α : Type} {f : Nat → Option α} (hm : ∀ k, LeO (f k) (f (k + 1))) {k0 : Nat} {r : α} (h : f k0 = some r) (k : Nat) (hk : k0 ≤ k) : f k = some r := by
  obtain ⟨m, rfl⟩ : ∃ m, k = k0 + m := ⟨k - k0, by omega⟩
  clear hk
  induction m with
  | zero => exact h
  | succ m ih => exact hm _ _ ih
/-- No module that is too long to be told. -/
structure Small (ms : List S34) : Prop where
  len : ms.length ≤ 40
  code : ∀ j : Int, 0 ≤ j → j < (ms.length : Int) → (rd_T34 ms j).f7.length ≤ 100000
end Go.Proofs.Ytilhmjhblfpknaa.M
