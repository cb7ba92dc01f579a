/- Layer 3 in plain terms: what may be inside, zero values. -/
import Derived.Test.YtdbdajifalioiaaR3
import Derived.Test.YtdbdajifalioiaaLValue
namespace Go.Proofs.Ytdbdajifalioiaa.M
open Go.RowKit Go.Proofs.Ytdbdajifalioiaa.R Go.Proofs.YtdbdajifalioiaaW.PrintWords Go.Proofs.YtdbdajifalioiaaW.PrintLast Go.Proofs.YtdbdajifalioiaaW.PrintMore

theorem max_self (a : Int) : (a == mx a 0) = decide (0 ≤ a) := by
  rw [Bool.eq_iff_iff, beq_iff_eq, decide_eq_true_eq]
  unfold mx
  omega
theorem inside_f (k a b : Int) : value_Inside.f k a b = some (inside k a b) := by
  unfold value_Inside.f inside
  rw [may_f, Option.bind_some, max_self]
  cases may k a b <;> simp
theorem zero_f (k : Int) : value_Zero.f k = some (zero k) := by
  unfold value_Zero.f zero
  rw [inside_f, Option.bind_some]
  by_cases h1 : k = 1
  · subst h1; rfl
  by_cases h2 : k = 2
  · subst h2; rfl
  by_cases h3 : k = 3
  · subst h3; rfl
  rw [if_neg (by simp [inside, may, h1, h2, h3]), if_neg (by omega)]
end Go.Proofs.Ytdbdajifalioiaa.M
