/- Layer 3 in plain terms: what value's printed functions, and the chapter's, come to. -/
import Derived.Test.YtjnmomhkiknhdaaT5
import Derived.Test.YtjnmomhkiknhdaaT6
import Derived.Test.YtjnmomhkiknhdaaT10
import Derived.Test.YtjnmomhkiknhdaaLOctet
namespace Go.Proofs.Ytjnmomhkiknhdaa.M
open Go.RowKit Go.Proofs.Ytjnmomhkiknhdaa.T Go.Proofs.YtjnmomhkiknhdaaW.PrintWords Go.Proofs.YtjnmomhkiknhdaaW.PrintLast Go.Proofs.YtjnmomhkiknhdaaW.PrintMore

/-- Is a pair's part small enough, both of them. -/
def pm (a b : Int) : Bool := decide (-1048576 ≤ a ∧ a ≤ 1048576 ∧ -1048576 ≤ b ∧ b ≤ 1048576)
def may (k a b : Int) : Bool := (k == 1 && b == 0) || (k == 2 && pm a b)
def inside (k a b : Int) : Bool := may k a b || (k == 3 && (decide (0 ≤ a) && b == 0))
def zero (k : Int) : Int × Int × Int × Bool := if k = 1 ∨ k = 2 ∨ k = 3 then (k, 0, 0, true) else (0, 0, 0, false)
theorem gauss_b (a b : Int) : gauss_May.b a b = pm a b := by
  unfold gauss_May.b pm
  rw [Bool.eq_iff_iff]
  simp only [Bool.and_eq_true, decide_eq_true_eq]
  omega
theorem pair_f (a b : Int) : value_Pair.f a b = some (if pm a b = true then (2, a, b, true) else (0, 0, 0, false)) := by
  unfold value_Pair.f
  rw [gauss_b]
  split <;> rfl
theorem may_f (k a b : Int) : value_May.f k a b = some (may k a b) := by
  unfold value_May.f value_Int.f may
  rw [pair_f, Option.bind_some, Option.bind_some]
  cases pm a b <;> simp only [if_true, Bool.false_eq_true, if_false, beq_self_eq_true, Bool.true_and, Bool.and_true] <;> cases (k == 1) <;> cases (b == 0) <;> cases (k == 2) <;> rfl
theorem ref02May_f (a b : Int) : capstanref02_May.f a b = some (pm a b) := by
  unfold capstanref02_May.f pm
  split
  · split
    · split
      · congr 1; rw [Bool.eq_iff_iff, decide_eq_true_eq, decide_eq_true_eq]; omega
      · congr 1; rw [eq_comm, decide_eq_false_iff_not]; omega
    · congr 1; rw [eq_comm, decide_eq_false_iff_not]; omega
  · congr 1; rw [eq_comm, decide_eq_false_iff_not]; omega
theorem refMay_f (k a b : Int) : capstanref03_May.f k a b = some (may k a b) := by
  unfold capstanref03_May.f may
  rw [ref02May_f]
  by_cases h1 : k = 1
  · subst h1
    by_cases h3 : b = 0 <;> simp [h3]
  · by_cases h2 : k = 2 <;> simp [h1, h2]
end Go.Proofs.Ytjnmomhkiknhdaa.M
