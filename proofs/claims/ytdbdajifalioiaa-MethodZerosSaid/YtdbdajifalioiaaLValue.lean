/- Layer 3 in plain terms: what value's printed functions, and the chapter's, come to. -/
import Derived.Test.YtdbdajifalioiaaR2
import Derived.Test.YtdbdajifalioiaaR3
import Derived.Test.YtdbdajifalioiaaLOctet
namespace Go.Proofs.Ytdbdajifalioiaa.M
open Go.RowKit Go.Proofs.Ytdbdajifalioiaa.R Go.Proofs.YtdbdajifalioiaaW.PrintWords Go.Proofs.YtdbdajifalioiaaW.PrintLast Go.Proofs.YtdbdajifalioiaaW.PrintMore

/-- Is a pair's part small enough, both of them. -/
def pm (a b : Int) : Bool := decide (-1048576 ≤ a ∧ a ≤ 1048576 ∧ -1048576 ≤ b ∧ b ≤ 1048576)
def may (k a b : Int) : Bool := (k == 1 && b == 0) || (k == 2 && pm a b)
def inside (k a b : Int) : Bool := may k a b || (k == 3 && (decide (0 ≤ a) && b == 0))
def zero (k : Int) : Int × Int × Int × Bool := if k = 1 ∨ k = 2 ∨ k = 3 then (k, 0, 0, true) else (0, 0, 0, false)
def vbytes (k a b : Int) : List Int × Int := if may k a b = true then (if k = 1 then ([1] ++ leb 8 a, 0) else ([2] ++ leb 3 (a + 1048576) ++ leb 3 (b + 1048576), 0)) else ([], 30)

theorem gauss_b (a b : Int) : gauss_May.b a b = pm a b := by
  unfold gauss_May.b pm
  rw [Bool.eq_iff_iff]
  simp only [Bool.and_eq_true, decide_eq_true_eq]
  omega
theorem pair_f (a b : Int) : value_Pair.f a b = some (if pm a b = true then (2, a, b, true) else (0, 0, 0, false)) := by
  unfold value_Pair.f
  rw [gauss_b]
  split <;> rfl
theorem may_f (k a b : Int) : value_May.f k a b = some (may k a b) := by
  unfold value_May.f value_Int.f may
  rw [pair_f, Option.bind_some, Option.bind_some]
  cases pm a b <;> simp only [if_true, Bool.false_eq_true, if_false, beq_self_eq_true, Bool.true_and, Bool.and_true] <;> cases (k == 1) <;> cases (b == 0) <;> cases (k == 2) <;> rfl
theorem may_two {k a b : Int} (h : may k a b = true) (h1 : k ≠ 1) : k = 2 ∧ -1048576 ≤ a ∧ a ≤ 1048576 ∧ -1048576 ≤ b ∧ b ≤ 1048576 := by
  unfold may pm at h
  simp only [Bool.or_eq_true, Bool.and_eq_true, beq_iff_eq, decide_eq_true_eq] at h
  omega
theorem put3 {n : Int} (h : 0 ≤ n ∧ n ≤ 2097152) : put 3 n = (leb 3 n, 0) := by
  unfold put
  rw [if_neg (by omega), if_pos ⟨h.1, .inr (by rw [show ((3 : Int).toNat) = 3 from rfl, show (256 : Int) ^ 3 = 16777216 from by decide]; omega)⟩]; rfl
end Go.Proofs.Ytdbdajifalioiaa.M
