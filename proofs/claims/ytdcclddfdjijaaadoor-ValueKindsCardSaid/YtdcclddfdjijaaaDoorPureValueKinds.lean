/- ValueKinds: what may be outside may be inside; zero values. -/
import Derived.Test.YtdcclddfdjijaaaDoorP6
import Derived.Test.YtdcclddfdjijaaaDoorP8
import Derived.Test.YtdcclddfdjijaaaDoorLValue3
namespace Go.Proofs.YtdcclddfdjijaaaDoor.Pure
open Go.RowKit Go.Proofs.YtdcclddfdjijaaaDoor.P Go.Proofs.YtdcclddfdjijaaaDoor.M Go.Proofs.YtdcclddfdjijaaaDoorW.PrintWords Go.Proofs.YtdcclddfdjijaaaDoorW.PrintLast Go.Proofs.YtdcclddfdjijaaaDoorW.PrintMore

theorem vawake_f (k : Nat) (hk : 30 ≤ k) : capstanlaw03_awake.f k = some true := by
  obtain ⟨d, rfl⟩ := Nat.exists_eq_add_of_le hk
  induction d with
  | zero => decide +kernel
  | succ d ih => exact capstanlaw03_awake.mono _ _ (ih (by omega))
theorem inside_not3 {k a b : Int} (h : k ≠ 3) : inside k a b = may k a b := by
  have h3 : (k == 3) = false := beq_eq_false_iff_ne.2 h
  unfold inside
  rw [h3, Bool.false_and, Bool.or_false]
theorem may_3 {a b : Int} : may 3 a b = false := by unfold may; simp
theorem ValueKinds_j1 (k : Nat) (a b c : Int) (x : Bool) (hx : x = true → False) : capstanlaw03_ValueKinds.j1 (k + 1) x a b c = some true := by
  cases x with
  | true => exact absurd rfl hx
  | false =>
    simp only [capstanlaw03_ValueKinds.j1, may_f, inside_f, Option.bind_some, Bool.false_eq_true, if_false]
    by_cases h3 : a = 3
    · subst h3
      simp only [may_3, Bool.false_eq_true, if_false, if_true]
    · rw [inside_not3 h3]
      cases may a b c <;> simp [h3]
theorem ValueKinds : capstanlaw03_ValueKinds.Pure := by
  intro a b c h
  refine ⟨40, ?_⟩
  unfold capstanlaw03_ValueKinds.f
  rw [vawake_f _ (by omega), Option.bind_some, if_pos rfl, zero_f, Option.bind_some]
  have hz : ∀ n : Int, n = 1 ∨ n = 2 ∨ n = 3 → inside n 0 0 = true := by
    rintro n (rfl | rfl | rfl) <;> rfl
  have ok : ∀ n : Int, n = 1 ∨ n = 2 ∨ n = 3 → capstanlaw03_ValueKinds.j0 40 true true n b c n 0 0 = some true := by
    intro n hn
    simp only [capstanlaw03_ValueKinds.j0, inside_f, hz n hn, Option.bind_some, if_true, bne_self_eq_false, Bool.false_eq_true, if_false]
    exact ValueKinds_j1 38 _ _ _ false (fun h => by cases h)
  by_cases h1 : a = 1
  · subst h1; exact ok 1 (.inl rfl)
  by_cases h2 : a = 2
  · subst h2; exact ok 2 (.inr (.inl rfl))
  by_cases h3 : a = 3
  · subst h3; exact ok 3 (.inr (.inr rfl))
  rw [if_neg h1, if_neg h2]
  unfold zero
  rw [if_neg (by omega), beq_eq_false_iff_ne.2 h3]
  have hi : inside a b c = false := by
    rw [inside_not3 h3]; unfold may; simp [h1, h2]
  simp only [capstanlaw03_ValueKinds.j0, inside_f, hi, Option.bind_some, bne_self_eq_false, Bool.false_eq_true, if_false]
  exact ValueKinds_j1 38 _ _ _ false (fun h => by cases h)
end Go.Proofs.YtdcclddfdjijaaaDoor.Pure
