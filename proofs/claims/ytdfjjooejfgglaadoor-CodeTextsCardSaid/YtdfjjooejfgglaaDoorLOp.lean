/- Layer 4 in plain terms: operations' names, bounds. -/
import Derived.Test.YtdfjjooejfgglaaDoorY2
import Derived.Test.YtdfjjooejfgglaaDoorLib
namespace Go.Proofs.YtdfjjooejfgglaaDoor.M
open Go.RowKit Go.Proofs.YtdfjjooejfgglaaDoor.Y Go.Proofs.YtdfjjooejfgglaaDoorW.PrintWords Go.Proofs.YtdfjjooejfgglaaDoorW.PrintLast Go.Proofs.YtdfjjooejfgglaaDoorW.PrintMore

theorem op_up {α : Type} {f : Nat → Option α} (hm : ∀ k, LeO (f k) (f (k + 1))) {k0 : Nat} {r : α} (h : f k0 = some r) (k : Nat) (hk : k0 ≤ k) : f k = some r := by
  obtain ⟨d, rfl⟩ := Nat.exists_eq_add_of_le hk
  clear hk
  induction d with
  | zero => exact h
  | succ d ih => exact hm _ r ih
theorem op_fin {a : Int} (h : (Lit.int .u8 a).wf = true) : ∃ n : Fin 256, a = ((n : Nat) : Int) := by
  have := wf_u8 h
  exact ⟨⟨a.toNat, by omega⟩, by simp; omega⟩
def bnd (a : Int) : Int × Int := (op_Bounds.f 5 a).getD (0, 0)
theorem bnd_all : ∀ n : Fin 256, op_Bounds.f 5 ((n : Nat) : Int) = some (bnd ((n : Nat) : Int)) ∧ decide ((bnd ((n : Nat) : Int)).1 ≤ (bnd ((n : Nat) : Int)).2) = decide ((n : Nat) < 33) ∧ ((n : Nat) < 33 → 0 ≤ (bnd ((n : Nat) : Int)).1 ∧ (bnd ((n : Nat) : Int)).2 ≤ 1024) ∧ (¬ (n : Nat) < 33 → bnd ((n : Nat) : Int) = (0, -1)) := by decide +kernel
theorem bnd_f (n : Fin 256) (k : Nat) (hk : 5 ≤ k) : op_Bounds.f k ((n : Nat) : Int) = some (bnd ((n : Nat) : Int)) := op_up (fun k => op_Bounds.mono _ k) (bnd_all n).1 k hk
theorem opmay_f (n : Fin 256) (a b : Int) (k : Nat) (hk : 5 ≤ k) : op_May.f k ((n : Nat) : Int) a b = some (decide ((bnd ((n : Nat) : Int)).1 ≤ a) && (decide (a ≤ (bnd ((n : Nat) : Int)).2) && b == 0)) := by
  unfold op_May.f
  rw [bnd_f n k hk, Option.bind_some]
  by_cases h1 : (bnd ((n : Nat) : Int)).1 ≤ a
  · rw [if_pos h1, decide_eq_true h1, Bool.true_and]
    by_cases h2 : a ≤ (bnd ((n : Nat) : Int)).2
    · rw [if_pos h2, decide_eq_true h2, Bool.true_and]
    · rw [if_neg h2, decide_eq_false h2, Bool.false_and]
  · rw [if_neg h1, decide_eq_false h1, Bool.false_and]
theorem known_f (n : Fin 256) : op_Known.f ((n : Nat) : Int) = some (decide ((n : Nat) < 33)) := by
  unfold op_Known.f
  rw [wrap64_id (by omega) (by omega)]
  congr 1
  rw [Bool.eq_iff_iff, decide_eq_true_eq, decide_eq_true_eq]
  omega
end Go.Proofs.YtdfjjooejfgglaaDoor.M
