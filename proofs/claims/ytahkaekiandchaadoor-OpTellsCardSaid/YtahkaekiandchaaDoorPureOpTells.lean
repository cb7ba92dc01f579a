/- OpTells: any number is the operation, with the name and the bounds, any instruction may be, as the chapter says. -/
import Derived.Test.YtahkaekiandchaaDoorP1
import Derived.Test.YtahkaekiandchaaDoorP2
import Derived.Test.YtahkaekiandchaaDoorP3
import Derived.Test.YtahkaekiandchaaDoorP4
import Derived.Test.YtahkaekiandchaaDoorLOp
namespace Go.Proofs.YtahkaekiandchaaDoor.Pure
open Go.RowKit Go.Proofs.YtahkaekiandchaaDoor.P Go.Proofs.YtahkaekiandchaaDoor.M Go.Proofs.YtahkaekiandchaaDoorW.PrintWords Go.Proofs.YtahkaekiandchaaDoorW.PrintLast Go.Proofs.YtahkaekiandchaaDoorW.PrintMore

theorem refbnd_all : ∀ n : Fin 256, capstanref04_Bounds.f 5 ((n : Nat) : Int) = some (bnd ((n : Nat) : Int)) := by decide +kernel
theorem name_all : ∀ n : Fin 256, op_Name.f ((n : Nat) : Int) = capstanref04_Name.f ((n : Nat) : Int) ∧ (op_Name.f ((n : Nat) : Int)).isSome = true := by decide +kernel
theorem leads_all : ∀ n : Fin 256, op_Leads.f 5 ((n : Nat) : Int) = capstanref04_Leads.f ((n : Nat) : Int) ∧ (op_Leads.f 5 ((n : Nat) : Int)).isSome = true := by decide +kernel
theorem goes_all : ∀ n : Fin 256, op_Goes.f ((n : Nat) : Int) = capstanref04_Goes.f ((n : Nat) : Int) ∧ (op_Goes.f ((n : Nat) : Int)).isSome = true := by decide +kernel
theorem known_all : ∀ n : Fin 256, op_Known.f ((n : Nat) : Int) = capstanref04_Known.f ((n : Nat) : Int) := by decide +kernel
theorem refopmay_f (n : Fin 256) (a b : Int) : capstanref04_May.f 5 ((n : Nat) : Int) a b = some (decide ((bnd ((n : Nat) : Int)).1 ≤ a) && (decide (a ≤ (bnd ((n : Nat) : Int)).2) && b == 0)) := by
  unfold capstanref04_May.f
  rw [refbnd_all n, Option.bind_some]
  by_cases h3 : b = 0
  · rw [if_pos h3]
    subst h3
    by_cases h1 : (bnd ((n : Nat) : Int)).1 ≤ a
    · rw [if_pos h1, decide_eq_true h1]; simp
    · rw [if_neg h1, decide_eq_false h1, Bool.false_and]
  · rw [if_neg h3, show (b == 0) = false by simpa using h3]; simp
theorem OpTells : capstanlaw04_OpTells.Pure := by
  intro a b c w
  obtain ⟨n, rfl⟩ := op_fin w.1
  refine ⟨5, ?_⟩
  obtain ⟨e1, s1⟩ := name_all n
  obtain ⟨e2, s2⟩ := leads_all n
  obtain ⟨e3, s3⟩ := goes_all n
  obtain ⟨x1, h1⟩ := Option.isSome_iff_exists.1 s1
  obtain ⟨x2, h2⟩ := Option.isSome_iff_exists.1 s2
  obtain ⟨x3, h3⟩ := Option.isSome_iff_exists.1 s3
  unfold capstanlaw04_OpTells.f
  rw [bnd_f n 5 (by omega), Option.bind_some, refbnd_all n, Option.bind_some, ← known_all n, known_f n, Option.bind_some, Option.bind_some, if_pos (by simp), ← e1, h1, Option.bind_some, Option.bind_some, if_pos rfl, if_pos rfl, if_pos rfl, opmay_f n b c 5 (by omega), Option.bind_some, refopmay_f n b c, Option.bind_some, if_pos (by simp), ← e2, h2, Option.bind_some, Option.bind_some, if_pos (by simp), ← e3, h3, Option.bind_some, Option.bind_some]
  simp
end Go.Proofs.YtahkaekiandchaaDoor.Pure
