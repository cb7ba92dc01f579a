/- OpBounds: an instruction may be just if its A is within bounds, and its B is 0. -/
import Derived.Test.YtahkaekiandchaaDoorP5
import Derived.Test.YtahkaekiandchaaDoorLOpAw
namespace Go.Proofs.YtahkaekiandchaaDoor.Pure
open Go.RowKit Go.Proofs.YtahkaekiandchaaDoor.P Go.Proofs.YtahkaekiandchaaDoor.M Go.Proofs.YtahkaekiandchaaDoorW.PrintWords Go.Proofs.YtahkaekiandchaaDoorW.PrintLast Go.Proofs.YtahkaekiandchaaDoorW.PrintMore

theorem OpBounds : capstanlaw04_OpBounds.Pure := by
  intro a b c d w _
  obtain ⟨n, rfl⟩ := op_fin w.1
  refine ⟨20, ?_⟩
  obtain ⟨_, h1, h2, h3⟩ := bnd_all n
  have hb := bnd_f n 20 (by omega)
  have hj : capstanlaw04_OpBounds.j0 20 d (bnd ((n : Nat) : Int)).1 (bnd ((n : Nat) : Int)).2 false ((n : Nat) : Int) b c = some true := by
    simp only [capstanlaw04_OpBounds.j0]
    rw [if_neg (by decide), opmay_f n b 0 _ (by omega), Option.bind_some, opmay_f n d 0 _ (by omega), Option.bind_some, opmay_f n d 1 _ (by omega), known_f n, ← h1]
    simp only [Option.bind_some, show ((1 : Int) == 0) = false by decide, show ((0 : Int) == 0) = true by decide, Bool.and_true, Bool.and_false, Bool.not_false]
    by_cases c1 : (bnd ((n : Nat) : Int)).1 ≤ b <;> by_cases c2 : b ≤ (bnd ((n : Nat) : Int)).2 <;> by_cases c3 : (bnd ((n : Nat) : Int)).1 ≤ d <;> by_cases c4 : d ≤ (bnd ((n : Nat) : Int)).2 <;> simp [c1, c2, c3, c4] <;> omega
  unfold capstanlaw04_OpBounds.f
  rw [opawake_f 20 (by omega), Option.bind_some, if_pos rfl, hb, Option.bind_some, known_f n, Option.bind_some, h1, if_neg (by simp), Option.bind_some]
  by_cases hk : (n : Nat) < 33
  · obtain ⟨g1, g2⟩ := h2 hk
    rw [decide_eq_true hk, if_pos rfl, if_neg (by omega), decide_eq_false (by omega)]
    exact hj
  · rw [decide_eq_false hk, if_neg (by decide)]
    exact hj
end Go.Proofs.YtahkaekiandchaaDoor.Pure
