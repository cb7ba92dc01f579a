/- CodeTexts: what has a text is parsed from it; what is parsed has just that text. -/
import Derived.Test.YtdfjjooejfgglaaDoorY7
import Derived.Test.YtdfjjooejfgglaaDoorLText3
namespace Go.Proofs.YtdfjjooejfgglaaDoor.Pure
open Go.RowKit Go.Proofs.YtdfjjooejfgglaaDoor.Y Go.Proofs.YtdfjjooejfgglaaDoor.M Go.Proofs.YtdfjjooejfgglaaDoorW.PrintWords Go.Proofs.YtdfjjooejfgglaaDoorW.PrintLast Go.Proofs.YtdfjjooejfgglaaDoorW.PrintMore

theorem cx_j2 (l : List UInt8) (hl : l.length ≤ 4000) (k : Nat) (hk : 2300 ≤ k) : capstanlaw05_CodeTexts.j2 k ⟨l.toArray⟩ = some true := by
  obtain ⟨k, rfl⟩ : ∃ n, k = n + 1 := ⟨k - 1, by omega⟩
  simp only [capstanlaw05_CodeTexts.j2]
  rcases parse_inv l hl k (by omega) with h | ⟨L, h, hI, hm, e⟩
  · rw [h, Option.bind_some]
    dsimp only
    rw [if_neg (by decide), if_pos rfl]
    rfl
  · obtain ⟨q1, q2⟩ := cmay_inv hm
    rw [h, Option.bind_some]
    dsimp only
    rw [if_pos rfl, text_f L hI (by omega) k (by omega), Option.bind_some, if_pos hm]
    dsimp only
    rw [if_pos rfl, ← e, beq_self_eq_true]
theorem CodeTexts : capstanlaw05_CodeTexts.Pure := by
  intro l s hw _
  have hI : isI l := fun x hx => wf_u8 (hw.2 x hx).1
  refine ⟨3002, ?_⟩
  unfold capstanlaw05_CodeTexts.f
  rw [cawake_f _ (by omega), Option.bind_some, if_pos rfl]
  have hj : capstanlaw05_CodeTexts.j0 (3001 + 1) l s true = some true := by rw [capstanlaw05_CodeTexts.j0, if_pos rfl]
  by_cases hg : (l.length : Int) > 1000
  · rw [if_pos hg]; exact hj
  rw [if_neg hg]
  by_cases hy : (s.size : Int) > 4000
  · rw [decide_eq_true hy]; exact hj
  obtain ⟨t, rfl⟩ : ∃ l : List UInt8, s = ⟨l.toArray⟩ := ⟨_, ba_eta s⟩
  rw [ba_size] at hy
  rw [ba_size, decide_eq_false hy, show (3002 : Nat) = 3001 + 1 from rfl, capstanlaw05_CodeTexts.j0, if_neg (by decide), text_f l hI (by omega) _ (by omega), Option.bind_some, cMay_f l hI (by omega) _ (by omega), Option.bind_some]
  cases hm : cmay l
  · rw [if_neg (show ¬ (false = true) by decide)]
    dsimp only
    rw [if_neg (by decide), if_neg (by decide), if_pos rfl, show (3001 : Nat) = 3000 + 1 from rfl, capstanlaw05_CodeTexts.j1, if_neg (by simp [ByteArray.toList_eq]), if_neg (by decide)]
    exact cx_j2 t (by omega) 3000 (by omega)
  · obtain ⟨q1, q2⟩ := cmay_inv hm
    rw [if_pos rfl]
    dsimp only
    rw [if_neg (by decide), if_pos rfl, show (3001 : Nat) = 3000 + 1 from rfl, capstanlaw05_CodeTexts.j1, if_neg (by decide), if_pos rfl, parse_put hI hm _ (by omega), Option.bind_some]
    dsimp only
    rw [if_pos rfl, cSame_f l (by omega) _ (by omega), Option.bind_some, if_pos rfl]
    exact cx_j2 t (by omega) 3000 (by omega)
end Go.Proofs.YtdfjjooejfgglaaDoor.Pure
