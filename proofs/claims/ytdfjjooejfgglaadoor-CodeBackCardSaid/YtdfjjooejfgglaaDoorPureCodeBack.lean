/- CodeBack: what has bytes is read from them, wherever they stand; what is read has just those bytes. -/
import Derived.Test.YtdfjjooejfgglaaDoorR6
import Derived.Test.YtdfjjooejfgglaaDoorLCode3
namespace Go.Proofs.YtdfjjooejfgglaaDoor.Pure
open Go.RowKit Go.Proofs.YtdfjjooejfgglaaDoor.R Go.Proofs.YtdfjjooejfgglaaDoor.M Go.Proofs.YtdfjjooejfgglaaDoorW.PrintWords Go.Proofs.YtdfjjooejfgglaaDoorW.PrintLast Go.Proofs.YtdfjjooejfgglaaDoorW.PrintMore

theorem cb_j2 (l : List Int) (hb : isB l) (hl : l.length ≤ 1500) (a : Int) (k : Nat) (hk : 2200 ≤ k) : capstanlaw05_CodeBack.j2 k l a = some true := by
  obtain ⟨k, rfl⟩ : ∃ n, k = n + 1 := ⟨k - 1, by omega⟩
  simp only [capstanlaw05_CodeBack.j2]
  rw [cparse_f hb (by omega) a k (by omega), Option.bind_some]
  by_cases h : (cparse l a).2.2 = 0
  · obtain ⟨t, e, hm, hI, h1, h2, h3⟩ := cparse_inv hb h
    obtain ⟨hl2, _⟩ := cmay_inv hm
    rw [e]
    dsimp only
    rw [if_pos rfl, cBytes_f t hI (by omega) _ (by omega), Option.bind_some, if_pos hm]
    dsimp only
    rw [if_pos rfl, cMay_f t hI (by omega) _ (by omega), Option.bind_some, hm, if_pos rfl, if_pos (by omega), if_pos (by omega), if_pos h2, wrap64_id (by omega) (by omega), if_pos rfl, if_pos h1, if_pos (by omega), td_piece _ _ _ h1 (by omega), h3, beq_self_eq_true]
  · rw [if_neg h, cparse_bad h]
    rfl
theorem CodeBack : capstanlaw05_CodeBack.Pure := by
  intro l l1 l2 a3 hw _ _ hw1 _ _ hw2 _
  have hI : isI l := fun x hx => wf_u8 (hw.2 x hx).1
  have hb1 := isB_of hw1
  have hb2 := isB_of hw2
  refine ⟨3002, ?_⟩
  unfold capstanlaw05_CodeBack.f
  rw [cawake_f _ (by omega), Option.bind_some, if_pos rfl]
  have hj : capstanlaw05_CodeBack.j0 (3001 + 1) l l1 l2 a3 true = some true := by rw [capstanlaw05_CodeBack.j0, if_pos rfl]
  by_cases hg : (l.length : Int) > 1000
  · rw [if_pos hg]; exact hj
  rw [if_neg hg]
  by_cases hx : (l1.length : Int) > 300
  · rw [if_pos hx]; exact hj
  rw [if_neg hx]
  by_cases hy : (l2.length : Int) > 1500
  · rw [decide_eq_true hy]; exact hj
  rw [decide_eq_false hy, show (3002 : Nat) = 3001 + 1 from rfl, capstanlaw05_CodeBack.j0, if_neg (by decide), cBytes_f l hI (by omega) _ (by omega), Option.bind_some, cMay_f l hI (by omega) _ (by omega), Option.bind_some]
  cases hm : cmay l
  · rw [if_neg (show ¬ (false = true) by decide)]
    dsimp only
    rw [if_neg (by decide), if_neg (by decide), if_pos rfl, show (3001 : Nat) = 3000 + 1 from rfl, capstanlaw05_CodeBack.j1, decide_eq_false (by simp), if_neg (by decide), if_neg (by decide)]
    exact cb_j2 l2 hb2 (by omega) a3 3000 (by omega)
  · obtain ⟨hl2, _⟩ := cmay_inv hm
    have hfl := flat_length l
    have hlen : (cbytes l).length = (flat l).length + 1 := by unfold cbytes; simp
    have hB : isB (cbytes l) := isB_cons.2 ⟨by omega, flat_isB hI⟩
    rw [if_pos rfl]
    dsimp only
    rw [if_neg (by decide), if_pos rfl, show (3001 : Nat) = 3000 + 1 from rfl, capstanlaw05_CodeBack.j1, if_neg (by decide), if_pos rfl, Option.bind_some, if_pos (by simp; omega), Option.bind_some, if_pos (by simp; omega), Option.bind_some, if_pos (by simp; omega), List.nil_append,
      cparse_f (isB_append.2 ⟨isB_append.2 ⟨hb1, hB⟩, hb2⟩) (by simp; omega) _ _ (by omega), Option.bind_some, cparse_put l1 l2 hI hm]
    dsimp only
    rw [if_pos rfl, wrap64_id (by omega) (by omega), if_pos rfl, cSame_f l (by omega) _ (by omega), Option.bind_some, if_pos rfl]
    exact cb_j2 l2 hb2 (by omega) a3 3000 (by omega)
end Go.Proofs.YtdfjjooejfgglaaDoor.Pure
