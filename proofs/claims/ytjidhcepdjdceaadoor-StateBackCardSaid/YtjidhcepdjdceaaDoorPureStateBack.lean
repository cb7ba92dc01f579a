/- StateBack: what has bytes is parsed from them; what is parsed has just those bytes. -/
import Derived.Test.YtjidhcepdjdceaaDoorP6
import Derived.Test.YtjidhcepdjdceaaDoorLState
namespace Go.Proofs.YtjidhcepdjdceaaDoor.Pure
open Go.RowKit Go.Proofs.YtjidhcepdjdceaaDoor.P Go.Proofs.YtjidhcepdjdceaaDoor.M Go.Proofs.YtjidhcepdjdceaaDoorW.PrintWords Go.Proofs.YtjidhcepdjdceaaDoorW.PrintLast Go.Proofs.YtjidhcepdjdceaaDoorW.PrintMore

theorem StateBack_j1 (k : Nat) (hk : 200 ≤ k) (l : List Int) (hb : isB l) (hl : l.length ≤ 100) : capstanlaw18_StateBack.j1 k l = some true := by
  obtain ⟨k, rfl⟩ : ∃ d, k = d + 1 := ⟨k - 1, by omega⟩
  simp only [capstanlaw18_StateBack.j1]
  rw [sparse_f l hb (by omega) k (by omega), Option.bind_some]
  rcases sparse_back l with ⟨h0, h1⟩ | ⟨h0, hm, h1⟩
  · rw [h0, h1, if_neg (by decide), if_pos rfl]; rfl
  · rw [if_pos h0, sbytes_f _ k (by omega), Option.bind_some, h1, if_pos rfl, beq_self_eq_true]
theorem StateBack : capstanlaw18_StateBack.Pure := by
  intro l y g my _ wy
  have ho : ∀ v ∈ l, vok v := fun v hv => wf_i64 (g.2 v hv).2.1
  refine ⟨400, ?_⟩
  unfold capstanlaw18_StateBack.f
  rw [stawake_f _ (by omega), Option.bind_some, if_pos rfl]
  by_cases ll : (l.length : Int) > 20
  · rw [if_pos ll]; simp [capstanlaw18_StateBack.j0]
  rw [if_neg ll]
  by_cases ly : (y.length : Int) > 100
  · rw [decide_eq_true ly]; simp [capstanlaw18_StateBack.j0]
  rw [decide_eq_false ly]
  have hj := StateBack_j1 399 (by omega) y (isB_of wy) (by omega)
  simp only [capstanlaw18_StateBack.j0]
  rw [if_neg (by decide), sbytes_f _ _ (by omega), Option.bind_some, smay_f _ _ (by omega), Option.bind_some]
  by_cases hm : smay l = true
  · obtain ⟨hm1, hm2⟩ := smay_iff.1 hm
    have e : sbytes l = ((l.length : Int) :: vflat l, 0) := by unfold sbytes; rw [if_pos hm]
    have h : (sbytes l).2 = 0 := by rw [e]
    have hf := vflat_len hm2
    have hlen : (sbytes l).1.length ≤ 60 ∧ 1 ≤ (sbytes l).1.length := by
      rw [e]; simp only [List.length_cons]; omega
    have hp := sparse_put hm ho [] isB_nil
    rw [List.append_nil, if_pos rfl] at hp
    have hq := sparse_put hm ho [0] (isB_cons.2 ⟨by omega, isB_nil⟩)
    rw [if_neg (by simp)] at hq
    rw [if_neg (by rw [h, hm]; decide), if_pos h, if_neg (by omega), sparse_f _ (sbytes_isB l) (by omega) _ (by omega), Option.bind_some, hp, Option.bind_some, if_pos (by simp; omega), Option.bind_some, List.nil_append, if_pos (by omega), sparse_f _ (isB_append.2 ⟨sbytes_isB l, isB_cons.2 ⟨by omega, isB_nil⟩⟩) (by simp; omega) _ (by omega), Option.bind_some, hq,
      wrap64_id (x := ((sbytes l).1.length : Int) - 1) (by omega) (by omega), if_pos (by omega), if_pos (by omega), show (((sbytes l).1.length : Int) - 1).toNat = (sbytes l).1.length - 1 by omega, sparse_f _ (isB_take _ (sbytes_isB l)) (by rw [List.length_take]; omega) _ (by omega), Option.bind_some, sparse_short hm ho]
    dsimp only
    rw [if_pos rfl, same17_f l (by omega) _ (by omega), Option.bind_some, if_pos rfl, if_pos rfl, if_pos rfl]
    exact hj
  · have h : sbytes l = ([], 180) := by unfold sbytes; rw [if_neg hm]
    have hm2 : smay l = false := by simpa using hm
    rw [h, if_neg (by rw [hm2]; decide), if_neg (by decide)]
    exact hj
end Go.Proofs.YtjidhcepdjdceaaDoor.Pure
