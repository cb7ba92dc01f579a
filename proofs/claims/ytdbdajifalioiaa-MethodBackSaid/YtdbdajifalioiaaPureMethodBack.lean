/- MethodBack: what has bytes is read from them, wherever they stand; what is read has just those bytes. -/
import Derived.Test.YtdbdajifalioiaaV11
import Derived.Test.YtdbdajifalioiaaLMethod4
import Derived.Test.YtdbdajifalioiaaLStr
namespace Go.Proofs.Ytdbdajifalioiaa.Pure
open Go.RowKit Go.Proofs.Ytdbdajifalioiaa.V Go.Proofs.Ytdbdajifalioiaa.M Go.Proofs.YtdbdajifalioiaaW.PrintWords Go.Proofs.YtdbdajifalioiaaW.PrintLast Go.Proofs.YtdbdajifalioiaaW.PrintMore

theorem mb_j2 (l : List Int) (hb : isB l) (hl : l.length ≤ 1500) (a : Int) (k : Nat) (hk : 400 ≤ k) : capstanlaw07_MethodBack.j2 k l a = some true := by
  obtain ⟨k, rfl⟩ : ∃ n, k = n + 1 := ⟨k - 1, by omega⟩
  simp only [capstanlaw07_MethodBack.j2]
  rw [read_f hb (by omega) a k (by omega), Option.bind_some]
  by_cases h : (mread l a).2.2.2.2.2.2.2.2.2 = 0
  · obtain ⟨A, L, r, q, fu, sk, hp, e, hm, h1, h2, h3⟩ := mread_inv hb h
    obtain ⟨hl4, _⟩ := mmay_iff.1 hm
    rw [e]
    dsimp only
    rw [if_pos rfl, mBytes_f _ _ _ _ _ _ _ _ (by omega) (by omega) _ (by omega), Option.bind_some]
    unfold mbytes
    rw [if_pos hm]
    dsimp only
    rw [if_pos rfl, mMay_f _ _ _ _ _ _ _ _ (by omega) (by omega) _ (by omega), Option.bind_some, hm, if_pos rfl, if_pos (by omega), if_pos (by omega), if_pos h2, wrap64_id (by omega) (by omega), if_pos rfl, if_pos h1, if_pos (by omega), td_piece _ _ _ h1 (by omega), h3, beq_self_eq_true]
  · rw [if_neg h, mread_bad h]
    rfl
theorem MethodBack : capstanlaw07_MethodBack.Pure := by
  intro a b r q fu sk hp code l1 l2 a3 hw _ _ hw1 _ _ hw2 _
  have ha := isB_of hw.1.2
  have hb := isB_of hw.2.1.2
  have hb1 := isB_of hw1
  have hb2 := isB_of hw2
  have hr := wf_u8 hw.2.2.1
  refine ⟨1002, ?_⟩
  unfold capstanlaw07_MethodBack.f
  rw [mawake_f _ (by omega), Option.bind_some, if_pos rfl, great7_f, Option.bind_some]
  have hj : ∀ x3, capstanlaw07_MethodBack.j0 (1001 + 1) l1 l2 x3 true a b r q fu sk hp code = some true := fun x3 => by
    rw [capstanlaw07_MethodBack.j0, if_pos rfl]
  by_cases hg : a.length > 100 ∨ b.length > 100
  · rw [decide_eq_true hg, if_pos rfl]; exact hj a3
  rw [decide_eq_false hg, if_neg (by decide)]
  by_cases hx : (l1.length : Int) > 300
  · rw [if_pos hx]; exact hj a3
  rw [if_neg hx]
  by_cases hy : (l2.length : Int) > 1500
  · rw [decide_eq_true hy]; exact hj a3
  rw [decide_eq_false hy, show (1002 : Nat) = 1001 + 1 from rfl, capstanlaw07_MethodBack.j0, if_neg (by decide), mBytes_f _ _ _ _ _ _ _ _ (by omega) (by omega) _ (by omega), Option.bind_some, mMay_f _ _ _ _ _ _ _ _ (by omega) (by omega) _ (by omega), Option.bind_some]
  cases hm : mmay a b r fu sk hp
  · have em : mbytes a b r q fu sk hp = ([], 70) := by unfold mbytes; rw [hm]; rfl
    rw [em]
    dsimp only
    rw [if_neg (by decide), if_neg (by decide), if_pos rfl, show (1001 : Nat) = 1000 + 1 from rfl, capstanlaw07_MethodBack.j1, decide_eq_false (by simp), if_neg (by decide), if_neg (by decide)]
    exact mb_j2 l2 hb2 (by omega) a3 1000 (by omega)
  · obtain ⟨hl4, _⟩ := mmay_iff.1 hm
    have hlen := mhead_length a b r q fu sk hp
    have hB := mhead_isB (q := q) hm ha hb
    have em : mbytes a b r q fu sk hp = (mhead a b r q fu sk hp, 0) := by unfold mbytes; rw [hm]; rfl
    rw [em]
    dsimp only
    rw [if_neg (by decide), if_pos rfl, show (1001 : Nat) = 1000 + 1 from rfl, capstanlaw07_MethodBack.j1, if_neg (by decide), if_pos rfl, Option.bind_some, if_pos (by simp; omega), Option.bind_some, if_pos (by simp; omega), Option.bind_some, if_pos (by simp; omega), List.nil_append,
      read_f (isB_append.2 ⟨isB_append.2 ⟨hb1, hB⟩, hb2⟩) (by simp; omega) _ _ (by omega), Option.bind_some, mread_put l1 l2 hm]
    dsimp only
    rw [if_pos rfl, wrap64_id (by omega) (by omega), if_pos rfl, mSame_f _ _ _ _ _ _ _ _ _ _ _ _ _ _ _ _ (by omega) (by omega) _ (by omega), Option.bind_some, msame_iff.2 ⟨rfl, rfl, rfl, rfl, rfl, rfl, rfl⟩, if_pos rfl, if_neg (by omega), wrap64_id (by omega) (by omega), if_pos (by omega), if_pos (by omega), show (((mhead a b r q fu sk hp).length : Int) - 1).toNat = (mhead a b r q fu sk hp).length - 1 by omega,
      told7_f (isB_take _ hB) (by simp; omega) 10 (mread_cut hm) _ (by omega), Option.bind_some, if_pos rfl]
    exact mb_j2 l2 hb2 (by omega) a3 1000 (by omega)
end Go.Proofs.Ytdbdajifalioiaa.Pure
