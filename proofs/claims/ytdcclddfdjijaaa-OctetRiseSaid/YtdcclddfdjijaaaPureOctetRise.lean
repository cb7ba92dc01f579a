/- OctetRise: from the highest byte on. -/
import Derived.Test.YtdcclddfdjijaaaP7
import Derived.Test.YtdcclddfdjijaaaLOctet3
namespace Go.Proofs.Ytdcclddfdjijaaa.Pure
open Go.RowKit Go.Proofs.Ytdcclddfdjijaaa.P Go.Proofs.Ytdcclddfdjijaaa.M Go.Proofs.YtdcclddfdjijaaaW.PrintWords Go.Proofs.YtdcclddfdjijaaaW.PrintLast Go.Proofs.YtdcclddfdjijaaaW.PrintMore

theorem OctetRise_l0 (n m : Int) (w : Nat) (hw : w ≤ 8) (i : Nat) : ∀ (k : Nat), i ≤ w → i < k → n / 256 ^ i = m / 256 ^ i →
    capstanlaw01_OctetRise.l0 k n m (leb w n) (leb w m) ((i : Int) - 1) = some true := by
  induction i with
  | zero =>
    intro k hi hk h
    obtain ⟨k, rfl⟩ : ∃ d, k = d + 1 := ⟨k - 1, by omega⟩
    simp only [capstanlaw01_OctetRise.l0]
    rw [if_neg (by omega)]
    simpa using h
  | succ i ih =>
    intro k hi hk h
    obtain ⟨k, rfl⟩ : ∃ d, k = d + 1 := ⟨k - 1, by omega⟩
    have hp := p256 i
    rw [← ediv_pow_succ, ← ediv_pow_succ] at h
    have hih := ih k (by omega) (by omega)
    have e1 := rd_leb w n i (by omega)
    have e2 := rd_leb w m i (by omega)
    simp only [capstanlaw01_OctetRise.l0]
    rw [show (((i + 1 : Nat) : Int) - 1) = i by omega, if_pos (by omega), if_pos (by omega), if_pos (by rw [leb_length]; omega), if_pos (by rw [leb_length]; omega), wrap64_id (x := (i : Int) - 1) (by omega) (by omega), e1, e2]
    split
    · rename_i h2
      exact hih (by omega)
    · rename_i h2
      congr 1
      rw [Bool.eq_iff_iff, beq_iff_eq, Bool.eq_iff_iff, decide_eq_true_eq, decide_eq_true_eq]
      simp only [iff_true]
      have a1 := Int.ediv_mul_add_emod n (256 ^ i)
      have a2 := Int.ediv_mul_add_emod m (256 ^ i)
      have b1 := Int.emod_nonneg n (Int.ne_of_gt hp)
      have b2 := Int.emod_nonneg m (Int.ne_of_gt hp)
      have c1 := Int.emod_lt_of_pos n hp
      have c2 := Int.emod_lt_of_pos m hp
      have key : n / 256 ^ i < m / 256 ^ i ↔ n < m := by
        constructor
        · intro h3
          have := Int.mul_le_mul_of_nonneg_right (show n / 256 ^ i + 1 ≤ m / 256 ^ i by omega) (Int.le_of_lt hp)
          rw [Int.add_mul] at this
          omega
        · intro h3
          rcases Int.lt_or_le (n / 256 ^ i) (m / 256 ^ i) with h4 | h4
          · exact h4
          · have := Int.mul_le_mul_of_nonneg_right (show m / 256 ^ i + 1 ≤ n / 256 ^ i by omega) (Int.le_of_lt hp)
            rw [Int.add_mul] at this
            omega
      rw [← key]
      omega
theorem OctetRise : capstanlaw01_OctetRise.Pure := by
  intro w n m w0 w1 w2
  have h1 := wf_i64 w1
  have h2 := wf_i64 w2
  refine ⟨40, ?_⟩
  unfold capstanlaw01_OctetRise.f
  rw [awake_f _ (by omega), Option.bind_some, if_pos rfl, put_f w n _ (by omega), Option.bind_some, put_f w m _ (by omega), Option.bind_some]
  by_cases hn : (put w n).2 = 0
  · rw [if_pos hn]
    by_cases hm : (put w m).2 = 0
    · obtain ⟨hw, n0, nl, en⟩ := put_ok hn
      obtain ⟨_, m0, ml, em⟩ := put_ok hm
      rw [en, em]
      simp only [capstanlaw01_OctetRise.j0, capstanlaw01_OctetRise.j1, leb_length]
      rw [if_neg (by decide), if_pos (by omega), if_neg (by simp; omega), wrap64_id (by omega) (by omega)]
      have := OctetRise_l0 n m w.toNat (by omega) w.toNat 38 (by omega) (by omega) (by rw [Int.ediv_eq_zero_of_lt n0 (nl (by omega)), Int.ediv_eq_zero_of_lt m0 (ml (by omega))])
      rw [show ((w.toNat : Nat) : Int) = w by omega] at this
      exact this
    · simp only [capstanlaw01_OctetRise.j0]
      rw [if_pos (by simpa using hm)]
  · rw [if_neg hn]
    simp only [capstanlaw01_OctetRise.j0]
    rw [if_pos trivial]
end Go.Proofs.Ytdcclddfdjijaaa.Pure
