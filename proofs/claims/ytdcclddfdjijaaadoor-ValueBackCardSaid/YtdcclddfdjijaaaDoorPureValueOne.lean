/- ValueOne: values with the same bytes are the same; no value's bytes begin another one's. -/
import Derived.Test.YtdcclddfdjijaaaDoorP6
import Derived.Test.YtdcclddfdjijaaaDoorLValue
import Derived.Test.YtdcclddfdjijaaaDoorLStr
namespace Go.Proofs.YtdcclddfdjijaaaDoor.Pure
open Go.RowKit Go.Proofs.YtdcclddfdjijaaaDoor.P Go.Proofs.YtdcclddfdjijaaaDoor.M Go.Proofs.YtdcclddfdjijaaaDoorW.PrintWords Go.Proofs.YtdcclddfdjijaaaDoorW.PrintLast Go.Proofs.YtdcclddfdjijaaaDoorW.PrintMore

theorem vawake1_f (k : Nat) (hk : 30 ≤ k) : capstanlaw03_awake.f k = some true := by
  obtain ⟨d, rfl⟩ := Nat.exists_eq_add_of_le hk
  induction d with
  | zero => decide +kernel
  | succ d ih => exact capstanlaw03_awake.mono _ _ (ih (by omega))
theorem val_leb8' (n : Int) (h : -9223372036854775808 ≤ n ∧ n ≤ 9223372036854775807) : wrap64 (val (leb 8 n)) = n := by
  simp only [leb, val]
  unfold wrap64
  omega
theorem val_leb3 (n : Int) (h : 0 ≤ n ∧ n < 16777216) : val (leb 3 n) = n := by
  simp only [leb, val]
  omega
/-- A value that has bytes: a number's, or a pair's. -/
theorem vbytes_ok {k a b : Int} (h : (vbytes k a b).2 = 0) : (k = 1 ∧ b = 0 ∧ (vbytes k a b).1 = 1 :: leb 8 a) ∨ (k = 2 ∧ (-1048576 ≤ a ∧ a ≤ 1048576 ∧ -1048576 ≤ b ∧ b ≤ 1048576) ∧ (vbytes k a b).1 = 2 :: (leb 3 (a + 1048576) ++ leb 3 (b + 1048576))) := by
  unfold vbytes at h ⊢
  by_cases hm : may k a b = true
  · rw [if_pos hm]
    by_cases h1 : k = 1
    · subst h1
      rw [if_pos rfl]
      have hb : b = 0 := by
        unfold may at hm; simpa using hm
      exact .inl ⟨rfl, hb, rfl⟩
    · obtain ⟨h2, h3⟩ := may_two hm h1
      rw [if_neg h1]
      exact .inr ⟨h2, h3, rfl⟩
  · rw [if_neg hm] at h; cases h
theorem vbytes_isB (k a b : Int) : isB (vbytes k a b).1 := by
  unfold vbytes
  split
  · split
    · exact isB_append.2 ⟨isB_cons.2 ⟨by omega, isB_nil⟩, leb_isB _ _⟩
    · exact isB_append.2 ⟨isB_append.2 ⟨isB_cons.2 ⟨by omega, isB_nil⟩, leb_isB _ _⟩, leb_isB _ _⟩
  · exact isB_nil
theorem ValueOne_key {k a b k' a' b' : Int} (ha : -9223372036854775808 ≤ a ∧ a ≤ 9223372036854775807) (ha' : -9223372036854775808 ≤ a' ∧ a' ≤ 9223372036854775807) (h : (vbytes k a b).2 = 0) (h' : (vbytes k' a' b').2 = 0) (n : Nat) (hn : n = min (vbytes k a b).1.length (vbytes k' a' b').1.length) :
    0 < n ∧ ((vbytes k a b).1.take n = (vbytes k' a' b').1.take n → k = k' ∧ a = a' ∧ b = b') := by
  have l8 := leb_length 8
  have l3 := leb_length 3
  rcases vbytes_ok h with ⟨rfl, rfl, e⟩ | ⟨rfl, hr, e⟩ <;> rcases vbytes_ok h' with ⟨rfl, rfl, e'⟩ | ⟨rfl, hr', e'⟩
  · rw [e, e'] at hn ⊢
    simp only [List.length_cons, l8] at hn
    subst hn
    refine ⟨by omega, fun ht => ?_⟩
    rw [List.take_of_length_le (by simp [l8]), List.take_of_length_le (by simp [l8])] at ht
    have := (List.cons.inj ht).2
    refine ⟨rfl, ?_, rfl⟩
    rw [← val_leb8' a ha, this, val_leb8' a' ha']
  · rw [e, e'] at hn ⊢
    simp only [List.length_cons, List.length_append, l8, l3] at hn
    subst hn
    refine ⟨by omega, fun ht => ?_⟩
    have := congrArg List.head? ht
    simp at this
  · rw [e, e'] at hn ⊢
    simp only [List.length_cons, List.length_append, l8, l3] at hn
    subst hn
    refine ⟨by omega, fun ht => ?_⟩
    have := congrArg List.head? ht
    simp at this
  · rw [e, e'] at hn ⊢
    simp only [List.length_cons, List.length_append, l3] at hn
    subst hn
    refine ⟨by omega, fun ht => ?_⟩
    rw [List.take_of_length_le (by simp [l3]), List.take_of_length_le (by simp [l3])] at ht
    have h5 := List.append_inj (List.cons.inj ht).2 (by rw [l3, l3])
    have h6 := congrArg val h5.1
    have h7 := congrArg val h5.2
    rw [val_leb3 _ (by omega), val_leb3 _ (by omega)] at h6 h7
    exact ⟨rfl, by omega, by omega⟩
theorem ValueOne : capstanlaw03_ValueOne.Pure := by
  intro k a b k' a' b' w w'
  have ha := wf_i64 w.2.1
  have ha' := wf_i64 w'.2.1
  refine ⟨40, ?_⟩
  unfold capstanlaw03_ValueOne.f
  rw [vawake1_f _ (by omega), Option.bind_some, if_pos rfl, vbytes_f _ _ _ _ (by omega), Option.bind_some, vbytes_f _ _ _ _ (by omega), Option.bind_some]
  by_cases h : (vbytes k a b).2 = 0
  · rw [if_pos h]
    by_cases h' : (vbytes k' a' b').2 = 0
    · obtain ⟨n, hn⟩ : ∃ n, n = min (vbytes k a b).1.length (vbytes k' a' b').1.length := ⟨_, rfl⟩
      obtain ⟨h0, hk⟩ := ValueOne_key ha ha' h h' n hn
      have hmn : mn ((vbytes k a b).1.length : Int) ((vbytes k' a' b').1.length : Int) = n := by
        unfold mn; split <;> omega
      simp only [capstanlaw03_ValueOne.j0]
      have hall : (vbytes k a b).1 = (vbytes k' a' b').1 → k = k' ∧ a = a' ∧ b = b' := fun e => hk (by rw [e])
      have hv : (k == k' && (a == a' && (b == b'))) = decide (k = k' ∧ a = a' ∧ b = b') := by
        rw [Bool.eq_iff_iff]; simp [Bool.and_eq_true, beq_iff_eq]
      have hs : ((strOfNums (vbytes k a b).1).toList == (strOfNums (vbytes k' a' b').1).toList) = decide (k = k' ∧ a = a' ∧ b = b') := by
        rw [str_beq (vbytes_isB _ _ _) (vbytes_isB _ _ _), Bool.eq_iff_iff, decide_eq_true_eq, decide_eq_true_eq]
        exact ⟨hall, fun e => by rw [e.1, e.2.1, e.2.2]⟩
      have ht : ((strOfNums ((vbytes k a b).1.take n)).toList == (strOfNums ((vbytes k' a' b').1.take n)).toList) = decide (k = k' ∧ a = a' ∧ b = b') := by
        rw [str_beq (isB_take _ (vbytes_isB _ _ _)) (isB_take _ (vbytes_isB _ _ _)), Bool.eq_iff_iff, decide_eq_true_eq, decide_eq_true_eq]
        exact ⟨hk, fun e => by rw [e.1, e.2.1, e.2.2]⟩
      rw [hmn, if_neg (by simp [h']), hs, hv, if_neg (by simp), if_pos (by omega), if_pos (by omega), if_pos (by omega), if_pos (by omega), Int.toNat_natCast, ht]
      simp
    · simp only [capstanlaw03_ValueOne.j0]
      rw [if_pos (by simpa using h')]
  · rw [if_neg h]
    simp only [capstanlaw03_ValueOne.j0]
    rw [if_pos trivial]
end Go.Proofs.YtdcclddfdjijaaaDoor.Pure
