/- Layer 3 in plain terms: a value's bytes and what is read of them. -/
import Derived.Test.YtjidhcepdjdceaaDoorG0
import Derived.Test.YtjidhcepdjdceaaDoorLValue2
namespace Go.Proofs.YtjidhcepdjdceaaDoor.M
open Go.RowKit Go.Proofs.YtjidhcepdjdceaaDoor.G Go.Proofs.YtjidhcepdjdceaaDoorW.PrintWords Go.Proofs.YtjidhcepdjdceaaDoorW.PrintLast Go.Proofs.YtjidhcepdjdceaaDoorW.PrintMore

theorem val_leb8' (n : Int) (h : -9223372036854775808 ≤ n ∧ n ≤ 9223372036854775807) : wrap64 (val (leb 8 n)) = n := by
  simp only [leb, val]
  unfold wrap64
  omega
theorem val_leb3 (n : Int) (h : 0 ≤ n ∧ n < 16777216) : val (leb 3 n) = n := by
  simp only [leb, val]
  omega
/-- A value that has bytes: a number's, or a pair's. -/
theorem vbytes_ok {k a b : Int} (h : (vbytes k a b).2 = 0) : (k = 1 ∧ b = 0 ∧ (vbytes k a b).1 = 1 :: leb 8 a) ∨ (k = 2 ∧ (-1048576 ≤ a ∧ a ≤ 1048576 ∧ -1048576 ≤ b ∧ b ≤ 1048576) ∧ (vbytes k a b).1 = 2 :: (leb 3 (a + 1048576) ++ leb 3 (b + 1048576))) := by
  unfold vbytes at h ⊢
  by_cases hm : may k a b = true
  · rw [if_pos hm]
    by_cases h1 : k = 1
    · subst h1
      rw [if_pos rfl]
      have hb : b = 0 := by
        unfold may at hm; simpa using hm
      exact .inl ⟨rfl, hb, rfl⟩
    · obtain ⟨h2, h3⟩ := may_two hm h1
      rw [if_neg h1]
      exact .inr ⟨h2, h3, rfl⟩
  · rw [if_neg hm] at h; cases h
theorem vbytes_isB (k a b : Int) : isB (vbytes k a b).1 := by
  unfold vbytes
  split
  · split
    · exact isB_append.2 ⟨isB_cons.2 ⟨by omega, isB_nil⟩, leb_isB _ _⟩
    · exact isB_append.2 ⟨isB_append.2 ⟨isB_cons.2 ⟨by omega, isB_nil⟩, leb_isB _ _⟩, leb_isB _ _⟩
  · exact isB_nil
theorem piece_mid (a b c d : List Int) (n m : Int) (hn : n = a.length + b.length) (hm : m = c.length) : piece (a ++ (b ++ (c ++ d))) n m = c := by
  subst hn
  subst hm
  unfold piece
  rw [show ((a.length : Int) + b.length).toNat = (a ++ b).length by simp; omega, Int.toNat_natCast, ← List.append_assoc, List.drop_left, List.take_left]
theorem rd_mid (a c : List Int) (x : Int) : rd (a ++ x :: c) (a.length : Int) = x := by
  rw [rd_at (by simp), List.getElem_append_right (by omega)]; simp
theorem vread_put {k a b : Int} (ha : -9223372036854775808 ≤ a ∧ a ≤ 9223372036854775807) (h : (vbytes k a b).2 = 0) (x y : List Int) : vread (x ++ (vbytes k a b).1 ++ y) x.length = (k, a, b, (x.length : Int) + (vbytes k a b).1.length, 0) := by
  have l8 := leb_length 8
  have l3 := leb_length 3
  rcases vbytes_ok h with ⟨rfl, rfl, e⟩ | ⟨rfl, hr, e⟩
  · rw [e]
    have hp := piece_mid x [1] (leb 8 a) y ((x.length : Int) + 1) 8 (by simp) (by simp [l8])
    have hrd := rd_mid x (leb 8 a ++ y) 1
    have e1 : x ++ 1 :: leb 8 a ++ y = x ++ 1 :: (leb 8 a ++ y) := by simp
    have e2 : [1] ++ (leb 8 a ++ y) = 1 :: (leb 8 a ++ y) := rfl
    rw [e2] at hp
    have hL : (x ++ 1 :: (leb 8 a ++ y)).length = x.length + 9 + y.length := by simp [l8]; omega
    have hc : ((1 :: leb 8 a).length : Int) = 9 := by simp [l8]
    rw [e1, hc]
    unfold vread
    rw [if_neg (by omega), if_neg (by omega), hrd, if_pos rfl, if_neg (by omega), hp, val_leb8' a ha]
  · rw [e]
    have hp := piece_mid x [2] (leb 3 (a + 1048576)) (leb 3 (b + 1048576) ++ y) ((x.length : Int) + 1) 3 (by simp) (by simp [l3])
    have hq := piece_mid x (2 :: leb 3 (a + 1048576)) (leb 3 (b + 1048576)) y ((x.length : Int) + 4) 3 (by simp [l3] <;> omega) (by simp [l3])
    have hrd := rd_mid x (leb 3 (a + 1048576) ++ (leb 3 (b + 1048576) ++ y)) 2
    have e1 : x ++ 2 :: (leb 3 (a + 1048576) ++ leb 3 (b + 1048576)) ++ y = x ++ 2 :: (leb 3 (a + 1048576) ++ (leb 3 (b + 1048576) ++ y)) := by simp
    have e2 : [2] ++ (leb 3 (a + 1048576) ++ (leb 3 (b + 1048576) ++ y)) = 2 :: (leb 3 (a + 1048576) ++ (leb 3 (b + 1048576) ++ y)) := rfl
    have e3 : 2 :: leb 3 (a + 1048576) ++ (leb 3 (b + 1048576) ++ y) = 2 :: (leb 3 (a + 1048576) ++ (leb 3 (b + 1048576) ++ y)) := rfl
    rw [e2] at hp
    rw [e3] at hq
    have hL : (x ++ 2 :: (leb 3 (a + 1048576) ++ (leb 3 (b + 1048576) ++ y))).length = x.length + 7 + y.length := by simp [l3]; omega
    have hc : ((2 :: (leb 3 (a + 1048576) ++ leb 3 (b + 1048576))).length : Int) = 7 := by simp [l3]
    rw [e1, hc]
    unfold vread
    rw [if_neg (by omega), if_neg (by omega), hrd, if_neg (by omega), if_pos rfl, if_neg (by omega), hp, hq, val_leb3 _ (by omega), val_leb3 _ (by omega), show a + 1048576 - 1048576 = a by omega, show b + 1048576 - 1048576 = b by omega,
      if_pos (by unfold pm; rw [decide_eq_true_eq]; omega)]
end Go.Proofs.YtjidhcepdjdceaaDoor.M
