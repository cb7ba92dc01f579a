/- Layer 3 in plain terms: a value's bytes and what is read of them. -/
import Derived.Test.YtjidhcepdjdceaaDoorE0
import Derived.Test.YtjidhcepdjdceaaDoorLValue2
namespace Go.Proofs.YtjidhcepdjdceaaDoor.M
open Go.RowKit Go.Proofs.YtjidhcepdjdceaaDoor.E Go.Proofs.YtjidhcepdjdceaaDoorW.PrintWords Go.Proofs.YtjidhcepdjdceaaDoorW.PrintLast Go.Proofs.YtjidhcepdjdceaaDoorW.PrintMore

theorem val_leb8' (n : Int) (h : -9223372036854775808 ≤ n ∧ n ≤ 9223372036854775807) : wrap64 (val (leb 8 n)) = n := by
  simp only [leb, val]
  unfold wrap64
  omega
theorem val_leb3 (n : Int) (h : 0 ≤ n ∧ n < 16777216) : val (leb 3 n) = n := by
  simp only [leb, val]
  omega
/-- A value that has bytes: a number's, or a pair's. -/
theorem vbytes_ok {k a b : Int} (h : (vbytes k a b).2 = 0) : (k = 1 ∧ b = 0 ∧ (vbytes k a b).1 = 1 :: leb 8 a) ∨ (k = 2 ∧ (-1048576 ≤ a ∧ a ≤ 1048576 ∧ -1048576 ≤ b ∧ b ≤ 1048576) ∧ (vbytes k a b).1 = 2 :: (leb 3 (a + 1048576) ++ leb 3 (b + 1048576))) := by
  unfold vbytes at h ⊢
  by_cases hm : may k a b = true
  · rw [if_pos hm]
    by_cases h1 : k = 1
    · subst h1
      rw [if_pos rfl]
      have hb : b = 0 := by
        unfold may at hm; simpa using hm
      exact .inl ⟨rfl, hb, rfl⟩
    · obtain ⟨h2, h3⟩ := may_two hm h1
      rw [if_neg h1]
      exact .inr ⟨h2, h3, rfl⟩
  · rw [if_neg hm] at h; cases h
theorem vbytes_isB (k a b : Int) : isB (vbytes k a b).1 := by
  unfold vbytes
  split
  · split
    · exact isB_append.2 ⟨isB_cons.2 ⟨by omega, isB_nil⟩, leb_isB _ _⟩
    · exact isB_append.2 ⟨isB_append.2 ⟨isB_cons.2 ⟨by omega, isB_nil⟩, leb_isB _ _⟩, leb_isB _ _⟩
  · exact isB_nil
theorem piece_mid (a b c d : List Int) (n m : Int) (hn : n = a.length + b.length) (hm : m = c.length) : piece (a ++ (b ++ (c ++ d))) n m = c := by
  subst hn
  subst hm
  unfold piece
  rw [show ((a.length : Int) + b.length).toNat = (a ++ b).length by simp; omega, Int.toNat_natCast, ← List.append_assoc, List.drop_left, List.take_left]
theorem rd_mid (a c : List Int) (x : Int) : rd (a ++ x :: c) (a.length : Int) = x := by
  rw [rd_at (by simp), List.getElem_append_right (by omega)]; simp
theorem vread_put {k a b : Int} (ha : -9223372036854775808 ≤ a ∧ a ≤ 9223372036854775807) (h : (vbytes k a b).2 = 0) (x y : List Int) : vread (x ++ (vbytes k a b).1 ++ y) x.length = (k, a, b, (x.length : Int) + (vbytes k a b).1.length, 0) := by
  have l8 := leb_length 8
  have l3 := leb_length 3
  rcases vbytes_ok h with ⟨rfl, rfl, e⟩ | ⟨rfl, hr, e⟩
  · rw [e]
    have hp := piece_mid x [1] (leb 8 a) y ((x.length : Int) + 1) 8 (by simp) (by simp [l8])
    have hrd := rd_mid x (leb 8 a ++ y) 1
    have e1 : x ++ 1 :: leb 8 a ++ y = x ++ 1 :: (leb 8 a ++ y) := by simp
    have e2 : [1] ++ (leb 8 a ++ y) = 1 :: (leb 8 a ++ y) := rfl
    rw [e2] at hp
    have hL : (x ++ 1 :: (leb 8 a ++ y)).length = x.length + 9 + y.length := by simp [l8]; omega
    have hc : ((1 :: leb 8 a).length : Int) = 9 := by simp [l8]
    rw [e1, hc]
    unfold vread
    rw [if_neg (by omega), if_neg (by omega), hrd, if_pos rfl, if_neg (by omega), hp, val_leb8' a ha]
  · rw [e]
    have hp := piece_mid x [2] (leb 3 (a + 1048576)) (leb 3 (b + 1048576) ++ y) ((x.length : Int) + 1) 3 (by simp) (by simp [l3])
    have hq := piece_mid x (2 :: leb 3 (a + 1048576)) (leb 3 (b + 1048576)) y ((x.length : Int) + 4) 3 (by simp [l3] <;> omega) (by simp [l3])
    have hrd := rd_mid x (leb 3 (a + 1048576) ++ (leb 3 (b + 1048576) ++ y)) 2
    have e1 : x ++ 2 :: (leb 3 (a + 1048576) ++ leb 3 (b + 1048576)) ++ y = x ++ 2 :: (leb 3 (a + 1048576) ++ (leb 3 (b + 1048576) ++ y)) := by simp
    have e2 : [2] ++ (leb 3 (a + 1048576) ++ (leb 3 (b + 1048576) ++ y)) = 2 :: (leb 3 (a + 1048576) ++ (leb 3 (b + 1048576) ++ y)) := rfl
    have e3 : 2 :: leb 3 (a + 1048576) ++ (leb 3 (b + 1048576) ++ y) = 2 :: (leb 3 (a + 1048576) ++ (leb 3 (b + 1048576) ++ y)) := rfl
    rw [e2] at hp
    rw [e3] at hq
    have hL : (x ++ 2 :: (leb 3 (a + 1048576) ++ (leb 3 (b + 1048576) ++ y))).length = x.length + 7 + y.length := by simp [l3]; omega
    have hc : ((2 :: (leb 3 (a + 1048576) ++ leb 3 (b + 1048576))).length : Int) = 7 := by simp [l3]
    rw [e1, hc]
    unfold vread
    rw [if_neg (by omega), if_neg (by omega), hrd, if_neg (by omega), if_pos rfl, if_neg (by omega), hp, hq, val_leb3 _ (by omega), val_leb3 _ (by omega), show a + 1048576 - 1048576 = a by omega, show b + 1048576 - 1048576 = b by omega,
      if_pos (by unfold pm; rw [decide_eq_true_eq]; omega)]
theorem leb_wrap8 (x : Int) : leb 8 (wrap64 x) = leb 8 x := by
  simp only [leb, List.cons.injEq, and_true]
  unfold wrap64
  omega
theorem leb_pc {l : List Int} (hb : isB l) {a w : Int} (h0 : 0 ≤ a) (hw : 0 ≤ w) (h : a + w ≤ l.length) : leb w.toNat (val (piece l a w)) = piece l a w := by
  have hn := piece_length h0 hw h
  have := leb_val (piece_isB a w hb)
  rwa [hn] at this
theorem piece_join (l : List Int) (a m n : Int) (h0 : 0 ≤ a) (hm : 0 ≤ m) (hn : 0 ≤ n) : piece l a m ++ piece l (a + m) n = piece l a (m + n) := by
  unfold piece
  rw [show (a + m).toNat = a.toNat + m.toNat by omega, show (m + n).toNat = m.toNat + n.toNat by omega, List.take_add, List.drop_drop]
/-- What is read is a value that may be, with just those bytes; or nothing is told. -/
theorem vread_back {l : List Int} (hb : isB l) (a : Int) :
    ((vread l a).2.2.2.2 ≠ 0 ∧ (vread l a).1 = 0 ∧ (vread l a).2.1 = 0 ∧ (vread l a).2.2.1 = 0 ∧ (vread l a).2.2.2.1 = 0) ∨
    ((vread l a).2.2.2.2 = 0 ∧ may (vread l a).1 (vread l a).2.1 (vread l a).2.2.1 = true ∧ 0 ≤ a ∧ (vread l a).2.2.2.1 ≤ l.length ∧ a ≤ (vread l a).2.2.2.1 ∧
      vbytes (vread l a).1 (vread l a).2.1 (vread l a).2.2.1 = (piece l a ((vread l a).2.2.2.1 - a), 0)) := by
  unfold vread
  by_cases h1 : a < 0 ∨ a > (l.length : Int)
  · rw [if_pos h1]; exact .inl ⟨by simp, rfl, rfl, rfl, rfl⟩
  rw [if_neg h1]
  by_cases h2 : (l.length : Int) - a < 1
  · rw [if_pos h2]; exact .inl ⟨by simp, rfl, rfl, rfl, rfl⟩
  rw [if_neg h2]
  have hone := piece_one (l := l) (a := a) (by omega) (by omega)
  by_cases h3 : rd l a = 1
  · rw [if_pos h3]
    by_cases h4 : (l.length : Int) < a + 9
    · rw [if_pos h4]; exact .inl ⟨by simp, rfl, rfl, rfl, rfl⟩
    rw [if_neg h4]
    have hm : may 1 (wrap64 (val (piece l (a + 1) 8))) 0 = true := by unfold may; simp
    refine .inr ⟨rfl, hm, by omega, by dsimp only; omega, by dsimp only; omega, ?_⟩
    dsimp only
    unfold vbytes
    rw [if_pos hm, if_pos rfl, leb_wrap8]
    have hp := leb_pc hb (a := a + 1) (w := 8) (by omega) (by omega) (by omega)
    rw [show ((8 : Int).toNat) = 8 from rfl] at hp
    rw [hp, show a + 9 - a = 1 + 8 by omega, ← piece_join l a 1 8 (by omega) (by omega) (by omega), hone, h3]
  rw [if_neg h3]
  by_cases h4 : rd l a = 2
  · rw [if_pos h4]
    by_cases h5 : (l.length : Int) < a + 7
    · rw [if_pos h5]; exact .inl ⟨by simp, rfl, rfl, rfl, rfl⟩
    rw [if_neg h5]
    by_cases h6 : pm (val (piece l (a + 1) 3) - 1048576) (val (piece l (a + 4) 3) - 1048576) = true
    · rw [if_pos h6]
      have hm : may 2 (val (piece l (a + 1) 3) - 1048576) (val (piece l (a + 4) 3) - 1048576) = true := by unfold may; rw [h6]; rfl
      refine .inr ⟨rfl, hm, by omega, by dsimp only; omega, by dsimp only; omega, ?_⟩
      dsimp only
      unfold vbytes
      rw [if_pos hm, if_neg (by omega), Int.sub_add_cancel, Int.sub_add_cancel]
      have hp := leb_pc hb (a := a + 1) (w := 3) (by omega) (by omega) (by omega)
      have hq := leb_pc hb (a := a + 4) (w := 3) (by omega) (by omega) (by omega)
      rw [show ((3 : Int).toNat) = 3 from rfl] at hp hq
      rw [hp, hq, show a + 7 - a = 1 + 3 + 3 by omega, ← piece_join l a (1 + 3) 3 (by omega) (by omega) (by omega), ← piece_join l a 1 3 (by omega) (by omega) (by omega), hone, h4, show a + (1 + 3) = a + 4 by omega]
    · rw [if_neg h6]; exact .inl ⟨by simp, rfl, rfl, rfl, rfl⟩
  · rw [if_neg h4]; exact .inl ⟨by simp, rfl, rfl, rfl, rfl⟩
end Go.Proofs.YtjidhcepdjdceaaDoor.M
