/- ValueBack: what has bytes is read from them, wherever they stand; what is read has just those bytes. -/
import Derived.Test.YtdcclddfdjijaaaDoorP7
import Derived.Test.YtdcclddfdjijaaaDoorLValue2
import Derived.Test.YtdcclddfdjijaaaDoorLValue3
import Derived.Test.YtdcclddfdjijaaaDoorLStr
import Derived.Test.YtdcclddfdjijaaaDoorPureValueOne
namespace Go.Proofs.YtdcclddfdjijaaaDoor.Pure
open Go.RowKit Go.Proofs.YtdcclddfdjijaaaDoor.P Go.Proofs.YtdcclddfdjijaaaDoor.M Go.Proofs.YtdcclddfdjijaaaDoorW.PrintWords Go.Proofs.YtdcclddfdjijaaaDoorW.PrintLast Go.Proofs.YtdcclddfdjijaaaDoorW.PrintMore

theorem piece_mid (a b c d : List Int) (n m : Int) (hn : n = a.length + b.length) (hm : m = c.length) : piece (a ++ (b ++ (c ++ d))) n m = c := by
  subst hn
  subst hm
  unfold piece
  rw [show ((a.length : Int) + b.length).toNat = (a ++ b).length by simp; omega, Int.toNat_natCast, ← List.append_assoc, List.drop_left, List.take_left]
theorem rd_mid (a c : List Int) (x : Int) : rd (a ++ x :: c) (a.length : Int) = x := by
  rw [rd_at (by simp), List.getElem_append_right (by omega)]; simp
theorem vread_put {k a b : Int} (ha : -9223372036854775808 ≤ a ∧ a ≤ 9223372036854775807) (h : (vbytes k a b).2 = 0) (x y : List Int) : vread (x ++ (vbytes k a b).1 ++ y) x.length = (k, a, b, (x.length : Int) + (vbytes k a b).1.length, 0) := by
  have l8 := leb_length 8
  have l3 := leb_length 3
  rcases vbytes_ok h with ⟨rfl, rfl, e⟩ | ⟨rfl, hr, e⟩
  · rw [e]
    have hp := piece_mid x [1] (leb 8 a) y ((x.length : Int) + 1) 8 (by simp) (by simp [l8])
    have hrd := rd_mid x (leb 8 a ++ y) 1
    have e1 : x ++ 1 :: leb 8 a ++ y = x ++ 1 :: (leb 8 a ++ y) := by simp
    have e2 : [1] ++ (leb 8 a ++ y) = 1 :: (leb 8 a ++ y) := rfl
    rw [e2] at hp
    have hL : (x ++ 1 :: (leb 8 a ++ y)).length = x.length + 9 + y.length := by simp [l8]; omega
    have hc : ((1 :: leb 8 a).length : Int) = 9 := by simp [l8]
    rw [e1, hc]
    unfold vread
    rw [if_neg (by omega), if_neg (by omega), hrd, if_pos rfl, if_neg (by omega), hp, val_leb8' a ha]
  · rw [e]
    have hp := piece_mid x [2] (leb 3 (a + 1048576)) (leb 3 (b + 1048576) ++ y) ((x.length : Int) + 1) 3 (by simp) (by simp [l3])
    have hq := piece_mid x (2 :: leb 3 (a + 1048576)) (leb 3 (b + 1048576)) y ((x.length : Int) + 4) 3 (by simp [l3] <;> omega) (by simp [l3])
    have hrd := rd_mid x (leb 3 (a + 1048576) ++ (leb 3 (b + 1048576) ++ y)) 2
    have e1 : x ++ 2 :: (leb 3 (a + 1048576) ++ leb 3 (b + 1048576)) ++ y = x ++ 2 :: (leb 3 (a + 1048576) ++ (leb 3 (b + 1048576) ++ y)) := by simp
    have e2 : [2] ++ (leb 3 (a + 1048576) ++ (leb 3 (b + 1048576) ++ y)) = 2 :: (leb 3 (a + 1048576) ++ (leb 3 (b + 1048576) ++ y)) := rfl
    have e3 : 2 :: leb 3 (a + 1048576) ++ (leb 3 (b + 1048576) ++ y) = 2 :: (leb 3 (a + 1048576) ++ (leb 3 (b + 1048576) ++ y)) := rfl
    rw [e2] at hp
    rw [e3] at hq
    have hL : (x ++ 2 :: (leb 3 (a + 1048576) ++ (leb 3 (b + 1048576) ++ y))).length = x.length + 7 + y.length := by simp [l3]; omega
    have hc : ((2 :: (leb 3 (a + 1048576) ++ leb 3 (b + 1048576))).length : Int) = 7 := by simp [l3]
    rw [e1, hc]
    unfold vread
    rw [if_neg (by omega), if_neg (by omega), hrd, if_neg (by omega), if_pos rfl, if_neg (by omega), hp, hq, val_leb3 _ (by omega), val_leb3 _ (by omega), show a + 1048576 - 1048576 = a by omega, show b + 1048576 - 1048576 = b by omega,
      if_pos (by unfold pm; rw [decide_eq_true_eq]; omega)]
theorem vread_short {k a b : Int} (h : (vbytes k a b).2 = 0) : (vread ((vbytes k a b).1.take ((vbytes k a b).1.length - 1)) 0).2.2.2.2 = 10 := by
  have l8 := leb_length 8
  have l3 := leb_length 3
  rcases vbytes_ok h with ⟨rfl, rfl, e⟩ | ⟨rfl, hr, e⟩
  · rw [e]
    have e1 : (1 :: leb 8 a).take ((1 :: leb 8 a).length - 1) = 1 :: (leb 8 a).take 7 := by simp [l8]
    have hL : (1 :: (leb 8 a).take 7).length = 8 := by simp [l8]
    rw [e1]
    unfold vread
    rw [if_neg (by omega), if_neg (by omega), show rd (1 :: (leb 8 a).take 7) 0 = 1 from rfl, if_pos rfl, if_pos (by omega)]
  · rw [e]
    have e1 : (2 :: (leb 3 (a + 1048576) ++ leb 3 (b + 1048576))).take ((2 :: (leb 3 (a + 1048576) ++ leb 3 (b + 1048576))).length - 1) = 2 :: (leb 3 (a + 1048576) ++ leb 3 (b + 1048576)).take 5 := by simp [l3]
    have hL : (2 :: (leb 3 (a + 1048576) ++ leb 3 (b + 1048576)).take 5).length = 6 := by simp [l3]
    rw [e1]
    unfold vread
    rw [if_neg (by omega), if_neg (by omega), show rd (2 :: (leb 3 (a + 1048576) ++ leb 3 (b + 1048576)).take 5) 0 = 2 from rfl, if_neg (by omega), if_pos rfl, if_pos (by omega)]
theorem leb_wrap8 (x : Int) : leb 8 (wrap64 x) = leb 8 x := by
  simp only [leb, List.cons.injEq, and_true]
  unfold wrap64
  omega
theorem leb_pc {l : List Int} (hb : isB l) {a w : Int} (h0 : 0 ≤ a) (hw : 0 ≤ w) (h : a + w ≤ l.length) : leb w.toNat (val (piece l a w)) = piece l a w := by
  have hn := piece_length h0 hw h
  have := leb_val (piece_isB a w hb)
  rwa [hn] at this
theorem piece_join (l : List Int) (a m n : Int) (h0 : 0 ≤ a) (hm : 0 ≤ m) (hn : 0 ≤ n) : piece l a m ++ piece l (a + m) n = piece l a (m + n) := by
  unfold piece
  rw [show (a + m).toNat = a.toNat + m.toNat by omega, show (m + n).toNat = m.toNat + n.toNat by omega, List.take_add, List.drop_drop]
/-- What is read is a value that may be, with just those bytes; or nothing is told. -/
theorem vread_back {l : List Int} (hb : isB l) (a : Int) :
    ((vread l a).2.2.2.2 ≠ 0 ∧ (vread l a).1 = 0 ∧ (vread l a).2.1 = 0 ∧ (vread l a).2.2.1 = 0 ∧ (vread l a).2.2.2.1 = 0) ∨
    ((vread l a).2.2.2.2 = 0 ∧ may (vread l a).1 (vread l a).2.1 (vread l a).2.2.1 = true ∧ 0 ≤ a ∧ (vread l a).2.2.2.1 ≤ l.length ∧ a ≤ (vread l a).2.2.2.1 ∧
      vbytes (vread l a).1 (vread l a).2.1 (vread l a).2.2.1 = (piece l a ((vread l a).2.2.2.1 - a), 0)) := by
  unfold vread
  by_cases h1 : a < 0 ∨ a > (l.length : Int)
  · rw [if_pos h1]; exact .inl ⟨by simp, rfl, rfl, rfl, rfl⟩
  rw [if_neg h1]
  by_cases h2 : (l.length : Int) - a < 1
  · rw [if_pos h2]; exact .inl ⟨by simp, rfl, rfl, rfl, rfl⟩
  rw [if_neg h2]
  have hone := piece_one (l := l) (a := a) (by omega) (by omega)
  by_cases h3 : rd l a = 1
  · rw [if_pos h3]
    by_cases h4 : (l.length : Int) < a + 9
    · rw [if_pos h4]; exact .inl ⟨by simp, rfl, rfl, rfl, rfl⟩
    rw [if_neg h4]
    have hm : may 1 (wrap64 (val (piece l (a + 1) 8))) 0 = true := by unfold may; simp
    refine .inr ⟨rfl, hm, by omega, by dsimp only; omega, by dsimp only; omega, ?_⟩
    dsimp only
    unfold vbytes
    rw [if_pos hm, if_pos rfl, leb_wrap8]
    have hp := leb_pc hb (a := a + 1) (w := 8) (by omega) (by omega) (by omega)
    rw [show ((8 : Int).toNat) = 8 from rfl] at hp
    rw [hp, show a + 9 - a = 1 + 8 by omega, ← piece_join l a 1 8 (by omega) (by omega) (by omega), hone, h3]
  rw [if_neg h3]
  by_cases h4 : rd l a = 2
  · rw [if_pos h4]
    by_cases h5 : (l.length : Int) < a + 7
    · rw [if_pos h5]; exact .inl ⟨by simp, rfl, rfl, rfl, rfl⟩
    rw [if_neg h5]
    by_cases h6 : pm (val (piece l (a + 1) 3) - 1048576) (val (piece l (a + 4) 3) - 1048576) = true
    · rw [if_pos h6]
      have hm : may 2 (val (piece l (a + 1) 3) - 1048576) (val (piece l (a + 4) 3) - 1048576) = true := by unfold may; rw [h6]; rfl
      refine .inr ⟨rfl, hm, by omega, by dsimp only; omega, by dsimp only; omega, ?_⟩
      dsimp only
      unfold vbytes
      rw [if_pos hm, if_neg (by omega), Int.sub_add_cancel, Int.sub_add_cancel]
      have hp := leb_pc hb (a := a + 1) (w := 3) (by omega) (by omega) (by omega)
      have hq := leb_pc hb (a := a + 4) (w := 3) (by omega) (by omega) (by omega)
      rw [show ((3 : Int).toNat) = 3 from rfl] at hp hq
      rw [hp, hq, show a + 7 - a = 1 + 3 + 3 by omega, ← piece_join l a (1 + 3) 3 (by omega) (by omega) (by omega), ← piece_join l a 1 3 (by omega) (by omega) (by omega), hone, h4, show a + (1 + 3) = a + 4 by omega]
    · rw [if_neg h6]; exact .inl ⟨by simp, rfl, rfl, rfl, rfl⟩
  · rw [if_neg h4]; exact .inl ⟨by simp, rfl, rfl, rfl, rfl⟩
theorem ValueBack_j3 (k : Nat) (hk : 30 ≤ k) (l : List Int) (hb : isB l) (hl : l.length ≤ 300) (a : Int) : capstanlaw03_ValueBack.j3 k l a = some true := by
  obtain ⟨k, rfl⟩ : ∃ d, k = d + 1 := ⟨k - 1, by omega⟩
  simp only [capstanlaw03_ValueBack.j3]
  rw [vread_f l hb (by omega) a k (by omega), Option.bind_some]
  rcases vread_back hb a with ⟨h0, h1, h2, h3, h4⟩ | ⟨h0, hm, h1, h2, h3, h4⟩
  · rw [if_neg h0, if_pos h4, h1, h2, h3]; rfl
  · have hn := piece_length (l := l) (a := a) (n := (vread l a).2.2.2.1 - a) h1 (by omega) (by omega)
    have htd := td_piece l a ((vread l a).2.2.2.1 - a) h1 (by omega)
    rw [show a + ((vread l a).2.2.2.1 - a) = (vread l a).2.2.2.1 by omega] at htd
    rw [if_pos h0, vbytes_f _ _ _ k (by omega), Option.bind_some, h4, if_pos rfl, may_f, Option.bind_some, if_pos hm, if_pos h1, if_pos (by omega), if_pos h2]
    dsimp only
    rw [hn, if_pos (by rw [wrap64_id (by omega) (by omega)]; omega), if_pos h1, if_pos h3, htd, beq_self_eq_true]
theorem ValueBack_j1 (k : Nat) (hk : 40 ≤ k) (x y : List Int) (hx : isB x) (hy : isB y) (lx : x.length ≤ 300) (ly : y.length ≤ 300) (at_ a b c : Int) (hbb : -9223372036854775808 ≤ b ∧ b ≤ 9223372036854775807) :
    capstanlaw03_ValueBack.j1 k x y at_ (vbytes a b c).1 (vbytes a b c).2 false a b c = some true := by
  obtain ⟨k, rfl⟩ : ∃ d, k = d + 2 := ⟨k - 2, by omega⟩
  simp only [capstanlaw03_ValueBack.j1]
  rw [if_neg (by decide)]
  by_cases h : (vbytes a b c).2 = 0
  · have hlen : (vbytes a b c).1.length ≤ 9 ∧ 1 ≤ (vbytes a b c).1.length := by
      rcases vbytes_ok h with ⟨_, _, e⟩ | ⟨_, _, e⟩ <;> rw [e] <;> simp [leb_length]
    have hmay : may a b c = true := by
      unfold vbytes at h
      by_cases hm : may a b c = true
      · exact hm
      · rw [if_neg hm] at h; cases h
    have hin : inside a b c = true := by unfold inside; rw [hmay]; rfl
    have hBs := isB_append.2 ⟨isB_append.2 ⟨hx, vbytes_isB a b c⟩, hy⟩
    rw [if_pos h, Option.bind_some, if_pos (by simp; omega), Option.bind_some, if_pos (by simp; omega), Option.bind_some, if_pos (by simp; omega), List.nil_append, vread_f _ hBs (by rw [List.length_append, List.length_append]; omega) _ _ (by omega), Option.bind_some, vread_put hbb h]
    dsimp only
    rw [if_neg (by simp), if_pos (by rw [wrap64_id (by omega) (by omega)]), if_pos rfl, inside_f, Option.bind_some, if_pos hin]
    simp only [capstanlaw03_ValueBack.j2]
    rw [if_neg (by rw [beq_iff_eq]; omega), wrap64_id (x := ((vbytes a b c).1.length : Int) - 1) (by omega) (by omega), if_pos (by omega), if_pos (by omega), show (((vbytes a b c).1.length : Int) - 1).toNat = (vbytes a b c).1.length - 1 by omega,
      vread_f _ (isB_take _ (vbytes_isB a b c)) (by rw [List.length_take]; omega) _ _ (by omega), Option.bind_some, if_pos (vread_short h)]
    exact ValueBack_j3 k (by omega) y hy ly at_
  · rw [if_neg h]
    exact ValueBack_j3 (k + 1) (by omega) y hy ly at_
theorem ValueBack : capstanlaw03_ValueBack.Pure := by
  intro a b c x y at_ w mx _ wx my _ wy wa
  have hbb := wf_i64 w.2.1
  refine ⟨60, ?_⟩
  unfold capstanlaw03_ValueBack.f
  rw [vawake1_f _ (by omega), Option.bind_some, if_pos rfl]
  by_cases lx : (x.length : Int) > 300
  · rw [if_pos lx]; simp [capstanlaw03_ValueBack.j0]
  rw [if_neg lx]
  by_cases ly : (y.length : Int) > 300
  · rw [decide_eq_true ly]; simp [capstanlaw03_ValueBack.j0]
  rw [decide_eq_false ly]
  have hj := ValueBack_j1 59 (by omega) x y (isB_of wx) (isB_of wy) (by omega) (by omega) at_ a b c hbb
  simp only [capstanlaw03_ValueBack.j0]
  rw [if_neg (by decide), vbytes_f _ _ _ _ (by omega), Option.bind_some, may_f, Option.bind_some]
  by_cases hm : may a b c = true
  · have h : (vbytes a b c).2 = 0 := by
      unfold vbytes; rw [if_pos hm]; split <;> rfl
    rw [if_neg (by rw [h, hm]; decide), if_pos h]
    exact hj
  · have h : vbytes a b c = ([], 30) := by unfold vbytes; rw [if_neg hm]
    have hm2 : may a b c = false := by simpa using hm
    rw [h] at hj ⊢
    rw [if_neg (by rw [hm2]; decide), if_neg (by decide), if_pos rfl]
    exact hj
end Go.Proofs.YtdcclddfdjijaaaDoor.Pure
