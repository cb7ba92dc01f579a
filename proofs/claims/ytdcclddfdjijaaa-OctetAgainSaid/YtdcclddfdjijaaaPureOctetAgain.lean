/- OctetAgain: what is got, put again, is those bytes. -/
import Derived.Test.YtdcclddfdjijaaaP9
import Derived.Test.YtdcclddfdjijaaaLOctet3
namespace Go.Proofs.Ytdcclddfdjijaaa.Pure
open Go.RowKit Go.Proofs.Ytdcclddfdjijaaa.P Go.Proofs.Ytdcclddfdjijaaa.M Go.Proofs.YtdcclddfdjijaaaW.PrintWords Go.Proofs.YtdcclddfdjijaaaW.PrintLast Go.Proofs.YtdcclddfdjijaaaW.PrintMore

theorem leb_piece {l : List Int} (hb : isB l) {a w : Int} (h0 : 0 ≤ a) (hw : 0 ≤ w) (h : a + w ≤ l.length) : leb w.toNat (val (piece l a w)) = piece l a w := by
  have hn := piece_length h0 hw h
  have := leb_val (piece_isB a w hb)
  rwa [hn] at this
theorem put_get {l : List Int} (hb : isB l) {a w : Int} (h : (M.get l a w).2.2 = 0) : put w (M.get l a w).1 = (piece l a w, 0) := by
  obtain ⟨hw, h0, h1, e1, e2, h2, h3, h4⟩ := get_ok hb h
  rw [e1]
  unfold put
  rw [if_neg (by omega), if_pos ⟨h2, .inr h3⟩, leb_piece hb h0 (by omega) h1]
theorem get_bad {l : List Int} {a w : Int} (h : (M.get l a w).2.2 ≠ 0) : (M.get l a w).1 = 0 ∧ (M.get l a w).2.1 = 0 := by
  unfold M.get at h ⊢
  split
  · exact ⟨rfl, rfl⟩
  split
  · exact ⟨rfl, rfl⟩
  split
  · exact ⟨rfl, rfl⟩
  · rename_i h1 h2 h3
    rw [if_neg h1, if_neg h2, if_neg h3] at h
    exact absurd rfl h
theorem leb_wrap (x : Int) : leb 8 (wrap64 x) = leb 8 x := by
  simp only [leb, List.cons.injEq, and_true]
  unfold wrap64
  omega
theorem piece_add (l : List Int) (a m n : Int) (h0 : 0 ≤ a) (hm : 0 ≤ m) (hn : 0 ≤ n) : piece l a m ++ piece l (a + m) n = piece l a (m + n) := by
  unfold piece
  rw [show (a + m).toNat = a.toNat + m.toNat by omega, show (m + n).toNat = m.toNat + n.toNat by omega, List.take_add, List.drop_drop]
theorem OctetAgain_j1 (k : Nat) (hk : 30 ≤ k) (l : List Int) (hb : isB l) (hl : l.length ≤ 2000) (a : Int) : capstanlaw01_OctetAgain.j1 k l a false = some true := by
  obtain ⟨k, rfl⟩ : ∃ d, k = d + 1 := ⟨k - 1, by omega⟩
  simp only [capstanlaw01_OctetAgain.j1]
  rw [if_neg (by decide), getRow_f l hb (by omega) a k (by omega), Option.bind_some]
  unfold getRow
  dsimp only
  by_cases h : (M.get l a 2).2.2 = 0
  · obtain ⟨_, h0, h1, e1, e2, h2, h3, _⟩ := get_ok hb h
    rw [show ((2 : Int).toNat) = 2 from rfl, show (256 : Int) ^ 2 = 65536 from by decide] at h3
    rw [if_pos h, e1, e2]
    by_cases h4 : (l.length : Int) - (a + 2) < val (piece l a 2)
    · rw [if_pos h4]; rfl
    · rw [if_neg h4]
      have hn := piece_length (l := l) (a := a + 2) (n := val (piece l a 2)) (by omega) (by omega) (by omega)
      have hp := leb_piece hb (a := a) (w := 2) h0 (by omega) (by omega)
      rw [show ((2 : Int).toNat) = 2 from rfl] at hp
      have er : row (piece l (a + 2) (val (piece l a 2))) = (piece l a (2 + val (piece l a 2)), 0) := by
        unfold row
        rw [if_neg (by omega), hn, show (((val (piece l a 2)).toNat : Nat) : Int) = val (piece l a 2) by omega, hp, piece_add l a 2 _ h0 (by omega) h2]
      have hn2 := piece_length (l := l) (a := a) (n := 2 + val (piece l a 2)) (by omega) (by omega) (by omega)
      rw [if_pos rfl, row_f _ k (by omega), Option.bind_some, er]
      dsimp only
      rw [if_pos rfl, if_pos (by omega), if_pos (by omega), if_pos (by omega), hn2, if_pos (by rw [wrap64_id (by omega) (by omega)]; omega), if_pos (by omega), if_pos (by omega),
        show a + 2 + val (piece l a 2) = a + (2 + val (piece l a 2)) by omega, td_piece _ _ _ h0 (by omega), beq_self_eq_true]
  · rw [if_neg h]
    dsimp only
    rw [if_neg h]; rfl
theorem OctetAgain_j0 (k : Nat) (hk : 40 ≤ k) (l : List Int) (hb : isB l) (hl : l.length ≤ 2000) (a : Int) : capstanlaw01_OctetAgain.j0 k l a = some true := by
  obtain ⟨k, rfl⟩ : ∃ d, k = d + 1 := ⟨k - 1, by omega⟩
  have hj := OctetAgain_j1 k (by omega) l hb hl a
  simp only [capstanlaw01_OctetAgain.j0]
  rw [getSigned_f l hb (by omega) a k (by omega), Option.bind_some]
  unfold getSigned
  by_cases h3 : a < 0 ∨ a > (l.length : Int)
  · rw [if_pos h3]; exact hj
  rw [if_neg h3]
  by_cases h4 : (l.length : Int) - a < 8
  · rw [if_pos h4]; exact hj
  rw [if_neg h4]
  have hp := leb_piece hb (a := a) (w := 8) (by omega) (by omega) (by omega)
  rw [show ((8 : Int).toNat) = 8 from rfl] at hp
  dsimp only
  rw [if_pos rfl, if_neg (by omega), if_neg (by omega), if_pos (by rw [wrap64_id (by omega) (by omega)]), if_neg (by omega), signed_f _ k (by omega), Option.bind_some, if_pos (by omega), if_pos (by omega), if_pos (by omega),
    leb_wrap, hp, td_piece _ _ _ (by omega) (by omega)]
  simpa using hj
theorem OctetAgain : capstanlaw01_OctetAgain.Pure := by
  intro l a w hm _ wl w1 w2
  have hb := isB_of wl
  have h1 := wf_i64 w1
  refine ⟨60, ?_⟩
  unfold capstanlaw01_OctetAgain.f
  rw [awake_f _ (by omega), Option.bind_some, if_pos rfl]
  by_cases hl : (l.length : Int) > 2000
  · rw [if_pos hl]
  rw [if_neg hl, get_f l hb (by omega) a w _ (by omega), Option.bind_some]
  have hj := OctetAgain_j0 60 (by omega) l hb (by omega) a
  by_cases h : (M.get l a w).2.2 = 0
  · obtain ⟨hw, h0, h2, e1, e2, h3, h4, h5⟩ := get_ok hb h
    rw [if_pos h, put_f w _ _ (by omega), Option.bind_some, put_get hb h, if_pos rfl, if_neg (by omega), if_neg (by omega), e2, if_pos (by rw [wrap64_id (by omega) (by omega)]), if_neg (by omega), if_pos (by omega), if_pos (by omega), if_pos (by omega),
      td_piece _ _ _ h0 (by omega), if_pos rfl]
    exact hj
  · obtain ⟨e1, e2⟩ := get_bad h
    rw [if_neg h, if_pos e1, if_pos e2]
    exact hj
end Go.Proofs.Ytdcclddfdjijaaa.Pure
