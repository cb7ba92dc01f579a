/- Layer 1 in plain terms: awake, around, what was put is got. -/
import Derived.Test.YtjidhcepdjdceaaDoorE0
import Derived.Test.YtjidhcepdjdceaaDoorLOctet2
namespace Go.Proofs.YtjidhcepdjdceaaDoor.M
open Go.RowKit Go.Proofs.YtjidhcepdjdceaaDoor.E Go.Proofs.YtjidhcepdjdceaaDoorW.PrintWords Go.Proofs.YtjidhcepdjdceaaDoorW.PrintLast Go.Proofs.YtjidhcepdjdceaaDoorW.PrintMore

theorem piece_around (a b c : List Int) : piece (a ++ b ++ c) a.length b.length = b := by
  unfold piece
  rw [Int.toNat_natCast, Int.toNat_natCast, List.append_assoc, List.drop_left, List.take_left]
theorem put_ok {w n : Int} (h : (put w n).2 = 0) : (1 ≤ w ∧ w ≤ 8) ∧ 0 ≤ n ∧ (n ≤ 9223372036854775807 → n < 256 ^ w.toNat) ∧ put w n = (leb w.toNat n, 0) := by
  unfold put at h ⊢
  by_cases h1 : w < 1 ∨ w > 8
  · rw [if_pos h1] at h; cases h
  rw [if_neg h1] at h ⊢
  by_cases h2 : 0 ≤ n ∧ (w = 8 ∨ n < 256 ^ w.toNat)
  · rw [if_pos h2]
    refine ⟨by omega, h2.1, fun h3 => ?_, rfl⟩
    rcases h2.2 with h4 | h4
    · subst h4
      rw [show ((8 : Int).toNat) = 8 from rfl, show (256 : Int) ^ 8 = 18446744073709551616 from by decide]; omega
    · exact h4
  · rw [if_neg h2] at h; cases h
theorem get_put {a c : List Int} {w n : Int} (h : (put w n).2 = 0) (hn : n ≤ 9223372036854775807) : get (a ++ (put w n).1 ++ c) a.length w = (n, (a.length : Int) + w, 0) := by
  obtain ⟨hw, h0, hlt, e⟩ := put_ok h
  have hl := leb_length w.toNat n
  have hp := piece_around a (leb w.toNat n) c
  rw [hl, show ((w.toNat : Nat) : Int) = w by omega] at hp
  have hv := val_leb w.toNat n h0 (hlt hn)
  rw [e]
  unfold get
  have hL : (a ++ leb w.toNat n ++ c).length = a.length + w.toNat + c.length := by simp [hl]; omega
  dsimp only
  rw [if_neg (by omega), if_neg (by omega), hp, hv, if_neg (by omega)]
theorem get_two (a c : List Int) (m : Nat) (hm : m ≤ 65535) : get (a ++ leb 2 m ++ c) a.length 2 = ((m : Int), (a.length : Int) + 2, 0) := by
  have e : put 2 (m : Int) = (leb 2 m, 0) := by
    unfold put
    rw [if_neg (by omega), if_pos ⟨by omega, .inr (by rw [show ((2 : Int).toNat) = 2 from rfl, show (256 : Int) ^ 2 = 65536 from by decide]; omega)⟩]; rfl
  have := get_put (a := a) (c := c) (w := 2) (n := m) (by rw [e]) (by omega)
  rw [e] at this
  exact this
theorem getRow_put (a c r : List Int) (h : r.length ≤ 65535) : getRow (a ++ (row r).1 ++ c) a.length = (r, (a.length : Int) + 2 + r.length, 0) := by
  have e : row r = (leb 2 r.length ++ r, 0) := by unfold row; rw [if_neg (by omega)]
  rw [e]
  have hg := get_two a (r ++ c) r.length h
  have hp := piece_around (a ++ leb 2 r.length) r c
  have hl : (a ++ leb 2 (r.length : Int)).length = a.length + 2 := by simp [leb_length]
  rw [hl, show ((a.length + 2 : Nat) : Int) = (a.length : Int) + 2 by omega] at hp
  have hL : (a ++ leb 2 (r.length : Int) ++ r ++ c).length = a.length + 2 + r.length + c.length := by simp [leb_length]; omega
  unfold getRow
  simp only [show a ++ (leb 2 (r.length : Int) ++ r) ++ c = a ++ leb 2 r.length ++ (r ++ c) by simp, hg]
  simp only [show a ++ leb 2 (r.length : Int) ++ (r ++ c) = a ++ leb 2 r.length ++ r ++ c by simp]
  rw [if_pos trivial, if_neg (by omega), hp]
end Go.Proofs.YtjidhcepdjdceaaDoor.M
