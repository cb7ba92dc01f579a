/- Layer 3 in plain terms: reading a value. -/
import Derived.Test.YtjidhcepdjdceaaDoorE2
import Derived.Test.YtjidhcepdjdceaaDoorE5
import Derived.Test.YtjidhcepdjdceaaDoorLOctet2
import Derived.Test.YtjidhcepdjdceaaDoorLValue
namespace Go.Proofs.YtjidhcepdjdceaaDoor.M
open Go.RowKit Go.Proofs.YtjidhcepdjdceaaDoor.E Go.Proofs.YtjidhcepdjdceaaDoorW.PrintWords Go.Proofs.YtjidhcepdjdceaaDoorW.PrintLast Go.Proofs.YtjidhcepdjdceaaDoorW.PrintMore

/-- Read: P3.4. -/
def vread (l : List Int) (a : Int) : Int × Int × Int × Int × Int :=
  if a < 0 ∨ a > (l.length : Int) then (0, 0, 0, 0, 2) else if (l.length : Int) - a < 1 then (0, 0, 0, 0, 10)
  else if rd l a = 1 then (if (l.length : Int) < a + 9 then (0, 0, 0, 0, 10) else (1, wrap64 (val (piece l (a + 1) 8)), 0, a + 9, 0))
  else if rd l a = 2 then (if (l.length : Int) < a + 7 then (0, 0, 0, 0, 10)
    else if pm (val (piece l (a + 1) 3) - 1048576) (val (piece l (a + 4) 3) - 1048576) = true then (2, val (piece l (a + 1) 3) - 1048576, val (piece l (a + 4) 3) - 1048576, a + 7, 0) else (0, 0, 0, 0, 30))
  else (0, 0, 0, 0, 30)
theorem piece_one {l : List Int} {a : Int} (h0 : 0 ≤ a) (h : a < l.length) : piece l a 1 = [rd l a] := by
  obtain ⟨n, rfl⟩ := Int.eq_ofNat_of_zero_le h0
  unfold piece
  rw [Int.toNat_natCast, rd_at (by omega), show ((1 : Int).toNat) = 1 from rfl, List.drop_eq_getElem_cons (by omega)]; rfl
theorem get_one {l : List Int} (hb : isB l) (a : Int) : get l a 1 = if a < 0 ∨ a > (l.length : Int) then (0, 0, 2) else if (l.length : Int) - a < 1 then (0, 0, 10) else (rd l a, a + 1, 0) := by
  unfold get
  by_cases h : a < 0 ∨ a > (l.length : Int)
  · rw [if_pos (.inr (.inr h)), if_pos h]
  rw [if_neg (by omega), if_neg h]
  by_cases h2 : (l.length : Int) - a < 1
  · rw [if_pos h2, if_pos h2]
  have hq := isB_rd hb a
  have e : val [rd l a] = rd l a := by simp [val]
  rw [if_neg h2, if_neg h2, piece_one (by omega) (by omega), e, if_neg (by omega)]
theorem get_three {l : List Int} (hb : isB l) {a : Int} (h0 : 0 ≤ a) (h : a + 3 ≤ l.length) : get l a 3 = (val (piece l a 3), a + 3, 0) ∧ 0 ≤ val (piece l a 3) ∧ val (piece l a 3) < 16777216 := by
  have hn := piece_length (l := l) (a := a) (n := 3) (by omega) (by omega) (by omega)
  have hv := val_bound (piece_isB a 3 hb)
  rw [hn, show ((3 : Int).toNat) = 3 from rfl, show (256 : Int) ^ 3 = 16777216 from by decide] at hv
  unfold get
  rw [if_neg (by omega), if_neg (by omega), if_neg (by omega)]
  exact ⟨rfl, hv⟩
theorem vread_f (l : List Int) (hb : isB l) (hl : l.length ≤ 140737488355327) (a : Int) (k : Nat) (hk : 20 ≤ k) : value_Read.f k l a = some (vread l a) := by
  obtain ⟨k, rfl⟩ : ∃ m, k = m + 1 := ⟨k - 1, by omega⟩
  unfold value_Read.f vread
  rw [get_f l hb (by omega) a 1 _ (by omega), Option.bind_some, get_one hb]
  by_cases h1 : a < 0 ∨ a > (l.length : Int)
  · rw [if_pos h1, if_pos h1]; rfl
  rw [if_neg h1, if_neg h1]
  by_cases h2 : (l.length : Int) - a < 1
  · rw [if_pos h2, if_pos h2]; rfl
  rw [if_neg h2, if_neg h2]
  have hq := isB_rd hb a
  have gl : (gl0.length : Int) = 3 := rfl
  dsimp only
  rw [if_pos rfl]
  by_cases h3 : rd l a ≥ 3
  · rw [if_pos h3, if_neg (by omega), if_neg (by omega)]
    simp [value_Read.j0]
  rw [if_neg h3, if_pos (by omega), if_pos (by omega)]
  by_cases h4 : rd l a = 1
  · have e : rd gl0 1 = 8 := rfl
    rw [h4, if_pos rfl, e]
    simp only [value_Read.j0]
    rw [if_neg (by decide), if_pos (by omega), if_pos (by omega), e, wrap64_id (x := a + 1 + 8) (by omega) (by omega)]
    by_cases h5 : (l.length : Int) < a + 9
    · rw [if_pos (by omega), if_pos h5]
    · rw [if_neg (by omega), if_neg h5, if_pos (by decide), getSigned_f l hb (by omega) _ _ (by omega), Option.bind_some]
      unfold getSigned value_Int.f
      rw [if_neg (by omega), if_neg (by omega), Option.bind_some, show a + 1 + 8 = a + 9 by omega]
  rw [if_neg h4]
  by_cases h5 : rd l a = 2
  · have e : rd gl0 2 = 6 := rfl
    rw [h5, if_pos rfl, e]
    simp only [value_Read.j0]
    rw [if_neg (by decide), if_pos (by omega), if_pos (by omega), e, wrap64_id (x := a + 1 + 6) (by omega) (by omega)]
    by_cases h6 : (l.length : Int) < a + 7
    · rw [if_pos (by omega), if_pos h6]
    · obtain ⟨g1, b1, c1⟩ := get_three hb (a := a + 1) (by omega) (by omega)
      obtain ⟨g2, b2, c2⟩ := get_three hb (a := a + 4) (by omega) (by omega)
      rw [if_neg (by omega), if_neg h6, if_neg (by decide), get_f l hb (by omega) _ _ _ (by omega), Option.bind_some, g1]
      dsimp only
      rw [show a + 1 + 3 = a + 4 by omega, get_f l hb (by omega) _ _ _ (by omega), Option.bind_some, g2]
      dsimp only
      rw [wrap64_id (by omega) (by omega), wrap64_id (by omega) (by omega), pair_f, Option.bind_some, show a + 1 + 6 = a + 7 by omega]
      by_cases h7 : pm (val (piece l (a + 1) 3) - 1048576) (val (piece l (a + 4) 3) - 1048576) = true
      · rw [if_pos h7, if_pos rfl, if_pos h7]
      · rw [if_neg h7, if_neg (by simp), if_neg h7]
  · have h6 : rd l a = 0 := by omega
    have e : rd gl0 0 = 0 := rfl
    rw [h6, if_neg (by omega), e]
    simp [value_Read.j0]
end Go.Proofs.YtjidhcepdjdceaaDoor.M
