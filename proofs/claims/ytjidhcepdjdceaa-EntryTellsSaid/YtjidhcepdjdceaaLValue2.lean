/- Layer 3 in plain terms: reading a value. -/
import Derived.Test.YtjidhcepdjdceaaE0
import Derived.Test.YtjidhcepdjdceaaLOctet2
import Derived.Test.YtjidhcepdjdceaaLValue
namespace Go.Proofs.Ytjidhcepdjdceaa.M
open Go.RowKit Go.Proofs.Ytjidhcepdjdceaa.E Go.Proofs.YtjidhcepdjdceaaW.PrintWords Go.Proofs.YtjidhcepdjdceaaW.PrintLast Go.Proofs.YtjidhcepdjdceaaW.PrintMore

/-- Read: P3.4. -/
def vread (l : List Int) (a : Int) : Int × Int × Int × Int × Int :=
  if a < 0 ∨ a > (l.length : Int) then (0, 0, 0, 0, 2) else if (l.length : Int) - a < 1 then (0, 0, 0, 0, 10)
  else if rd l a = 1 then (if (l.length : Int) < a + 9 then (0, 0, 0, 0, 10) else (1, wrap64 (val (piece l (a + 1) 8)), 0, a + 9, 0))
  else if rd l a = 2 then (if (l.length : Int) < a + 7 then (0, 0, 0, 0, 10)
    else if pm (val (piece l (a + 1) 3) - 1048576) (val (piece l (a + 4) 3) - 1048576) = true then (2, val (piece l (a + 1) 3) - 1048576, val (piece l (a + 4) 3) - 1048576, a + 7, 0) else (0, 0, 0, 0, 30))
  else (0, 0, 0, 0, 30)
theorem piece_one {l : List Int} {a : Int} (h0 : 0 ≤ a) (h : a < l.length) : piece l a 1 = [rd l a] := by
  obtain ⟨n, rfl⟩ := Int.eq_ofNat_of_zero_le h0
  unfold piece
  rw [Int.toNat_natCast, rd_at (by omega), show ((1 : Int).toNat) = 1 from rfl, List.drop_eq_getElem_cons (by omega)]; rfl
theorem get_one {l : List Int} (hb : isB l) (a : Int) : get l a 1 = if a < 0 ∨ a > (l.length : Int) then (0, 0, 2) else if (l.length : Int) - a < 1 then (0, 0, 10) else (rd l a, a + 1, 0) := by
  unfold get
  by_cases h : a < 0 ∨ a > (l.length : Int)
  · rw [if_pos (.inr (.inr h)), if_pos h]
  rw [if_neg (by omega), if_neg h]
  by_cases h2 : (l.length : Int) - a < 1
  · rw [if_pos h2, if_pos h2]
  have hq := isB_rd hb a
  have e : val [rd l a] = rd l a := by simp [val]
  rw [if_neg h2, if_neg h2, piece_one (by omega) (by omega), e, if_neg (by omega)]
theorem get_three {l : List Int} (hb : isB l) {a : Int} (h0 : 0 ≤ a) (h : a + 3 ≤ l.length) : get l a 3 = (val (piece l a 3), a + 3, 0) ∧ 0 ≤ val (piece l a 3) ∧ val (piece l a 3) < 16777216 := by
  have hn := piece_length (l := l) (a := a) (n := 3) (by omega) (by omega) (by omega)
  have hv := val_bound (piece_isB a 3 hb)
  rw [hn, show ((3 : Int).toNat) = 3 from rfl, show (256 : Int) ^ 3 = 16777216 from by decide] at hv
  unfold get
  rw [if_neg (by omega), if_neg (by omega), if_neg (by omega)]
  exact ⟨rfl, hv⟩
end Go.Proofs.Ytjidhcepdjdceaa.M
