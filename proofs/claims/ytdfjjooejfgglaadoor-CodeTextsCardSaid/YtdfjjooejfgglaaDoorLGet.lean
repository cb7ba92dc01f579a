/- Numbers off bytes: what Get tells, for few bytes. -/
import Derived.Test.YtdfjjooejfgglaaDoorY0
import Derived.Test.YtdfjjooejfgglaaDoorLOctet2
namespace Go.Proofs.YtdfjjooejfgglaaDoor.M
open Go.RowKit Go.Proofs.YtdfjjooejfgglaaDoor.Y Go.Proofs.YtdfjjooejfgglaaDoorW.PrintWords Go.Proofs.YtdfjjooejfgglaaDoorW.PrintLast Go.Proofs.YtdfjjooejfgglaaDoorW.PrintMore

theorem got_ok {l : List Int} {a w : Int} (h : (get l a w).2.2 = 0) : (1 ≤ w ∧ w ≤ 8 ∧ 0 ≤ a ∧ a + w ≤ (l.length : Int)) ∧ (get l a w).2.1 = a + w ∧ (get l a w).1 = val (piece l a w) := by
  unfold get at h ⊢
  by_cases h1 : w < 1 ∨ w > 8 ∨ a < 0 ∨ a > (l.length : Int)
  · rw [if_pos h1] at h; exact absurd h (by decide)
  rw [if_neg h1] at h ⊢
  by_cases h2 : (l.length : Int) - a < w
  · rw [if_pos h2] at h; exact absurd h (by decide)
  rw [if_neg h2] at h ⊢
  by_cases h3 : val (piece l a w) > 9223372036854775807
  · rw [if_pos h3] at h; exact absurd h (by decide)
  rw [if_neg h3]
  exact ⟨by omega, rfl, rfl⟩
theorem get_short {l : List Int} {a w : Int} (hw : 1 ≤ w ∧ w ≤ 8) (ha : 0 ≤ a ∧ a ≤ (l.length : Int)) (h : (l.length : Int) - a < w) : get l a w = (0, 0, 10) := by
  unfold get
  rw [if_neg (by omega), if_pos h]
theorem get_in {l : List Int} (hb : isB l) {a w : Int} (hw : 1 ≤ w ∧ w ≤ 3) (ha : 0 ≤ a) (h : a + w ≤ (l.length : Int)) : get l a w = (val (piece l a w), a + w, 0) ∧ 0 ≤ val (piece l a w) ∧ val (piece l a w) < 256 ^ w.toNat := by
  have hv := val_bound (piece_isB a w hb)
  rw [piece_length ha (by omega) h] at hv
  have h3 : (256 : Int) ^ w.toNat ≤ 16777216 := by
    rcases (by omega : w = 1 ∨ w = 2 ∨ w = 3) with rfl | rfl | rfl <;> decide
  refine ⟨?_, hv⟩
  unfold get
  rw [if_neg (by omega), if_neg (by omega), if_neg (by omega)]
theorem get_err {l : List Int} (hb : isB l) {a w : Int} (hw : 1 ≤ w ∧ w ≤ 3) (ha : 0 ≤ a ∧ a ≤ (l.length : Int)) (h : (get l a w).2.2 ≠ 0) : (get l a w).2.2 = 10 := by
  by_cases h1 : (l.length : Int) - a < w
  · rw [get_short (by omega) ha h1]
  · rw [(get_in hb hw ha.1 (by omega)).1] at h; exact absurd rfl h
theorem piece_one {l : List Int} {a : Int} (h0 : 0 ≤ a) (h : a < (l.length : Int)) : piece l a 1 = [rd l a] := by
  obtain ⟨i, rfl⟩ : ∃ i : Nat, a = (i : Int) := ⟨a.toNat, by omega⟩
  unfold piece
  rw [Int.toNat_natCast, rd_at (by omega), List.drop_eq_getElem_cons (by omega)]
  rfl
theorem get_one {l : List Int} (hb : isB l) {a : Int} (h0 : 0 ≤ a) (h : a < (l.length : Int)) : get l a 1 = (rd l a, a + 1, 0) := by
  rw [(get_in hb (by omega) h0 (by omega)).1, piece_one h0 h]
  simp [val]
theorem st1_bound {l : List Int} (hb : isB l) (a : Int) : 0 ≤ (get l a 1).1 ∧ (get l a 1).1 ≤ 255 := by
  by_cases h : (get l a 1).2.2 = 0
  · obtain ⟨h1, _, _⟩ := got_ok h
    rw [get_one hb h1.2.2.1 (by omega)]
    exact isB_rd hb a
  · unfold get at h ⊢
    split
    · exact ⟨by decide, by decide⟩
    · split
      · exact ⟨by decide, by decide⟩
      · split
        · exact ⟨by decide, by decide⟩
        · rename_i h1 h2 h3; rw [if_neg h1, if_neg h2, if_neg h3] at h; exact absurd rfl h
end Go.Proofs.YtdfjjooejfgglaaDoor.M
