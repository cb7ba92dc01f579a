/- Layer 7: the head is read: method.Read and capstanref07.Read in plain terms. -/
import Derived.Test.YtdbdajifalioiaaR8
import Derived.Test.YtdbdajifalioiaaLMethod0
import Derived.Test.YtdbdajifalioiaaLOctet2
namespace Go.Proofs.Ytdbdajifalioiaa.M
open Go.RowKit Go.Proofs.Ytdbdajifalioiaa.R Go.Proofs.YtdbdajifalioiaaW.PrintWords Go.Proofs.YtdbdajifalioiaaW.PrintLast Go.Proofs.YtdbdajifalioiaaW.PrintMore

theorem got_ok {l : List Int} {a w : Int} (h : (get l a w).2.2 = 0) : (1 ≤ w ∧ w ≤ 8 ∧ 0 ≤ a ∧ a + w ≤ (l.length : Int)) ∧ (get l a w).2.1 = a + w ∧ (get l a w).1 = val (piece l a w) := by
  unfold get at h ⊢
  by_cases h1 : w < 1 ∨ w > 8 ∨ a < 0 ∨ a > (l.length : Int)
  · rw [if_pos h1] at h; exact absurd h (by decide)
  rw [if_neg h1] at h ⊢
  by_cases h2 : (l.length : Int) - a < w
  · rw [if_pos h2] at h; exact absurd h (by decide)
  rw [if_neg h2] at h ⊢
  by_cases h3 : val (piece l a w) > 9223372036854775807
  · rw [if_pos h3] at h; exact absurd h (by decide)
  rw [if_neg h3]
  exact ⟨by omega, rfl, rfl⟩
theorem get_short {l : List Int} {a w : Int} (hw : 1 ≤ w ∧ w ≤ 8) (ha : 0 ≤ a ∧ a ≤ (l.length : Int)) (h : (l.length : Int) - a < w) : get l a w = (0, 0, 10) := by
  unfold get
  rw [if_neg (by omega), if_pos h]
theorem get_in {l : List Int} (hb : isB l) {a w : Int} (hw : 1 ≤ w ∧ w ≤ 3) (ha : 0 ≤ a) (h : a + w ≤ (l.length : Int)) : get l a w = (val (piece l a w), a + w, 0) ∧ 0 ≤ val (piece l a w) ∧ val (piece l a w) < 256 ^ w.toNat := by
  have hv := val_bound (piece_isB a w hb)
  rw [piece_length ha (by omega) h] at hv
  have h3 : (256 : Int) ^ w.toNat ≤ 16777216 := by
    rcases (by omega : w = 1 ∨ w = 2 ∨ w = 3) with rfl | rfl | rfl <;> decide
  refine ⟨?_, hv⟩
  unfold get
  rw [if_neg (by omega), if_neg (by omega), if_neg (by omega)]
theorem get_err {l : List Int} (hb : isB l) {a w : Int} (hw : 1 ≤ w ∧ w ≤ 3) (ha : 0 ≤ a ∧ a ≤ (l.length : Int)) (h : (get l a w).2.2 ≠ 0) : (get l a w).2.2 = 10 := by
  by_cases h1 : (l.length : Int) - a < w
  · rw [get_short (by omega) ha h1]
  · rw [(get_in hb hw ha.1 (by omega)).1] at h; exact absurd rfl h
theorem piece_one {l : List Int} {a : Int} (h0 : 0 ≤ a) (h : a < (l.length : Int)) : piece l a 1 = [rd l a] := by
  obtain ⟨i, rfl⟩ : ∃ i : Nat, a = (i : Int) := ⟨a.toNat, by omega⟩
  unfold piece
  rw [Int.toNat_natCast, rd_at (by omega), List.drop_eq_getElem_cons (by omega)]
  rfl
theorem get_one {l : List Int} (hb : isB l) {a : Int} (h0 : 0 ≤ a) (h : a < (l.length : Int)) : get l a 1 = (rd l a, a + 1, 0) := by
  rw [(get_in hb (by omega) h0 (by omega)).1, piece_one h0 h]
  simp [val]
/-- One number that is within bounds, or what is wrong. -/
def st (l : List Int) (wd lo hi a : Int) : Int × Int × Int := if (get l a wd).2.2 = 0 then (if (get l a wd).1 < lo ∨ (get l a wd).1 > hi then (0, 0, 70) else ((get l a wd).1, (get l a wd).2.1, 0)) else (0, 0, (get l a wd).2.2)
theorem st_ok {l : List Int} {wd lo hi a : Int} (h : (st l wd lo hi a).2.2 = 0) : (get l a wd).2.2 = 0 ∧ st l wd lo hi a = ((get l a wd).1, (get l a wd).2.1, 0) ∧ lo ≤ (get l a wd).1 ∧ (get l a wd).1 ≤ hi := by
  unfold st at h ⊢
  by_cases h1 : (get l a wd).2.2 = 0
  · rw [if_pos h1] at h ⊢
    by_cases h2 : (get l a wd).1 < lo ∨ (get l a wd).1 > hi
    · rw [if_pos h2] at h; exact absurd h (by decide)
    · rw [if_neg h2]; exact ⟨h1, rfl, by omega, by omega⟩
  · rw [if_neg h1] at h; exact absurd h h1
theorem st_next {l : List Int} {wd lo hi a : Int} (h : (st l wd lo hi a).2.2 = 0) : (st l wd lo hi a).2.1 = a + wd ∧ 0 ≤ a ∧ a + wd ≤ (l.length : Int) ∧ lo ≤ (st l wd lo hi a).1 ∧ (st l wd lo hi a).1 ≤ hi ∧ (st l wd lo hi a).1 = val (piece l a wd) ∧ 1 ≤ wd := by
  obtain ⟨h1, h2, h3, h4⟩ := st_ok h
  obtain ⟨h5, h6, h7⟩ := got_ok h1
  rw [h2]
  exact ⟨h6, h5.2.2.1, h5.2.2.2, h3, h4, h7, h5.1⟩
theorem number_ok {l : List Int} (hb : isB l) (hl : l.length ≤ 140737488355328) {wd lo hi a : Int} (h : (st l wd lo hi a).2.2 = 0) (k : Nat) (hk : 12 ≤ k) : method_reader_number.f k l a 0 wd lo hi = some (st l wd lo hi a) := by
  obtain ⟨h1, h2, h3, h4⟩ := st_ok h
  unfold method_reader_number.f
  rw [if_pos rfl, get_f l hb hl a wd k hk, Option.bind_some, h2, if_pos h1, if_neg (by omega)]
theorem number_bad {l : List Int} (hb : isB l) (hl : l.length ≤ 140737488355328) {wd lo hi a : Int} (h : (st l wd lo hi a).2.2 ≠ 0) (k : Nat) (hk : 12 ≤ k) : method_reader_number.f k l a 0 wd lo hi = some ((get l a wd).1, (get l a wd).2.1, (st l wd lo hi a).2.2) := by
  unfold method_reader_number.f
  rw [if_pos rfl, get_f l hb hl a wd k hk, Option.bind_some]
  unfold st at h ⊢
  by_cases h1 : (get l a wd).2.2 = 0
  · rw [if_pos h1] at h
    rw [if_pos h1, if_pos h1]
    by_cases h2 : (get l a wd).1 < lo ∨ (get l a wd).1 > hi
    · rw [if_pos h2, if_pos h2]
    · rw [if_neg h2] at h; exact absurd rfl h
  · rw [if_neg h1, if_neg h1]
theorem number_err {e : Int} (he : e ≠ 0) (l : List Int) (wd lo hi a : Int) (k : Nat) : method_reader_number.f k l a e wd lo hi = some (0, a, e) := by
  unfold method_reader_number.f
  rw [if_neg he]
/-- A row of so many kinds. -/
def kf (l : List Int) : Nat → Int → List Int → List Int × Int × Int
  | 0, a, acc => (acc, a, 0)
  | d + 1, a, acc => if (st l 1 1 3 a).2.2 = 0 then kf l d (st l 1 1 3 a).2.1 (acc ++ [(st l 1 1 3 a).1 % 256]) else ([], 0, (st l 1 1 3 a).2.2)
theorem fill_err {e : Int} (he : e ≠ 0) (l : List Int) (k : Nat) : ∀ (d : Nat) (a : Int) (acc : List Int), acc.length + d ≤ 1000 → ∃ z, method_row_fill.l0 k l d a e acc = some (z, a, e) := by
  intro d
  induction d with
  | zero => intro a acc _; exact ⟨acc, rfl⟩
  | succ d ih =>
    intro a acc h
    simp only [method_row_fill.l0]
    rw [number_err he, Option.bind_some, if_pos (by omega)]
    exact ih a _ (by simp; omega)
theorem fill_ok {l : List Int} (hb : isB l) (hl : l.length ≤ 140737488355328) (k : Nat) (hk : 12 ≤ k) : ∀ (d : Nat) (a : Int) (acc : List Int), acc.length + d ≤ 1000 → (kf l d a acc).2.2 = 0 → method_row_fill.l0 k l d a 0 acc = some (kf l d a acc) := by
  intro d
  induction d with
  | zero => intro a acc _ _; rfl
  | succ d ih =>
    intro a acc h hz
    simp only [method_row_fill.l0]
    by_cases h1 : (st l 1 1 3 a).2.2 = 0
    · rw [kf, if_pos h1] at hz ⊢
      rw [number_ok hb hl h1 k hk, Option.bind_some, if_pos (by omega), h1]
      exact ih _ _ (by simp; omega) hz
    · rw [kf, if_neg h1] at hz; exact absurd hz h1
theorem fill_bad {l : List Int} (hb : isB l) (hl : l.length ≤ 140737488355328) (k : Nat) (hk : 12 ≤ k) : ∀ (d : Nat) (a : Int) (acc : List Int), acc.length + d ≤ 1000 → (kf l d a acc).2.2 ≠ 0 → ∃ z x, method_row_fill.l0 k l d a 0 acc = some (z, x, (kf l d a acc).2.2) := by
  intro d
  induction d with
  | zero => intro a acc _ h; exact absurd rfl h
  | succ d ih =>
    intro a acc h hz
    simp only [method_row_fill.l0]
    by_cases h1 : (st l 1 1 3 a).2.2 = 0
    · rw [kf, if_pos h1] at hz ⊢
      rw [number_ok hb hl h1 k hk, Option.bind_some, if_pos (by omega), h1]
      exact ih _ _ (by simp; omega) hz
    · rw [kf, if_neg h1] at hz ⊢
      rw [number_bad hb hl h1 k hk, Option.bind_some, if_pos (by omega)]
      obtain ⟨z, hz'⟩ := fill_err h1 l k d (get l a 1).2.1 (acc ++ [(get l a 1).1 % 256]) (by simp; omega)
      exact ⟨z, _, hz'⟩
theorem kf_length {l : List Int} : ∀ (d : Nat) (a : Int) (acc : List Int), (kf l d a acc).2.2 = 0 → (kf l d a acc).1.length = acc.length + d ∧ (kf l d a acc).2.1 = a + d := by
  intro d
  induction d with
  | zero => intro a acc _; exact ⟨rfl, by simp [kf]⟩
  | succ d ih =>
    intro a acc h
    by_cases h1 : (st l 1 1 3 a).2.2 = 0
    · rw [kf, if_pos h1] at h ⊢
      have := ih _ _ h
      rw [(st_next h1).1] at this ⊢
      simp at this
      omega
    · rw [kf, if_neg h1] at h; exact absurd h h1
/-- A row: how many, and so many kinds. -/
def krow (l : List Int) (a most : Int) : List Int × Int × Int := if (st l 1 0 most a).2.2 = 0 then kf l (st l 1 0 most a).1.toNat (st l 1 0 most a).2.1 [] else ([], 0, (st l 1 0 most a).2.2)
abbrev MT : Type := List Int × List Int × Int × Bool × Int × Int × Int × List S114 × Int × Int
def mbad (e : Int) : MT := ([], [], 0, false, 0, 0, 0, [], 0, e)
def mnums (l A L : List Int) (a : Int) : MT :=
  if (st l 1 1 2 a).2.2 = 0 then
    (if (st l 1 0 1 (st l 1 1 2 a).2.1).2.2 = 0 then
      (if (st l 3 0 1048576 (st l 1 0 1 (st l 1 1 2 a).2.1).2.1).2.2 = 0 then
        (if (st l 2 0 256 (st l 3 0 1048576 (st l 1 0 1 (st l 1 1 2 a).2.1).2.1).2.1).2.2 = 0 then
          (if (st l 2 0 1024 (st l 2 0 256 (st l 3 0 1048576 (st l 1 0 1 (st l 1 1 2 a).2.1).2.1).2.1).2.1).2.2 = 0 then
            (A, L, (st l 1 1 2 a).1 % 256, (st l 1 0 1 (st l 1 1 2 a).2.1).1 == 1, (st l 3 0 1048576 (st l 1 0 1 (st l 1 1 2 a).2.1).2.1).1, (st l 2 0 256 (st l 3 0 1048576 (st l 1 0 1 (st l 1 1 2 a).2.1).2.1).2.1).1, (st l 2 0 1024 (st l 2 0 256 (st l 3 0 1048576 (st l 1 0 1 (st l 1 1 2 a).2.1).2.1).2.1).2.1).1, [], (st l 2 0 1024 (st l 2 0 256 (st l 3 0 1048576 (st l 1 0 1 (st l 1 1 2 a).2.1).2.1).2.1).2.1).2.1, 0)
          else mbad (st l 2 0 1024 (st l 2 0 256 (st l 3 0 1048576 (st l 1 0 1 (st l 1 1 2 a).2.1).2.1).2.1).2.1).2.2)
        else mbad (st l 2 0 256 (st l 3 0 1048576 (st l 1 0 1 (st l 1 1 2 a).2.1).2.1).2.1).2.2)
      else mbad (st l 3 0 1048576 (st l 1 0 1 (st l 1 1 2 a).2.1).2.1).2.2)
    else mbad (st l 1 0 1 (st l 1 1 2 a).2.1).2.2)
  else mbad (st l 1 1 2 a).2.2
/-- A head, or what is wrong. -/
def mread (l : List Int) (a : Int) : MT :=
  if (krow l a 4).2.2 = 0 then
    (if (krow l (krow l a 4).2.1 (16 - ((krow l a 4).1.length : Int))).2.2 = 0 then mnums l (krow l a 4).1 (krow l (krow l a 4).2.1 (16 - ((krow l a 4).1.length : Int))).1 (krow l (krow l a 4).2.1 (16 - ((krow l a 4).1.length : Int))).2.1
    else mbad (krow l (krow l a 4).2.1 (16 - ((krow l a 4).1.length : Int))).2.2)
  else mbad (krow l a 4).2.2
theorem tail_err {e : Int} (he : e ≠ 0) (l A L : List Int) (a : Int) (k : Nat) : method_Read.tail k l A L a e = some (mbad e) := by
  unfold method_Read.tail
  simp only [number_err he, Option.bind_some]
  rw [if_neg he]; rfl
theorem tail_f {l : List Int} (hb : isB l) (hl : l.length ≤ 140737488355328) (A L : List Int) (a : Int) (k : Nat) (hk : 12 ≤ k) : method_Read.tail k l A L a 0 = some (mnums l A L a) := by
  unfold method_Read.tail mnums
  by_cases h1 : (st l 1 1 2 a).2.2 = 0
  case neg => rw [if_neg h1, number_bad hb hl h1 k hk]; simp only [number_err h1, Option.bind_some]; rw [if_neg h1]; rfl
  rw [if_pos h1, number_ok hb hl h1 k hk, Option.bind_some, h1]
  generalize st l 1 1 2 a = v1 at *
  by_cases h2 : (st l 1 0 1 v1.2.1).2.2 = 0
  case neg => rw [if_neg h2, number_bad hb hl h2 k hk]; simp only [number_err h2, Option.bind_some]; rw [if_neg h2]; rfl
  rw [if_pos h2, number_ok hb hl h2 k hk, Option.bind_some, h2]
  generalize st l 1 0 1 v1.2.1 = v2 at *
  by_cases h3 : (st l 3 0 1048576 v2.2.1).2.2 = 0
  case neg => rw [if_neg h3, number_bad hb hl h3 k hk]; simp only [number_err h3, Option.bind_some]; rw [if_neg h3]; rfl
  rw [if_pos h3, number_ok hb hl h3 k hk, Option.bind_some, h3]
  generalize st l 3 0 1048576 v2.2.1 = v3 at *
  by_cases h4 : (st l 2 0 256 v3.2.1).2.2 = 0
  case neg => rw [if_neg h4, number_bad hb hl h4 k hk]; simp only [number_err h4, Option.bind_some]; rw [if_neg h4]; rfl
  rw [if_pos h4, number_ok hb hl h4 k hk, Option.bind_some, h4]
  generalize st l 2 0 256 v3.2.1 = v4 at *
  by_cases h5 : (st l 2 0 1024 v4.2.1).2.2 = 0
  case neg => rw [if_neg h5, number_bad hb hl h5 k hk, Option.bind_some]; dsimp only; rw [if_neg h5]; rfl
  rw [if_pos h5, number_ok hb hl h5 k hk, Option.bind_some, if_pos h5]
theorem st1_bound {l : List Int} (hb : isB l) (a : Int) : 0 ≤ (get l a 1).1 ∧ (get l a 1).1 ≤ 255 := by
  by_cases h : (get l a 1).2.2 = 0
  · obtain ⟨h1, _, _⟩ := got_ok h
    rw [get_one hb h1.2.2.1 (by omega)]
    exact isB_rd hb a
  · unfold get at h ⊢
    split
    · exact ⟨by decide, by decide⟩
    · split
      · exact ⟨by decide, by decide⟩
      · split
        · exact ⟨by decide, by decide⟩
        · rename_i h1 h2 h3; rw [if_neg h1, if_neg h2, if_neg h3] at h; exact absurd rfl h
theorem rows_err {e : Int} (he : e ≠ 0) (l : List Int) (n a : Int) (k : Nat) : method_Read.rows k l n a e = some ([], a, e) := by
  unfold method_Read.rows
  rw [if_neg he]
theorem read_f {l : List Int} (hb : isB l) (hl : l.length ≤ 140737488355328) (a : Int) (k : Nat) (hk : 12 ≤ k) : method_Read.f k l a = some (mread l a) := by
  have hbd := st1_bound hb a
  unfold method_Read.f mread krow
  by_cases h1 : (st l 1 0 4 a).2.2 = 0
  case neg =>
    rw [if_neg h1, if_neg h1, number_bad hb hl h1 k hk, Option.bind_some, if_pos (by omega)]
    simp only [rows_err h1, number_err h1, tail_err h1, Option.bind_some]
  have hn := st_next h1
  rw [if_pos h1, number_ok hb hl h1 k hk, Option.bind_some, if_pos (by omega), h1]
  generalize st l 1 0 4 a = v1 at *
  unfold method_Read.rows
  rw [if_pos rfl]
  by_cases h2 : (kf l v1.1.toNat v1.2.1 []).2.2 = 0
  case neg =>
    obtain ⟨z, x, e2⟩ := fill_bad hb hl k hk v1.1.toNat v1.2.1 [] (by simp; omega) h2
    rw [if_neg h2, e2, Option.bind_some]
    simp only [number_err h2, Option.bind_some]
    rw [if_neg h2, Option.bind_some]
    exact tail_err h2 _ _ _ _ _
  rw [if_pos h2, fill_ok hb hl k hk _ _ _ (by simp; omega) h2, Option.bind_some]
  have hlen := (kf_length _ _ _ h2).1
  simp only [List.length_nil, Nat.zero_add] at hlen
  rw [h2, show ((kf l v1.1.toNat v1.2.1 []).1.length : Int) = v1.1 by omega]
  generalize kf l v1.1.toNat v1.2.1 [] = A at *
  by_cases h3 : (st l 1 0 (16 - v1.1) A.2.1).2.2 = 0
  case neg =>
    rw [number_bad hb hl h3 k hk, Option.bind_some, if_neg h3, if_neg h3]
    dsimp only
    rw [if_neg h3, Option.bind_some]
    exact tail_err h3 _ _ _ _ _
  have hn3 := st_next h3
  rw [number_ok hb hl h3 k hk, Option.bind_some, if_pos h3, h3, if_pos rfl]
  generalize st l 1 0 (16 - v1.1) A.2.1 = v3 at *
  by_cases h4 : (kf l v3.1.toNat v3.2.1 []).2.2 = 0
  case neg =>
    obtain ⟨z, x, e2⟩ := fill_bad hb hl k hk v3.1.toNat v3.2.1 [] (by simp; omega) h4
    rw [e2, Option.bind_some, if_neg h4]
    exact tail_err h4 _ _ _ _ _
  rw [fill_ok hb hl k hk _ _ _ (by simp; omega) h4, Option.bind_some, if_pos h4, h4]
  exact tail_f hb hl _ _ _ k hk
end Go.Proofs.Ytdbdajifalioiaa.M
