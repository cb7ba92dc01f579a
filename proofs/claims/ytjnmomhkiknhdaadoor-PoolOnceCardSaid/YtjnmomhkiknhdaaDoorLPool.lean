/- Layer 6 in plain terms: reading a pool. -/
import Derived.Test.YtjnmomhkiknhdaaDoorP3
import Derived.Test.YtjnmomhkiknhdaaDoorP4
import Derived.Test.YtjnmomhkiknhdaaDoorLRow
namespace Go.Proofs.YtjnmomhkiknhdaaDoor.M
open Go.RowKit Go.Proofs.YtjnmomhkiknhdaaDoor.P Go.Proofs.YtjnmomhkiknhdaaDoorW.PrintWords Go.Proofs.YtjnmomhkiknhdaaDoorW.PrintLast Go.Proofs.YtjnmomhkiknhdaaDoorW.PrintMore

def poolread (l : List Int) (a : Int) : List S38 × Int × Int :=
  if (get l a 1).2.2 = 0 then (if (get l a 1).1 > 32 then ([], 0, 60) else pread l (get l a 1).1.toNat (get l a 1).2.1 []) else ([], 0, (get l a 1).2.2)
theorem pool_l0 (l : List Int) (hb : isB l) (hl : l.length ≤ 140737488355327) (d : Nat) : ∀ (k i : Nat) (a : Int) (acc : List S38) (m : Int), acc.length = i → m = i + d → m ≤ 32 → d + 24 ≤ k → pool_Read.l0 k l a acc m i = some (pread l d a acc) := by
  induction d with
  | zero =>
    intro k i a acc m hi hm hm2 hk
    obtain ⟨k, rfl⟩ : ∃ n, k = n + 1 := ⟨k - 1, by omega⟩
    simp only [pool_Read.l0, pread]
    rw [if_neg (by omega)]
  | succ d ih =>
    intro k i a acc m hi hm hm2 hk
    obtain ⟨k, rfl⟩ : ∃ n, k = n + 1 := ⟨k - 1, by omega⟩
    simp only [pool_Read.l0, pread]
    rw [if_pos (by omega), vread_f l hb hl a k (by omega), Option.bind_some]
    by_cases h : (vread l a).2.2.2.2 = 0
    · rw [if_pos h, if_pos h, if_pos (by omega), wrap64_id (by omega) (by omega)]
      exact ih k (i + 1) _ _ m (by simp [hi]) (by omega) hm2 (by omega)
    · rw [if_neg h, if_neg h]
theorem refPool_l0 (l : List Int) (hb : isB l) (hl : l.length ≤ 140737488355327) (d : Nat) : ∀ (k : Nat) (a : Int) (acc : List S38) (m : Int), m = acc.length + d → m ≤ 32 → d + 24 ≤ k → capstanref06_Read.l0 k l m a acc = some (pread l d a acc) := by
  induction d with
  | zero =>
    intro k a acc m hm hm2 hk
    obtain ⟨k, rfl⟩ : ∃ n, k = n + 1 := ⟨k - 1, by omega⟩
    simp only [capstanref06_Read.l0, pread]
    rw [if_neg (by omega)]
  | succ d ih =>
    intro k a acc m hm hm2 hk
    obtain ⟨k, rfl⟩ : ∃ n, k = n + 1 := ⟨k - 1, by omega⟩
    simp only [capstanref06_Read.l0, pread]
    rw [if_pos (by omega), refRead_f l hb hl a k (by omega), Option.bind_some]
    by_cases h : (vread l a).2.2.2.2 = 0
    · rw [if_pos h, if_pos h, if_pos (by omega)]
      exact ih k _ _ m (by simp; omega) hm2 (by omega)
    · rw [if_neg h, if_neg h]
theorem get_one_bound {l : List Int} (hb : isB l) (a : Int) : 0 ≤ (get l a 1).1 := by
  rw [get_one hb]
  have := isB_rd hb a
  split
  · exact Int.le_refl _
  · split
    · exact Int.le_refl _
    · exact this.1
theorem poolread_f (l : List Int) (hb : isB l) (hl : l.length ≤ 140737488355327) (a : Int) (k : Nat) (hk : 80 ≤ k) : pool_Read.f k l a = some (poolread l a) := by
  have h0 := get_one_bound hb a
  unfold pool_Read.f poolread
  rw [get_f l hb (by omega) a 1 _ (by omega), Option.bind_some]
  by_cases h : (get l a 1).2.2 = 0
  · rw [if_pos h, if_pos h]
    by_cases h2 : (get l a 1).1 > 32
    · rw [if_pos h2, if_pos h2]
    · rw [if_neg h2, if_neg h2]
      exact pool_l0 l hb hl (get l a 1).1.toNat k 0 _ [] _ rfl (by omega) (by omega) (by omega)
  · rw [if_neg h, if_neg h]
theorem refPoolread_f (l : List Int) (hb : isB l) (hl : l.length ≤ 140737488355327) (a : Int) (ha : -9223372036854775808 ≤ a ∧ a ≤ 9223372036854775807) (k : Nat) (hk : 80 ≤ k) : capstanref06_Read.f k l a = some (poolread l a) := by
  have h0 := get_one_bound hb a
  unfold capstanref06_Read.f poolread
  rw [refGet_f l hb (by omega) a 1 ha _ (by omega), Option.bind_some]
  by_cases h : (get l a 1).2.2 = 0
  · rw [if_pos h, if_pos h]
    by_cases h2 : (get l a 1).1 > 32
    · rw [if_pos h2, if_pos h2]
    · rw [if_neg h2, if_neg h2]
      exact refPool_l0 l hb hl (get l a 1).1.toNat k _ [] _ (by simp; omega) (by omega) (by omega)
  · rw [if_neg h, if_neg h]
theorem pread_length (l : List Int) (d : Nat) : ∀ (a : Int) (acc : List S38), (pread l d a acc).1.length ≤ acc.length + d := by
  induction d with
  | zero => intro a acc; exact Nat.le_refl _
  | succ d ih =>
    intro a acc
    simp only [pread]
    split
    · have := ih (vread l a).2.2.2.1 (acc ++ [⟨(vread l a).1, (vread l a).2.1, (vread l a).2.2.1⟩])
      simp only [List.length_append, List.length_singleton] at this
      omega
    · simp
theorem poolread_length (l : List Int) (a : Int) : (poolread l a).1.length ≤ 32 := by
  unfold poolread
  split
  · split
    · simp
    · have := pread_length l (get l a 1).1.toNat (get l a 1).2.1 []
      simp only [List.length_nil] at this
      omega
  · simp
theorem same_l0 (x : List S38) (hx : x.length ≤ 100000) (d : Nat) : ∀ (k i : Nat), i + d = x.length → d < k → capstanref03_Same.l0 k x x i = some true := by
  induction d with
  | zero =>
    intro k i hi hk
    obtain ⟨k, rfl⟩ : ∃ n, k = n + 1 := ⟨k - 1, by omega⟩
    simp only [capstanref03_Same.l0]
    rw [if_neg (by omega)]
  | succ d ih =>
    intro k i hi hk
    obtain ⟨k, rfl⟩ : ∃ n, k = n + 1 := ⟨k - 1, by omega⟩
    simp only [capstanref03_Same.l0]
    rw [if_pos (by omega), if_pos (by omega), if_pos (by omega), if_neg (by simp), wrap64_id (by omega) (by omega)]
    exact ih k (i + 1) (by omega) (by omega)
theorem same_f (x : List S38) (hx : x.length ≤ 100000) (k : Nat) (hk : x.length < k) : capstanref03_Same.f k x x = some true := by
  have h := same_l0 x hx x.length k 0 (by omega) hk
  unfold capstanref03_Same.f
  simpa using h
end Go.Proofs.YtjnmomhkiknhdaaDoor.M
