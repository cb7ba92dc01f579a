/- Layer 6 in plain terms: reading a pool. -/
import Derived.Test.YtjnmomhkiknhdaaP6
import Derived.Test.YtjnmomhkiknhdaaLRow
namespace Go.Proofs.Ytjnmomhkiknhdaa.M
open Go.RowKit Go.Proofs.Ytjnmomhkiknhdaa.P Go.Proofs.YtjnmomhkiknhdaaW.PrintWords Go.Proofs.YtjnmomhkiknhdaaW.PrintLast Go.Proofs.YtjnmomhkiknhdaaW.PrintMore

def poolread (l : List Int) (a : Int) : List S35 × Int × Int :=
  if (get l a 1).2.2 = 0 then (if (get l a 1).1 > 32 then ([], 0, 60) else pread l (get l a 1).1.toNat (get l a 1).2.1 []) else ([], 0, (get l a 1).2.2)
theorem get_one_bound {l : List Int} (hb : isB l) (a : Int) : 0 ≤ (get l a 1).1 := by
  rw [get_one hb]
  have := isB_rd hb a
  split
  · exact Int.le_refl _
  · split
    · exact Int.le_refl _
    · exact this.1
theorem pread_length (l : List Int) (d : Nat) : ∀ (a : Int) (acc : List S35), (pread l d a acc).1.length ≤ acc.length + d := by
  induction d with
  | zero => intro a acc; exact Nat.le_refl _
  | succ d ih =>
    intro a acc
    simp only [pread]
    split
    · have := ih (vread l a).2.2.2.1 (acc ++ [⟨(vread l a).1, (vread l a).2.1, (vread l a).2.2.1⟩])
      simp only [List.length_append, List.length_singleton] at this
      omega
    · simp
theorem poolread_length (l : List Int) (a : Int) : (poolread l a).1.length ≤ 32 := by
  unfold poolread
  split
  · split
    · simp
    · have := pread_length l (get l a 1).1.toNat (get l a 1).2.1 []
      simp only [List.length_nil] at this
      omega
  · simp
theorem same_l0 (x : List S35) (hx : x.length ≤ 100000) (d : Nat) : ∀ (k i : Nat), i + d = x.length → d < k → capstanref03_Same.l0 k x x i = some true := by
  induction d with
  | zero =>
    intro k i hi hk
    obtain ⟨k, rfl⟩ : ∃ n, k = n + 1 := ⟨k - 1, by omega⟩
    simp only [capstanref03_Same.l0]
    rw [if_neg (by omega)]
  | succ d ih =>
    intro k i hi hk
    obtain ⟨k, rfl⟩ : ∃ n, k = n + 1 := ⟨k - 1, by omega⟩
    simp only [capstanref03_Same.l0]
    rw [if_pos (by omega), if_pos (by omega), if_pos (by omega), if_neg (by simp), wrap64_id (by omega) (by omega)]
    exact ih k (i + 1) (by omega) (by omega)
theorem same_f (x : List S35) (hx : x.length ≤ 100000) (k : Nat) (hk : x.length < k) : capstanref03_Same.f k x x = some true := by
  have h := same_l0 x hx x.length k 0 (by omega) hk
  unfold capstanref03_Same.f
  simpa using h
end Go.Proofs.Ytjnmomhkiknhdaa.M
