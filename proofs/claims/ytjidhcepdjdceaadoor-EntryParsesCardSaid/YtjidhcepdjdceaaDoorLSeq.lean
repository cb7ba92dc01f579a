/- When rows of values are the same; a value's bytes as layer 18's chapter tells them. -/
import Derived.Test.YtjidhcepdjdceaaDoorE6
import Derived.Test.YtjidhcepdjdceaaDoorE10
import Derived.Test.YtjidhcepdjdceaaDoorLRow
namespace Go.Proofs.YtjidhcepdjdceaaDoor.M
open Go.RowKit Go.Proofs.YtjidhcepdjdceaaDoor.E Go.Proofs.YtjidhcepdjdceaaDoorW.PrintWords Go.Proofs.YtjidhcepdjdceaaDoorW.PrintLast Go.Proofs.YtjidhcepdjdceaaDoorW.PrintMore

/-- Are rows of values the same? -/
def veq (a b : S37) : Bool := a.f0 == b.f0 && (a.f1 == b.f1 && a.f2 == b.f2)
def seq : List S37 → List S37 → Bool
  | [], [] => true
  | a :: l, b :: m => veq a b && seq l m
  | _, _ => false
theorem veq_iff {a b : S37} : veq a b = true ↔ a = b := by
  cases a; cases b
  simp [veq]
theorem seq_iff {l m : List S37} : seq l m = true ↔ l = m := by
  induction l generalizing m with
  | nil => cases m <;> simp [seq]
  | cons a l ih => cases m <;> simp [seq, veq_iff, ih]
theorem seq_len {l m : List S37} (h : l.length ≠ m.length) : seq l m = false := by
  rw [← Bool.not_eq_true, seq_iff]
  rintro rfl
  exact h rfl
theorem veq_neg (a b : S37) : (!(a.f0 == b.f0) || (!(a.f1 == b.f1) || !(a.f2 == b.f2))) = !veq a b := by
  unfold veq; simp
theorem seq17_l0 (x y : List S37) (hx : x.length ≤ 100000) (hy : x.length = y.length) (d : Nat) : ∀ (k i : Nat), i + d = x.length → d < k → capstanref17_Same.l0 k x y i = some (seq (x.drop i) (y.drop i)) := by
  induction d with
  | zero =>
    intro k i hi hk
    obtain ⟨k, rfl⟩ : ∃ n, k = n + 1 := ⟨k - 1, by omega⟩
    simp only [capstanref17_Same.l0]
    rw [if_neg (by omega), List.drop_eq_nil_of_le (by omega), List.drop_eq_nil_of_le (by omega)]; rfl
  | succ d ih =>
    intro k i hi hk
    obtain ⟨k, rfl⟩ : ∃ n, k = n + 1 := ⟨k - 1, by omega⟩
    simp only [capstanref17_Same.l0]
    rw [if_pos (by omega), if_pos (by omega), if_pos (by omega), rdT_at (by omega : i < x.length), rdT_at (by omega : i < y.length), veq_neg, List.drop_eq_getElem_cons (by omega : i < x.length), List.drop_eq_getElem_cons (by omega : i < y.length), seq]
    cases veq x[i] y[i]
    · rfl
    · rw [if_neg (by decide), Bool.true_and, wrap64_id (by omega) (by omega)]
      exact ih k (i + 1) (by omega) (by omega)
theorem seq17_f (x y : List S37) (hx : x.length ≤ 100000) (k : Nat) (hk : x.length < k) : capstanref17_Same.f k x y = some (seq x y) := by
  unfold capstanref17_Same.f
  by_cases h : x.length = y.length
  · rw [if_pos (by omega)]
    simpa using seq17_l0 x y hx h x.length k 0 (by omega) hk
  · rw [if_neg (by omega), seq_len h]
theorem part_f (a : Int) : capstanref17_Part.f a = some (decide (-1048576 ≤ a ∧ a ≤ 1048576)) := by
  unfold capstanref17_Part.f
  split
  · congr 1; rw [Bool.eq_iff_iff, decide_eq_true_eq, decide_eq_true_eq]; omega
  · congr 1; rw [eq_comm, decide_eq_false_iff_not]; omega
theorem outside_f (k a b : Int) : capstanref17_Outside.f k a b = some (may k a b) := by
  unfold capstanref17_Outside.f may pm
  rw [part_f, part_f]
  by_cases h1 : k = 1
  · subst h1
    by_cases h3 : b = 0 <;> simp [h3]
  · by_cases h2 : k = 2
    · subst h2
      rw [if_neg (by omega), if_pos rfl, Option.bind_some]
      by_cases h4 : -1048576 ≤ a ∧ a ≤ 1048576
      · rw [if_pos (decide_eq_true h4), Option.bind_some]
        congr 1
        rw [Bool.eq_iff_iff]
        simp
        omega
      · rw [if_neg (by simpa using h4)]
        congr 1
        rw [eq_comm, ← Bool.not_eq_true]
        simp
        omega
    · simp [h1, h2]
end Go.Proofs.YtjidhcepdjdceaaDoor.M
