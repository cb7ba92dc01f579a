/- When rows of values are the same; a value's bytes as layer 18's chapter tells them. -/
import Derived.Test.YtjidhcepdjdceaaE4
import Derived.Test.YtjidhcepdjdceaaE5
import Derived.Test.YtjidhcepdjdceaaE8
import Derived.Test.YtjidhcepdjdceaaLRow
namespace Go.Proofs.Ytjidhcepdjdceaa.M
open Go.RowKit Go.Proofs.Ytjidhcepdjdceaa.E Go.Proofs.YtjidhcepdjdceaaW.PrintWords Go.Proofs.YtjidhcepdjdceaaW.PrintLast Go.Proofs.YtjidhcepdjdceaaW.PrintMore

/-- Are rows of values the same? -/
def veq (a b : S37) : Bool := a.f0 == b.f0 && (a.f1 == b.f1 && a.f2 == b.f2)
def seq : List S37 → List S37 → Bool
  | [], [] => true
  | a :: l, b :: m => veq a b && seq l m
  | _, _ => false
theorem veq_iff {a b : S37} : veq a b = true ↔ a = b := by
  cases a; cases b
  simp [veq]
theorem seq_iff {l m : List S37} : seq l m = true ↔ l = m := by
  induction l generalizing m with
  | nil => cases m <;> simp [seq]
  | cons a l ih => cases m <;> simp [seq, veq_iff, ih]
theorem seq_len {l m : List S37} (h : l.length ≠ m.length) : seq l m = false := by
  rw [← Bool.not_eq_true, seq_iff]
  rintro rfl
  exact h rfl
theorem veq_neg (a b : S37) : (!(a.f0 == b.f0) || (!(a.f1 == b.f1) || !(a.f2 == b.f2))) = !veq a b := by
  unfold veq; simp
theorem seq17_l0 (x y : List S37) (hx : x.length ≤ 100000) (hy : x.length = y.length) (d : Nat) : ∀ (k i : Nat), i + d = x.length → d < k → capstanref17_Same.l0 k x y i = some (seq (x.drop i) (y.drop i)) := by
  induction d with
  | zero =>
    intro k i hi hk
    obtain ⟨k, rfl⟩ : ∃ n, k = n + 1 := ⟨k - 1, by omega⟩
    simp only [capstanref17_Same.l0]
    rw [if_neg (by omega), List.drop_eq_nil_of_le (by omega), List.drop_eq_nil_of_le (by omega)]; rfl
  | succ d ih =>
    intro k i hi hk
    obtain ⟨k, rfl⟩ : ∃ n, k = n + 1 := ⟨k - 1, by omega⟩
    simp only [capstanref17_Same.l0]
    rw [if_pos (by omega), if_pos (by omega), if_pos (by omega), rdT_at (by omega : i < x.length), rdT_at (by omega : i < y.length), veq_neg, List.drop_eq_getElem_cons (by omega : i < x.length), List.drop_eq_getElem_cons (by omega : i < y.length), seq]
    cases veq x[i] y[i]
    · rfl
    · rw [if_neg (by decide), Bool.true_and, wrap64_id (by omega) (by omega)]
      exact ih k (i + 1) (by omega) (by omega)
theorem seq17_f (x y : List S37) (hx : x.length ≤ 100000) (k : Nat) (hk : x.length < k) : capstanref17_Same.f k x y = some (seq x y) := by
  unfold capstanref17_Same.f
  by_cases h : x.length = y.length
  · rw [if_pos (by omega)]
    simpa using seq17_l0 x y hx h x.length k 0 (by omega) hk
  · rw [if_neg (by omega), seq_len h]
theorem seqe_l0 (x y : List S37) (hx : x.length ≤ 100000) (hy : x.length = y.length) (d : Nat) : ∀ (k i : Nat), i + d = x.length → d < k → slices_Equal_api_Value_api_Value.l0 k x y (x.length : Int) i = some (seq (x.drop i) (y.drop i)) := by
  induction d with
  | zero =>
    intro k i hi hk
    obtain ⟨k, rfl⟩ : ∃ n, k = n + 1 := ⟨k - 1, by omega⟩
    simp only [slices_Equal_api_Value_api_Value.l0]
    rw [if_neg (by omega), List.drop_eq_nil_of_le (by omega), List.drop_eq_nil_of_le (by omega)]; rfl
  | succ d ih =>
    intro k i hi hk
    obtain ⟨k, rfl⟩ : ∃ n, k = n + 1 := ⟨k - 1, by omega⟩
    simp only [slices_Equal_api_Value_api_Value.l0]
    rw [if_pos (by omega), if_pos (by omega), if_pos (by omega), if_pos (by omega), rdT_at (by omega : i < x.length), rdT_at (by omega : i < y.length), veq_neg, List.drop_eq_getElem_cons (by omega : i < x.length), List.drop_eq_getElem_cons (by omega : i < y.length), seq]
    cases veq x[i] y[i]
    · rfl
    · rw [if_neg (by decide), Bool.true_and, wrap64_id (by omega) (by omega)]
      exact ih k (i + 1) (by omega) (by omega)
theorem part_f (a : Int) : capstanref17_Part.f a = some (decide (-1048576 ≤ a ∧ a ≤ 1048576)) := by
  unfold capstanref17_Part.f
  split
  · congr 1; rw [Bool.eq_iff_iff, decide_eq_true_eq, decide_eq_true_eq]; omega
  · congr 1; rw [eq_comm, decide_eq_false_iff_not]; omega
theorem outside_f (k a b : Int) : capstanref17_Outside.f k a b = some (may k a b) := by
  unfold capstanref17_Outside.f may pm
  rw [part_f, part_f]
  by_cases h1 : k = 1
  · subst h1
    by_cases h3 : b = 0 <;> simp [h3]
  · by_cases h2 : k = 2
    · subst h2
      rw [if_neg (by omega), if_pos rfl, Option.bind_some]
      by_cases h4 : -1048576 ≤ a ∧ a ≤ 1048576
      · rw [if_pos (decide_eq_true h4), Option.bind_some]
        congr 1
        rw [Bool.eq_iff_iff]
        simp
        omega
      · rw [if_neg (by simpa using h4)]
        congr 1
        rw [eq_comm, ← Bool.not_eq_true]
        simp
        omega
    · simp [h1, h2]
theorem word_l0 (x : Int) (h0 : 0 ≤ x) (h1 : x < 18446744073709551616) (w : Nat) (hw : w ≤ 8) (d : Nat) : ∀ (k i : Nat), i + d = w → d < k → capstanref18_word.l0 k (x / 256 ^ i) w (leb i x) i = some (leb w x) := by
  induction d with
  | zero =>
    intro k i hi hk
    obtain ⟨k, rfl⟩ : ∃ n, k = n + 1 := ⟨k - 1, by omega⟩
    simp only [capstanref18_word.l0]
    rw [if_neg (by omega), show i = w by omega]
  | succ d ih =>
    intro k i hi hk
    obtain ⟨k, rfl⟩ : ∃ n, k = n + 1 := ⟨k - 1, by omega⟩
    simp only [capstanref18_word.l0]
    have he := ediv_pow_le h0 i
    have hf := ediv_pow_le h0 (i + 1)
    rw [if_pos (by omega), if_pos (by rw [leb_length]; omega), tdiv256 he.1, tmod256 he.1, ediv_pow_succ, u64_id hf.1 (by omega), wrap64_id (by omega) (by omega), show x / 256 ^ i % 256 % 256 = x / 256 ^ i % 256 by omega, ← leb_snoc]
    exact ih k (i + 1) (by omega) (by omega)
theorem word_f (x : Int) (h0 : 0 ≤ x) (h1 : x < 18446744073709551616) (w : Nat) (hw : w ≤ 8) (k : Nat) (hk : w < k) : capstanref18_word.f k x w = some (leb w x) := by
  have h := word_l0 x h0 h1 w hw w k 0 (by omega) hk
  unfold capstanref18_word.f
  rw [Int.pow_zero, Int.ediv_one] at h
  exact h
theorem leb_u64 (x : Int) : leb 8 (IntKind.u64.wrap x) = leb 8 x := by
  have h : IntKind.u64.wrap x = x % 18446744073709551616 := by simp [IntKind.wrap, IntKind.bits, IntKind.signed]
  rw [h]
  simp only [leb, List.cons.injEq, and_true]
  omega
theorem u64_range (x : Int) : 0 ≤ IntKind.u64.wrap x ∧ IntKind.u64.wrap x < 18446744073709551616 := by
  simp [IntKind.wrap, IntKind.bits, IntKind.signed]; omega
theorem word8 (x : Int) (h0 : 0 ≤ x) (h1 : x < 18446744073709551616) (k : Nat) (hk : 12 ≤ k) : capstanref18_word.f k x 8 = some (leb 8 x) := word_f x h0 h1 8 (by omega) k (by omega)
theorem word3 (x : Int) (h0 : 0 ≤ x) (h1 : x < 18446744073709551616) (k : Nat) (hk : 12 ≤ k) : capstanref18_word.f k x 3 = some (leb 3 x) := word_f x h0 h1 3 (by omega) k (by omega)
theorem refValue_f (v : S37) (h : vmay v = true) (k : Nat) (hk : 12 ≤ k) : capstanref18_Value.f k v.f0 v.f1 v.f2 = some (vb v) := by
  have hu := u64_range v.f1
  have hb : vb v = if v.f0 = 1 then [1] ++ leb 8 v.f1 else [2] ++ leb 3 (v.f1 + 1048576) ++ leb 3 (v.f2 + 1048576) := by
    unfold vb vbytes
    rw [if_pos (show may v.f0 v.f1 v.f2 = true from h)]
    split <;> rfl
  unfold capstanref18_Value.f
  rw [hb, Option.bind_some]
  by_cases h1 : v.f0 = 1
  · rw [if_pos h1, if_pos h1, word8 _ hu.1 hu.2 k hk, Option.bind_some, leb_u64, if_pos (by rw [leb_length]; simp), h1]
  · obtain ⟨h2, h3⟩ := may_two h h1
    rw [if_neg h1, if_neg h1, wrap64_id (by omega) (by omega), wrap64_id (by omega) (by omega), u64_id (by omega) (by omega), u64_id (by omega) (by omega), word3 _ (by omega) (by omega) k hk, Option.bind_some, if_pos (by rw [leb_length]; simp), Option.bind_some, word3 _ (by omega) (by omega) k hk, Option.bind_some, if_pos (by rw [List.length_append, leb_length, leb_length]; simp), h2]
end Go.Proofs.Ytjidhcepdjdceaa.M
