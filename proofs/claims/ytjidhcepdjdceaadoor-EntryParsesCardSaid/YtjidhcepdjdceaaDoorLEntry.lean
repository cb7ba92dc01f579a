/- Layer 20 in plain terms: operations, entries, their bytes. -/
import Derived.Test.YtjidhcepdjdceaaDoorE3
import Derived.Test.YtjidhcepdjdceaaDoorE4
import Derived.Test.YtjidhcepdjdceaaDoorE8
import Derived.Test.YtjidhcepdjdceaaDoorE10
import Derived.Test.YtjidhcepdjdceaaDoorLOddEntry
import Derived.Test.YtjidhcepdjdceaaDoorLSeq
import Derived.Test.YtjidhcepdjdceaaDoorLStr
namespace Go.Proofs.YtjidhcepdjdceaaDoor.M
open Go.RowKit Go.Proofs.YtjidhcepdjdceaaDoor.E Go.Proofs.YtjidhcepdjdceaaDoorW.PrintWords Go.Proofs.YtjidhcepdjdceaaDoorW.PrintLast Go.Proofs.YtjidhcepdjdceaaDoorW.PrintMore

/-- May an operation be? An entry? Its bytes. -/
def emay (k m : Int) (l : List S37) (b : List Int) : Bool := (decide (k = 1) && (decide (0 ≤ m ∧ m < 16 ∧ l.length ≤ 4 ∧ b.length = 0) && l.all vmay)) || decide (k = 2 ∧ m = 0 ∧ l.length = 0 ∧ b.length ≤ 2000)
def eent (p s k m : Int) (l : List S37) (b : List Int) : Bool := decide (0 ≤ p ∧ p < 64 ∧ 1 ≤ s ∧ s ≤ 1099511627776) && emay k m l b
def ebody (k m : Int) (l : List S37) (b : List Int) : List Int := if k = 1 then m :: (l.length : Int) :: vflat l else leb 2 b.length ++ b
def ebytes (p s k m : Int) (l : List S37) (b : List Int) : List Int × Int := if eent p s k m l b = true then (p :: (leb 6 s ++ k :: ebody k m l b), 0) else ([], 200)
theorem emay_f (k m : Int) (l : List S37) (b : List Int) (n : Nat) (hn : 20 ≤ n) : entry_May.f n k m l b = some (emay k m l b) := by
  unfold entry_May.f emay
  by_cases h1 : k = 1
  · subst h1
    rw [if_pos rfl]
    by_cases h2 : m ≥ 0
    · by_cases h3 : m < 16
      · by_cases h4 : (l.length : Int) ≤ 4
        · rw [if_pos h2, if_pos h3, if_pos h4, contf_f l (by omega) n (by omega), Option.bind_some]
          cases l.all vmay
          · simp
          · simp only [Bool.not_true, Bool.false_eq_true, if_false, Option.some.injEq, Bool.and_true, decide_true, Bool.true_and]
            rw [Bool.eq_iff_iff]
            simp only [beq_iff_eq, Bool.or_eq_true, decide_eq_true_eq]
            omega
        · rw [if_pos h2, if_pos h3, if_neg h4]
          congr 1; rw [eq_comm, ← Bool.not_eq_true]; simp; omega
      · rw [if_pos h2, if_neg h3]
        congr 1; rw [eq_comm, ← Bool.not_eq_true]; simp; omega
    · rw [if_neg h2]
      congr 1; rw [eq_comm, ← Bool.not_eq_true]; simp; omega
  · rw [if_neg h1, decide_eq_false h1, Bool.false_and, Bool.false_or]
    by_cases h2 : k = 2
    · by_cases h3 : m = 0
      · by_cases h4 : (l.length : Int) = 0
        · rw [if_pos h2, if_pos h3, if_pos h4]
          congr 1; rw [Bool.eq_iff_iff, decide_eq_true_eq, decide_eq_true_eq]; omega
        · rw [if_pos h2, if_pos h3, if_neg h4]
          congr 1; rw [eq_comm, decide_eq_false_iff_not]; omega
      · rw [if_pos h2, if_neg h3]
        congr 1; rw [eq_comm, decide_eq_false_iff_not]; omega
    · rw [if_neg h2]
      congr 1; rw [eq_comm, decide_eq_false_iff_not]; omega
theorem refEMay_l0 (k m : Int) (l : List S37) (b : List Int) (hl : l.length ≤ 100000) (d : Nat) : ∀ (n i : Nat), i + d = l.length → d < n → capstanref20_May.l0 n i k m l b = some ((l.drop i).all vmay) := by
  induction d with
  | zero =>
    intro n i hi hk
    obtain ⟨n, rfl⟩ : ∃ q, n = q + 1 := ⟨n - 1, by omega⟩
    simp only [capstanref20_May.l0]
    rw [if_neg (by omega), List.drop_eq_nil_of_le (by omega), List.all_nil]
  | succ d ih =>
    intro n i hi hk
    obtain ⟨n, rfl⟩ : ∃ q, n = q + 1 := ⟨n - 1, by omega⟩
    simp only [capstanref20_May.l0]
    rw [if_pos (by omega), if_pos (by omega), rdT_at (by omega), outside_f, Option.bind_some, List.drop_eq_getElem_cons (by omega : i < l.length), List.all_cons]
    by_cases h : vmay l[i] = true
    · rw [h, show may l[i].f0 l[i].f1 l[i].f2 = true from h, if_pos rfl, wrap64_id (by omega) (by omega), Bool.true_and]
      exact ih n (i + 1) (by omega) (by omega)
    · rw [Bool.not_eq_true] at h
      rw [h, show may l[i].f0 l[i].f1 l[i].f2 = false from h, if_neg (by decide), Bool.false_and]
theorem refEMay_j0 (k m : Int) (l : List S37) (b : List Int) (n : Nat) (hn : 1 ≤ n) : capstanref20_May.j0 n true k m l b = some false := by
  obtain ⟨n, rfl⟩ : ∃ q, n = q + 1 := ⟨n - 1, by omega⟩
  simp [capstanref20_May.j0]
theorem refEMay_f (k m : Int) (l : List S37) (b : List Int) (hl : l.length ≤ 100000) (n : Nat) (hn : l.length + 20 ≤ n) : capstanref20_May.f n k m l b = some (emay k m l b) := by
  obtain ⟨n, rfl⟩ : ∃ q, n = q + 1 := ⟨n - 1, by omega⟩
  unfold capstanref20_May.f emay
  by_cases h2 : k = 2
  · subst h2
    rw [if_pos rfl]
    by_cases h3 : m = 0
    · by_cases h4 : (l.length : Int) = 0
      · rw [if_pos h3, if_pos h4, show decide ((2 : Int) = 1) = false from rfl, Bool.false_and, Bool.false_or]
        congr 1; rw [Bool.eq_iff_iff, decide_eq_true_eq, decide_eq_true_eq]; omega
      · rw [if_pos h3, if_neg h4]
        congr 1; rw [eq_comm, ← Bool.not_eq_true]; simp; intro _ h; exact absurd (congrArg List.length h) (by simpa using h4)
    · rw [if_neg h3]
      congr 1; rw [eq_comm, ← Bool.not_eq_true]; simp [h3]
  · rw [if_neg h2, show decide (k = 2 ∧ m = 0 ∧ l.length = 0 ∧ b.length ≤ 2000) = false by rw [decide_eq_false_iff_not]; exact fun c => h2 c.1, Bool.or_false]
    by_cases h1 : k = 1
    · subst h1
      rw [if_pos rfl]
      by_cases h3 : m < 0
      · rw [if_pos h3, refEMay_j0 _ _ _ _ _ (by omega)]
        congr 1; rw [eq_comm, ← Bool.not_eq_true]; simp; omega
      by_cases h4 : m ≥ 16
      · rw [if_neg h3, if_pos h4, refEMay_j0 _ _ _ _ _ (by omega)]
        congr 1; rw [eq_comm, ← Bool.not_eq_true]; simp; omega
      by_cases h5 : (l.length : Int) > 4
      · rw [if_neg h3, if_neg h4, if_pos h5, refEMay_j0 _ _ _ _ _ (by omega)]
        congr 1; rw [eq_comm, ← Bool.not_eq_true]; simp; omega
      rw [if_neg h3, if_neg h4, if_neg h5]
      simp only [capstanref20_May.j0]
      by_cases h6 : (b.length : Int) > 0
      · rw [if_pos (by simpa using h6), show decide (0 ≤ m ∧ m < 16 ∧ l.length ≤ 4 ∧ b.length = 0) = false by rw [decide_eq_false_iff_not]; omega]
        simp
      · rw [if_neg (by simpa using h6)]
        have := refEMay_l0 1 m l b hl l.length n 0 (by omega) (by omega)
        refine Eq.trans this ?_
        rw [List.drop_zero, show decide (0 ≤ m ∧ m < 16 ∧ l.length ≤ 4 ∧ b.length = 0) = true by rw [decide_eq_true_eq]; omega]
        simp
    · rw [if_neg h1, refEMay_j0 _ _ _ _ _ (by omega), decide_eq_false h1, Bool.false_and]
theorem eent_f (p s k m : Int) (l : List S37) (b : List Int) (n : Nat) (hn : 20 ≤ n) : entry_Entry.f n p s k m l b = some (eent p s k m l b) := by
  unfold entry_Entry.f eent
  rw [emay_f _ _ _ _ _ hn]
  by_cases h : 0 ≤ p ∧ p < 64 ∧ 1 ≤ s ∧ s ≤ 1099511627776
  · rw [if_pos h.1, if_pos h.2.1, if_pos h.2.2.1, if_pos h.2.2.2, Option.bind_some, decide_eq_true h, Bool.true_and]
  · rw [decide_eq_false h, Bool.false_and]
    by_cases h1 : p ≥ 0
    · by_cases h2 : p < 64
      · by_cases h3 : s ≥ 1
        · rw [if_pos h1, if_pos h2, if_pos h3, if_neg (by omega)]
        · rw [if_pos h1, if_pos h2, if_neg h3]
      · rw [if_pos h1, if_neg h2]
    · rw [if_neg h1]
theorem refEEnt_f (p s k m : Int) (l : List S37) (b : List Int) (hl : l.length ≤ 100000) (n : Nat) (hn : l.length + 20 ≤ n) : capstanref20_Entry.f n p s k m l b = some (eent p s k m l b) := by
  unfold capstanref20_Entry.f eent
  rw [refEMay_f _ _ _ _ hl _ hn]
  by_cases h : 0 ≤ p ∧ p < 64 ∧ 1 ≤ s ∧ s ≤ 1099511627776
  · rw [if_pos h.1, if_pos (by omega), if_pos h.2.2.1, if_pos h.2.2.2, Option.bind_some, decide_eq_true h, Bool.true_and]
  · rw [decide_eq_false h, Bool.false_and]
    by_cases h1 : p ≥ 0
    · by_cases h2 : p ≤ 63
      · by_cases h3 : s ≥ 1
        · rw [if_pos h1, if_pos h2, if_pos h3, if_neg (by omega)]
        · rw [if_pos h1, if_pos h2, if_neg h3]
      · rw [if_pos h1, if_neg h2]
    · rw [if_neg h1]
/-- What is known of an entry that may be. -/
theorem eent_ok {p s k m : Int} {l : List S37} {b : List Int} (h : eent p s k m l b = true) : (0 ≤ p ∧ p < 64 ∧ 1 ≤ s ∧ s ≤ 1099511627776) ∧ ((k = 1 ∧ 0 ≤ m ∧ m < 16 ∧ l.length ≤ 4 ∧ b = [] ∧ ∀ v ∈ l, vmay v = true) ∨ (k = 2 ∧ m = 0 ∧ l = [] ∧ b.length ≤ 2000)) := by
  unfold eent emay at h
  simp only [Bool.and_eq_true, Bool.or_eq_true, decide_eq_true_eq, List.all_eq_true, List.length_eq_zero_iff] at h
  refine ⟨h.1, ?_⟩
  rcases h.2 with ⟨h1, h2, h3⟩ | h1
  · exact .inl ⟨h1, h2.1, h2.2.1, h2.2.2.1, h2.2.2.2, h3⟩
  · exact .inr h1
theorem put1 (n : Int) (h : 0 ≤ n ∧ n ≤ 255) : put 1 n = ([n], 0) := by
  unfold put
  rw [if_neg (by omega), if_pos ⟨h.1, .inr (by rw [show ((1 : Int).toNat) = 1 from rfl, show (256 : Int) ^ 1 = 256 from by decide]; omega)⟩]
  simp only [show ((1 : Int).toNat) = 1 from rfl, leb]
  rw [show n % 256 = n by omega]
theorem put6 (n : Int) (h : 0 ≤ n ∧ n ≤ 1099511627776) : put 6 n = (leb 6 n, 0) := by
  unfold put
  rw [if_neg (by omega), if_pos ⟨h.1, .inr (by rw [show ((6 : Int).toNat) = 6 from rfl, show (256 : Int) ^ 6 = 281474976710656 from by decide]; omega)⟩]
  rfl
theorem enum1 (out : List Int) (n : Int) (h : 0 ≤ n ∧ n ≤ 255) (ho : out.length ≤ 100000) (k : Nat) (hk : 12 ≤ k) : entry_maker_number.f k out 1 n = some (out ++ [n]) := by
  unfold entry_maker_number.f
  rw [put_f _ _ _ hk, Option.bind_some, put1 n h, if_pos (by simp; omega)]
theorem enum6 (out : List Int) (n : Int) (h : 0 ≤ n ∧ n ≤ 1099511627776) (ho : out.length ≤ 100000) (k : Nat) (hk : 12 ≤ k) : entry_maker_number.f k out 6 n = some (out ++ leb 6 n) := by
  unfold entry_maker_number.f
  rw [put_f _ _ _ hk, Option.bind_some, put6 n h, if_pos (by rw [leb_length]; omega)]
theorem etells_l0 (k : Nat) (hk : 12 ≤ k) (l : List S37) : (∀ v ∈ l, vmay v = true) → ∀ out : List Int, out.length + 9 * l.length ≤ 100000 → entry_tells_1.l0 k out l = some (out ++ vflat l) := by
  induction l with
  | nil => intro _ out _; simp [entry_tells_1.l0, vflat]
  | cons v l ih =>
    intro h out ho
    have hv := h v (by simp)
    have hn := vb_len hv
    rw [List.length_cons] at ho
    rw [entry_tells_1.l0, vbytes_f _ _ _ _ hk, Option.bind_some, vbytes_pair hv]
    dsimp only
    rw [if_pos (by omega), ih (fun u hu => h u (by simp [hu])) _ (by rw [List.length_append]; omega), vflat_cons, List.append_assoc]
theorem ebytes_f (p s k m : Int) (l : List S37) (b : List Int) (n : Nat) (hn : 20 ≤ n) : entry_Bytes.f n p s k m l b = some (ebytes p s k m l b) := by
  unfold entry_Bytes.f ebytes
  rw [eent_f _ _ _ _ _ _ _ hn, Option.bind_some]
  by_cases h : eent p s k m l b = true
  · obtain ⟨h1, h2⟩ := eent_ok h
    have l6 := leb_length 6 s
    rw [if_pos h, if_pos h, enum1 _ _ (by omega) (by simp) _ (by omega), Option.bind_some, enum6 _ _ (by omega) (by simp) _ (by omega), Option.bind_some, enum1 _ _ (by omega) (by simp [l6]) _ (by omega), Option.bind_some]
    unfold ebody
    rcases h2 with ⟨rfl, h3, h4, h5, rfl, h6⟩ | ⟨rfl, rfl, rfl, h3⟩
    · rw [if_pos rfl, if_pos rfl]
      unfold entry_tells_1.f
      rw [enum1 _ _ (by omega) (by simp [l6]) _ (by omega), Option.bind_some, enum1 _ _ (by omega) (by simp [l6]) _ (by omega), Option.bind_some, etells_l0 n (by omega) l h6 _ (by simp [l6]; omega), Option.bind_some]
      simp
    · rw [if_neg (show ¬ (2 : Int) = 1 by decide), if_pos (show (2 : Int) = 2 from rfl), if_neg (show ¬ (2 : Int) = 1 by decide)]
      unfold entry_tells_2.f
      have hr : row b = (leb 2 b.length ++ b, 0) := by unfold row; rw [if_neg (by omega)]
      rw [row_f _ _ (by omega), Option.bind_some, hr, if_pos (by simp [l6, leb_length]; omega), Option.bind_some]
      simp
  · rw [if_neg h, if_neg h]
theorem ebytes_isB (p s k m : Int) (l : List S37) (b : List Int) (hb : isB b) : isB (ebytes p s k m l b).1 := by
  unfold ebytes ebody
  by_cases h : eent p s k m l b = true
  · obtain ⟨h1, h2⟩ := eent_ok h
    rw [if_pos h]
    refine isB_cons.2 ⟨by omega, isB_append.2 ⟨leb_isB _ _, isB_cons.2 ⟨by omega, ?_⟩⟩⟩
    split
    · exact isB_cons.2 ⟨by omega, isB_cons.2 ⟨by omega, vflat_isB l⟩⟩
    · exact isB_append.2 ⟨leb_isB _ _, hb⟩
  · rw [if_neg h]; exact isB_nil
/-- Are operations the same? -/
def esame (k m : Int) (l : List S37) (b : List Int) (k' m' : Int) (l' : List S37) (b' : List Int) : Bool := decide (k = k') && (decide (m = m') && (seq l l' && ((strOfNums b).toList == (strOfNums b').toList)))
theorem refESame_f (k m : Int) (l : List S37) (b : List Int) (k' m' : Int) (l' : List S37) (b' : List Int) (hl : l.length ≤ 100000) (n : Nat) (hn : l.length < n) : capstanref20_Same.f n k m l b k' m' l' b' = some (esame k m l b k' m' l' b') := by
  unfold capstanref20_Same.f esame
  by_cases h1 : k = k'
  · by_cases h2 : m = m'
    · rw [if_pos h1, if_pos h2, decide_eq_true h1, decide_eq_true h2, Bool.true_and, Bool.true_and, seq17_f l l' hl n hn, Option.bind_some]
      cases seq l l'
      · rfl
      · rfl
    · rw [if_pos h1, if_neg h2, decide_eq_false h2, Bool.false_and, Bool.and_false]
  · rw [if_neg h1, decide_eq_false h1, Bool.false_and]
theorem refESameE_f (p s k m : Int) (l : List S37) (b : List Int) (p' s' k' m' : Int) (l' : List S37) (b' : List Int) (hl : l.length ≤ 100000) (n : Nat) (hn : l.length < n) : capstanref20_SameEntry.f n p s k m l b p' s' k' m' l' b' = some (decide (p = p') && (decide (s = s') && esame k m l b k' m' l' b')) := by
  unfold capstanref20_SameEntry.f
  rw [refESame_f _ _ _ _ _ _ _ _ hl n hn, Option.bind_some]
  by_cases h1 : p = p'
  · by_cases h2 : s = s'
    · rw [if_pos h1, if_pos h2, decide_eq_true h1, decide_eq_true h2]; rfl
    · rw [if_pos h1, if_neg h2, decide_eq_false h2, Bool.false_and, Bool.and_false]
  · rw [if_neg h1, decide_eq_false h1, Bool.false_and]
theorem esame_self (k m : Int) (l : List S37) (b : List Int) : esame k m l b k m l b = true := by
  unfold esame
  rw [decide_eq_true rfl, decide_eq_true rfl, seq_iff.2 rfl, beq_self_eq_true]; rfl
end Go.Proofs.YtjidhcepdjdceaaDoor.M
