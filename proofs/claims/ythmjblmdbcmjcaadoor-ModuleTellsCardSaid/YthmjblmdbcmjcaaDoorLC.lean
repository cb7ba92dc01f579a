/- Layer 7 in plain terms: kinds, whether two heads are the same. Layer 7 in plain terms: a method's head, its kinds, whether values fit it, its bytes. Numbers off bytes: what Get tells, for few bytes. Layer 5 in plain terms: code is read. Layer 5 in plain terms: what may be code, its bytes; what has bytes is read from them; what is read has just those bytes. Layer 5: code.May, code.Bytes, code.Same in plain terms; the chapter's examples. Code: the reference's answers are the program's, in plain terms. -/
import Derived.Test.YthmjblmdbcmjcaaDoorP4
import Derived.Test.YthmjblmdbcmjcaaDoorP6
import Derived.Test.YthmjblmdbcmjcaaDoorP9
import Derived.Test.YthmjblmdbcmjcaaDoorP10
import Derived.Test.YthmjblmdbcmjcaaDoorP11
import Derived.Test.YthmjblmdbcmjcaaDoorP12
import Derived.Test.YthmjblmdbcmjcaaDoorP15
import Derived.Test.YthmjblmdbcmjcaaDoorP16
import Derived.Test.YthmjblmdbcmjcaaDoorP17
import Derived.Test.YthmjblmdbcmjcaaDoorP18
import Derived.Test.YthmjblmdbcmjcaaDoorP19
import Derived.Test.YthmjblmdbcmjcaaDoorP20
import Derived.Test.YthmjblmdbcmjcaaDoorP22
import Derived.Test.YthmjblmdbcmjcaaDoorP23
import Derived.Test.YthmjblmdbcmjcaaDoorP24
import Derived.Test.YthmjblmdbcmjcaaDoorLA
namespace Go.Proofs.YthmjblmdbcmjcaaDoor.M.MC
open Go.RowKit Go.Proofs.YthmjblmdbcmjcaaDoor.P Go.Proofs.YthmjblmdbcmjcaaDoorW.PrintWords Go.Proofs.YthmjblmdbcmjcaaDoorW.PrintLast Go.Proofs.YthmjblmdbcmjcaaDoorW.PrintMore

/-- A local's kind. -/
def kd (x : Int) : Bool := decide (x = 1 ∨ x = 2 ∨ x = 3)
/-- May a head be? -/
def mmay (a b : List Int) (r fu st hp : Int) : Bool := decide (a.length + b.length ≤ 16 ∧ a.length ≤ 4) && (a.all kd && (b.all kd && decide ((r = 1 ∨ r = 2) ∧ 0 ≤ fu ∧ fu ≤ 1048576 ∧ 0 ≤ st ∧ st ≤ 256 ∧ 0 ≤ hp ∧ hp ≤ 1024)))
theorem mmay_iff {a b : List Int} {r fu st hp : Int} : mmay a b r fu st hp = true ↔ (a.length + b.length ≤ 16 ∧ a.length ≤ 4) ∧ a.all kd = true ∧ b.all kd = true ∧ (r = 1 ∨ r = 2) ∧ 0 ≤ fu ∧ fu ≤ 1048576 ∧ 0 ≤ st ∧ st ≤ 256 ∧ 0 ≤ hp ∧ hp ≤ 1024 := by
  unfold mmay
  rw [Bool.and_eq_true, Bool.and_eq_true, Bool.and_eq_true, decide_eq_true_eq, decide_eq_true_eq]
theorem refKinds_l0 (l : List Int) (hl : l.length ≤ 100000) (d : Nat) : ∀ (k i : Nat), i + d = l.length → d < k → capstanref07_kinds.l0 k l i = some ((l.drop i).all kd) := by
  induction d with
  | zero =>
    intro k i hi hk
    obtain ⟨k, rfl⟩ : ∃ n, k = n + 1 := ⟨k - 1, by omega⟩
    simp only [capstanref07_kinds.l0]
    rw [if_neg (by omega), List.drop_eq_nil_of_le (by omega), List.all_nil]
  | succ d ih =>
    intro k i hi hk
    obtain ⟨k, rfl⟩ : ∃ n, k = n + 1 := ⟨k - 1, by omega⟩
    have hr := ih k (i + 1) (by omega) (by omega)
    simp only [capstanref07_kinds.l0]
    rw [if_pos (by omega), if_pos (by omega), rd_at (by omega : i < l.length), List.drop_eq_getElem_cons (by omega : i < l.length), List.all_cons, wrap64_id (by omega) (by omega), show ((i : Int) + 1) = ((i + 1 : Nat) : Int) by omega, hr]
    unfold kd
    by_cases h1 : l[i] = 1
    · rw [if_pos h1, decide_eq_true (.inl h1), Bool.true_and]
    by_cases h2 : l[i] = 2
    · rw [if_neg h1, if_pos h2, decide_eq_true (.inr (.inl h2)), Bool.true_and]
    by_cases h3 : l[i] = 3
    · rw [if_neg h1, if_neg h2, if_pos h3, decide_eq_true (.inr (.inr h3)), Bool.true_and]
    rw [if_neg h1, if_neg h2, if_neg h3, decide_eq_false (by omega), Bool.false_and]
theorem refKinds_f (l : List Int) (hl : l.length ≤ 100000) (k : Nat) (hk : l.length < k) : capstanref07_kinds.f k l = some (l.all kd) := by
  have := refKinds_l0 l hl l.length k 0 (by omega) hk
  unfold capstanref07_kinds.f
  simpa using this
theorem sameK_l0 (x y : List Int) (hx : x.length ≤ 100000) (hy : x.length = y.length) (d : Nat) : ∀ (k i : Nat), i + d = x.length → d < k → capstanref07_SameKinds.l0 k x y i = some (decide (x.drop i = y.drop i)) := by
  induction d with
  | zero =>
    intro k i hi hk
    obtain ⟨k, rfl⟩ : ∃ n, k = n + 1 := ⟨k - 1, by omega⟩
    simp only [capstanref07_SameKinds.l0]
    rw [if_neg (by omega), List.drop_eq_nil_of_le (by omega), List.drop_eq_nil_of_le (by omega)]; rfl
  | succ d ih =>
    intro k i hi hk
    obtain ⟨k, rfl⟩ : ∃ n, k = n + 1 := ⟨k - 1, by omega⟩
    have hr := ih k (i + 1) (by omega) (by omega)
    simp only [capstanref07_SameKinds.l0]
    rw [if_pos (by omega), if_pos (by omega), if_pos (by omega), rd_at (by omega : i < x.length), rd_at (by omega : i < y.length), wrap64_id (by omega) (by omega), show ((i : Int) + 1) = ((i + 1 : Nat) : Int) by omega, hr, List.drop_eq_getElem_cons (by omega : i < x.length), List.drop_eq_getElem_cons (by omega : i < y.length)]
    by_cases h : x[i] = y[i]
    · rw [if_pos h]
      congr 1; rw [Bool.eq_iff_iff, decide_eq_true_eq, decide_eq_true_eq, List.cons.injEq]
      exact ⟨fun e => ⟨h, e⟩, fun e => e.2⟩
    · rw [if_neg h, decide_eq_false (fun c => h (List.cons.inj c).1)]
theorem sameK_f (x y : List Int) (hx : x.length ≤ 100000) (k : Nat) (hk : x.length < k) : capstanref07_SameKinds.f k x y = some (decide (x = y)) := by
  unfold capstanref07_SameKinds.f
  by_cases h : x.length = y.length
  · have hr := sameK_l0 x y hx h x.length k 0 (by omega) hk
    rw [if_pos (by omega)]
    exact hr
  · rw [if_neg (by omega), decide_eq_false (fun c => h (by rw [c]))]
theorem equal_l0 (x y : List Int) (hx : x.length ≤ 100000) (hy : x.length = y.length) (d : Nat) : ∀ (k i : Nat), i + d = x.length → d < k → slices_Equal_uint8_uint8.l0 k x y x.length i = some (decide (x.drop i = y.drop i)) := by
  induction d with
  | zero =>
    intro k i hi hk
    obtain ⟨k, rfl⟩ : ∃ n, k = n + 1 := ⟨k - 1, by omega⟩
    simp only [slices_Equal_uint8_uint8.l0]
    rw [if_neg (by omega), List.drop_eq_nil_of_le (by omega), List.drop_eq_nil_of_le (by omega)]; rfl
  | succ d ih =>
    intro k i hi hk
    obtain ⟨k, rfl⟩ : ∃ n, k = n + 1 := ⟨k - 1, by omega⟩
    have hr := ih k (i + 1) (by omega) (by omega)
    simp only [slices_Equal_uint8_uint8.l0]
    rw [if_pos (by omega), if_pos (by omega), if_pos (by omega), if_pos (by omega), rd_at (by omega : i < x.length), rd_at (by omega : i < y.length), wrap64_id (by omega) (by omega), show ((i : Int) + 1) = ((i + 1 : Nat) : Int) by omega, hr, List.drop_eq_getElem_cons (by omega : i < x.length), List.drop_eq_getElem_cons (by omega : i < y.length)]
    by_cases h : x[i] = y[i]
    · rw [if_pos h]
      congr 1; rw [Bool.eq_iff_iff, decide_eq_true_eq, decide_eq_true_eq, List.cons.injEq]
      exact ⟨fun e => ⟨h, e⟩, fun e => e.2⟩
    · rw [if_neg h, decide_eq_false (fun c => h (List.cons.inj c).1)]
theorem equal_f (x y : List Int) (hx : x.length ≤ 100000) (k : Nat) (hk : x.length < k) : slices_Equal_uint8_uint8.f k x y = some (decide (x = y)) := by
  unfold slices_Equal_uint8_uint8.f
  by_cases h : x.length = y.length
  · have hr := equal_l0 x y hx h x.length k 0 (by omega) hk
    rw [if_pos (by omega)]
    exact hr
  · rw [if_neg (by omega), decide_eq_false (fun c => h (by rw [c]))]
/-- Are heads the same? -/
def msame (a b : List Int) (r : Int) (q : Bool) (fu st hp : Int) (a' b' : List Int) (r' : Int) (q' : Bool) (fu' st' hp' : Int) : Bool := decide (a = a') && (decide (b = b') && (r == r' && (q == q' && (fu == fu' && (st == st' && hp == hp')))))
theorem msame_iff {a b : List Int} {r : Int} {q : Bool} {fu st hp : Int} {a' b' : List Int} {r' : Int} {q' : Bool} {fu' st' hp' : Int} : msame a b r q fu st hp a' b' r' q' fu' st' hp' = true ↔ a = a' ∧ b = b' ∧ r = r' ∧ q = q' ∧ fu = fu' ∧ st = st' ∧ hp = hp' := by
  simp [msame]
theorem mSame_f (a b : List Int) (r : Int) (q : Bool) (fu st hp : Int) (code : List S75) (a' b' : List Int) (r' : Int) (q' : Bool) (fu' st' hp' : Int) (code' : List S75) (ha : a.length ≤ 100) (hb : b.length ≤ 100) (k : Nat) (hk : 300 ≤ k) : method_Same.f k a b r q fu st hp code a' b' r' q' fu' st' hp' code' = some (msame a b r q fu st hp a' b' r' q' fu' st' hp') := by
  unfold method_Same.f msame method_of.f
  rw [equal_f a a' (by omega) k (by omega), Option.bind_some]
  by_cases h : a = a'
  · rw [if_pos (decide_eq_true h), equal_f b b' (by omega) k (by omega), Option.bind_some, decide_eq_true h, Bool.true_and]
    by_cases h2 : b = b'
    · rw [if_pos (decide_eq_true h2), decide_eq_true h2, Bool.true_and]; rfl
    · rw [if_neg (by simpa using h2), decide_eq_false h2, Bool.false_and]
  · rw [if_neg (by simpa using h), decide_eq_false h, Bool.false_and]
theorem refSame7_f (a b : List Int) (r : Int) (q : Bool) (fu st hp : Int) (code : List S75) (a' b' : List Int) (r' : Int) (q' : Bool) (fu' st' hp' : Int) (code' : List S75) (ha : a.length ≤ 100) (hb : b.length ≤ 100) (k : Nat) (hk : 300 ≤ k) : capstanref07_Same.f k a b r q fu st hp code a' b' r' q' fu' st' hp' code' = some (msame a b r q fu st hp a' b' r' q' fu' st' hp') := by
  unfold capstanref07_Same.f msame
  rw [sameK_f a a' (by omega) k (by omega), Option.bind_some]
  by_cases h : a = a'
  · rw [if_pos (decide_eq_true h), sameK_f b b' (by omega) k (by omega), Option.bind_some, decide_eq_true h, Bool.true_and]
    by_cases h2 : b = b'
    · rw [if_pos (decide_eq_true h2), decide_eq_true h2, Bool.true_and]
      by_cases h3 : r = r' <;> by_cases h5 : fu = fu' <;> by_cases h6 : st = st' <;> cases h4 : (q == q') <;> simp [h3, h5, h6]
    · rw [if_neg (by simpa using h2), decide_eq_false h2, Bool.false_and]
  · rw [if_neg (by simpa using h), decide_eq_false h, Bool.false_and]
/-- A head's bytes. -/
def mhead (a b : List Int) (r : Int) (q : Bool) (fu st hp : Int) : List Int := (a.length : Int) :: (a ++ (b.length : Int) :: (b ++ [r, if q = true then 1 else 0] ++ (leb 3 fu ++ (leb 2 st ++ leb 2 hp))))
def mbytes (a b : List Int) (r : Int) (q : Bool) (fu st hp : Int) : List Int × Int := if mmay a b r fu st hp = true then (mhead a b r q fu st hp, 0) else ([], 70)
end Go.Proofs.YthmjblmdbcmjcaaDoor.M.MC
namespace Go.Proofs.YthmjblmdbcmjcaaDoor.M.MC
open Go.RowKit Go.Proofs.YthmjblmdbcmjcaaDoor.P Go.Proofs.YthmjblmdbcmjcaaDoorW.PrintWords Go.Proofs.YthmjblmdbcmjcaaDoorW.PrintLast Go.Proofs.YthmjblmdbcmjcaaDoorW.PrintMore

theorem refMay7_j (x : Bool) (a b : List Int) (r : Int) (q : Bool) (fu st hp : Int) (code : List S75) (k : Nat) (hk : 0 < k) : capstanref07_May.j0 k x a b r q fu st hp code = some (!x && decide ((r = 1 ∨ r = 2) ∧ 0 ≤ fu ∧ fu ≤ 1048576 ∧ 0 ≤ st ∧ st ≤ 256 ∧ 0 ≤ hp ∧ hp ≤ 1024)) := by
  obtain ⟨k, rfl⟩ : ∃ n, k = n + 1 := ⟨k - 1, by omega⟩
  simp only [capstanref07_May.j0]
  cases x
  · rw [if_neg (by decide), Bool.not_false, Bool.true_and]
    by_cases h : (r = 1 ∨ r = 2)
    · have e : (if fu ≥ 0 then (if fu ≤ 1048576 then (if st ≥ 0 then (if st ≤ 256 then (if hp ≥ 0 then (some (decide (hp ≤ 1024))) else (some false)) else (some false)) else (some false)) else (some false)) else (some false)) = some (decide ((r = 1 ∨ r = 2) ∧ 0 ≤ fu ∧ fu ≤ 1048576 ∧ 0 ≤ st ∧ st ≤ 256 ∧ 0 ≤ hp ∧ hp ≤ 1024)) := by
        by_cases h1 : fu ≥ 0
        · by_cases h2 : fu ≤ 1048576
          · by_cases h3 : st ≥ 0
            · by_cases h4 : st ≤ 256
              · by_cases h5 : hp ≥ 0
                · rw [if_pos h1, if_pos h2, if_pos h3, if_pos h4, if_pos h5]
                  congr 1; rw [Bool.eq_iff_iff, decide_eq_true_eq, decide_eq_true_eq]; omega
                · rw [if_pos h1, if_pos h2, if_pos h3, if_pos h4, if_neg h5, decide_eq_false (by omega)]
              · rw [if_pos h1, if_pos h2, if_pos h3, if_neg h4, decide_eq_false (by omega)]
            · rw [if_pos h1, if_pos h2, if_neg h3, decide_eq_false (by omega)]
          · rw [if_pos h1, if_neg h2, decide_eq_false (by omega)]
        · rw [if_neg h1, decide_eq_false (by omega)]
      by_cases h1 : r = 1
      · rw [if_pos h1]; exact e
      · rw [if_neg h1, if_pos (by omega)]; exact e
    · rw [if_neg (by omega), if_neg (by omega), decide_eq_false (by omega)]
  · rw [if_pos rfl, Bool.not_true, Bool.false_and]
theorem refMay7_f (a b : List Int) (r : Int) (q : Bool) (fu st hp : Int) (code : List S75) (ha : a.length ≤ 100000) (hb : b.length ≤ 100000) (k : Nat) (hk : 30 ≤ k) : capstanref07_May.f k a b r q fu st hp code = some (mmay a b r fu st hp) := by
  unfold capstanref07_May.f mmay
  by_cases h1 : (a.length : Int) > 4
  · rw [if_pos h1, refMay7_j _ _ _ _ _ _ _ _ _ _ (by omega), decide_eq_false (by omega : ¬ (a.length + b.length ≤ 16 ∧ a.length ≤ 4))]; rfl
  rw [if_neg h1, wrap64_id (by omega) (by omega)]
  by_cases h2 : (b.length : Int) > 16 - (a.length : Int)
  · rw [if_pos h2, refMay7_j _ _ _ _ _ _ _ _ _ _ (by omega), decide_eq_false (by omega : ¬ (a.length + b.length ≤ 16 ∧ a.length ≤ 4))]; rfl
  rw [if_neg h2, decide_eq_true (by omega), Bool.true_and, refKinds_f a ha _ (by omega), Option.bind_some]
  cases h3 : a.all kd
  · rw [if_neg (by decide), refMay7_j _ _ _ _ _ _ _ _ _ _ (by omega)]; rfl
  · rw [if_pos rfl, refKinds_f b hb _ (by omega), Option.bind_some, refMay7_j _ _ _ _ _ _ _ _ _ _ (by omega), Bool.not_not, Bool.true_and]
theorem concat_f (a b : List Int) (ha : a.length ≤ 100000) (hb : b.length ≤ 100000) (k : Nat) (hk : 10 ≤ k) : slices_Concat_uint8_uint8.f k [a, b] = some (a ++ b) := by
  obtain ⟨k, rfl⟩ : ∃ n, k = n + 10 := ⟨k - 10, by omega⟩
  unfold slices_Concat_uint8_uint8.f
  have e0 : rd_L4 [a, b] 0 = a := rfl
  have e1 : rd_L4 [a, b] 1 = b := rfl
  simp only [slices_Concat_uint8_uint8.l0]
  have w1 : wrap64 (0 + 1) = 1 := wrap64_id (by omega) (by omega)
  have w2 : wrap64 (1 + 1) = 2 := wrap64_id (by omega) (by omega)
  have w3 : wrap64 (0 + (a.length : Int)) = a.length := by rw [wrap64_id (by omega) (by omega)]; omega
  have w4 : wrap64 ((a.length : Int) + b.length) = a.length + b.length := wrap64_id (by omega) (by omega)
  have hL : (([a, b] : List (List Int)).length : Int) = 2 := rfl
  rw [hL, if_pos (by decide), if_pos (by decide), if_pos (by decide), e0, w3, if_neg (by omega), w1, if_pos (by decide), if_pos (by decide), if_pos (by decide), e1, w4, if_neg (by omega), w2, if_neg (by decide)]
  unfold slices_Grow_uint8_uint8.f
  rw [if_pos (by omega), Option.bind_some]
  simp only [slices_Concat_uint8_uint8.l1]
  rw [hL, if_pos (by decide), if_pos (by decide), if_pos (by decide), e0, if_pos (by simp; omega), w1, if_pos (by decide), if_pos (by decide), if_pos (by decide), e1, if_pos (by simp; omega), w2, if_neg (by decide), List.nil_append]
theorem mKinds_f (a b : List Int) (r : Int) (q : Bool) (fu st hp : Int) (code : List S75) (ha : a.length ≤ 100000) (hb : b.length ≤ 100000) (k : Nat) (hk : 10 ≤ k) : method_Kinds.f k a b r q fu st hp code = some (a ++ b) := by
  unfold method_Kinds.f
  rw [concat_f a b ha hb k hk]; rfl
theorem local_f (x : Int) : method_local.f x = some (kd x) := by
  unfold method_local.f kd
  rw [zero_f, Option.bind_some]
  unfold zero
  by_cases h : x = 1 ∨ x = 2 ∨ x = 3
  · rw [if_pos h, decide_eq_true h]
  · rw [if_neg h, decide_eq_false h]
theorem within_f (n m : Int) : method_within.f n m = some (decide (0 ≤ n ∧ n ≤ m)) := by
  unfold method_within.f
  split
  · congr 1; rw [Bool.eq_iff_iff, decide_eq_true_eq, decide_eq_true_eq]; omega
  · rw [decide_eq_false (by omega)]
theorem mMay_l0 (l : List Int) (hl : l.length ≤ 100000) (a b : List Int) (r : Int) (q : Bool) (fu st hp : Int) (code : List S75) (d : Nat) : ∀ (k i : Nat), i + d = l.length → d < k → method_May.l0 k l l.length i a b r q fu st hp code = some ((l.drop i).all kd && decide (0 ≤ fu ∧ fu ≤ 1048576 ∧ 0 ≤ st ∧ st ≤ 256 ∧ 0 ≤ hp ∧ hp ≤ 1024)) := by
  induction d with
  | zero =>
    intro k i hi hk
    obtain ⟨k, rfl⟩ : ∃ n, k = n + 1 := ⟨k - 1, by omega⟩
    simp only [method_May.l0]
    rw [if_neg (by omega), List.drop_eq_nil_of_le (by omega), List.all_nil, Bool.true_and, within_f, Option.bind_some]
    by_cases h1 : 0 ≤ fu ∧ fu ≤ 1048576
    · rw [if_pos (decide_eq_true h1), within_f, Option.bind_some]
      by_cases h2 : 0 ≤ st ∧ st ≤ 256
      · rw [if_pos (decide_eq_true h2), within_f, Option.bind_some]
        congr 1; rw [Bool.eq_iff_iff, decide_eq_true_eq, decide_eq_true_eq]; omega
      · rw [if_neg (by simpa using h2), decide_eq_false (by omega)]
    · rw [if_neg (by simpa using h1), decide_eq_false (by omega)]
  | succ d ih =>
    intro k i hi hk
    obtain ⟨k, rfl⟩ : ∃ n, k = n + 1 := ⟨k - 1, by omega⟩
    have hr := ih k (i + 1) (by omega) (by omega)
    simp only [method_May.l0]
    rw [if_pos (by omega), if_pos (by omega), if_pos (by omega), rd_at (by omega : i < l.length), local_f, Option.bind_some, List.drop_eq_getElem_cons (by omega : i < l.length), List.all_cons, wrap64_id (by omega) (by omega), show ((i : Int) + 1) = ((i + 1 : Nat) : Int) by omega, hr]
    cases kd l[i]
    · rw [if_neg (by decide), Bool.false_and, Bool.false_and]
    · rw [if_pos rfl, Bool.true_and]
theorem mMay_j0 (x : Bool) (a b : List Int) (r : Int) (q : Bool) (fu st hp : Int) (code : List S75) (ha : a.length ≤ 100000) (hb : b.length ≤ 100) (hab : a.length ≤ 100) (k : Nat) (hk : 300 ≤ k) : method_May.j0 k x a b r q fu st hp code = some (!x && ((a ++ b).all kd && decide (0 ≤ fu ∧ fu ≤ 1048576 ∧ 0 ≤ st ∧ st ≤ 256 ∧ 0 ≤ hp ∧ hp ≤ 1024))) := by
  obtain ⟨k, rfl⟩ : ∃ n, k = n + 1 := ⟨k - 1, by omega⟩
  simp only [method_May.j0]
  cases x
  · have hr := mMay_l0 (a ++ b) (by simp; omega) a b r q fu st hp code (a ++ b).length k 0 (by omega) (by simp; omega)
    rw [if_neg (by decide), mKinds_f _ _ _ _ _ _ _ _ (by omega) (by omega) _ (by omega), Option.bind_some, show (0 : Int) = ((0 : Nat) : Int) from rfl, hr]; rfl
  · rw [if_pos rfl]; rfl
theorem mMay_f (a b : List Int) (r : Int) (q : Bool) (fu st hp : Int) (code : List S75) (ha : a.length ≤ 100) (hb : b.length ≤ 100) (k : Nat) (hk : 300 ≤ k) : method_May.f k a b r q fu st hp code = some (mmay a b r fu st hp) := by
  unfold method_May.f mmay
  by_cases h1 : (a.length : Int) > 4
  · rw [if_pos h1, mMay_j0 _ _ _ _ _ _ _ _ _ (by omega) hb ha _ hk, decide_eq_false (by omega : ¬ (a.length + b.length ≤ 16 ∧ a.length ≤ 4))]; rfl
  rw [if_neg h1, wrap64_id (by omega) (by omega)]
  by_cases h2 : (a.length : Int) + b.length > 16
  · rw [if_pos h2, mMay_j0 _ _ _ _ _ _ _ _ _ (by omega) hb ha _ hk, decide_eq_false (by omega : ¬ (a.length + b.length ≤ 16 ∧ a.length ≤ 4))]; rfl
  rw [if_neg h2, decide_eq_true (by omega), Bool.true_and]
  by_cases h3 : r = 1
  · rw [if_pos h3, mMay_j0 _ _ _ _ _ _ _ _ _ (by omega) hb ha _ hk, List.all_append, Bool.not_false, Bool.true_and, Bool.and_assoc]
    congr 3; rw [Bool.eq_iff_iff, decide_eq_true_eq, decide_eq_true_eq]; omega
  · rw [if_neg h3, mMay_j0 _ _ _ _ _ _ _ _ _ (by omega) hb ha _ hk, List.all_append]
    by_cases h4 : r = 2
    · rw [h4, bne_self_eq_false, Bool.not_false, Bool.true_and, Bool.and_assoc]
      congr 3; rw [Bool.eq_iff_iff, decide_eq_true_eq, decide_eq_true_eq]; omega
    · rw [decide_eq_false (by omega : ¬ ((r = 1 ∨ r = 2) ∧ _)), show (r != 2) = true by rw [bne_iff_ne]; exact h4, Bool.not_true, Bool.false_and, Bool.and_false, Bool.and_false]
/-- Do values fit kinds, from a place on? -/
def fitl (x : List S73) (a : List Int) : Nat → Int → Bool
  | 0, _ => true
  | d + 1, i => decide ((rd_T73 x i).f0 = rd a i) && (inside (rd_T73 x i).f0 (rd_T73 x i).f1 (rd_T73 x i).f2 && fitl x a d (i + 1))
theorem put_3 {n : Int} (h : 0 ≤ n ∧ n ≤ 1048576) : put 3 n = (leb 3 n, 0) := by
  unfold put
  rw [if_neg (by omega), if_pos ⟨h.1, .inr (by rw [show (256 : Int) ^ (3 : Int).toNat = 16777216 from rfl]; omega)⟩]; rfl
theorem put_2 {n : Int} (h : 0 ≤ n ∧ n ≤ 1024) : put 2 n = (leb 2 n, 0) := by
  unfold put
  rw [if_neg (by omega), if_pos ⟨h.1, .inr (by rw [show (256 : Int) ^ (2 : Int).toNat = 65536 from rfl]; omega)⟩]; rfl
theorem mBytes_l0 (y : List Int) (hy : y.length ≤ 1000) (fu st hp : Int) (h1 : 0 ≤ fu ∧ fu ≤ 1048576) (h2 : 0 ≤ st ∧ st ≤ 256) (h3 : 0 ≤ hp ∧ hp ≤ 1024) (k : Nat) (hk : 20 ≤ k) : method_Bytes.l0 k y 0 3 fu 2 st 2 hp = some (y ++ (leb 3 fu ++ (leb 2 st ++ leb 2 hp)), 0) := by
  obtain ⟨k, rfl⟩ : ∃ n, k = n + 4 := ⟨k - 4, by omega⟩
  have l1 := leb_length 3 fu
  have l2 := leb_length 2 st
  have l3 := leb_length 2 hp
  simp only [method_Bytes.l0]
  have w1 : wrap64 (0 + 1) = 1 := wrap64_id (by omega) (by omega)
  have w2 : wrap64 (1 + 1) = 2 := wrap64_id (by omega) (by omega)
  have w3 : wrap64 (2 + 1) = 3 := wrap64_id (by omega) (by omega)
  rw [if_pos (by decide), if_pos (by decide), w1, show pick3 0 3 2 2 = 3 from rfl, show pick3 0 fu st hp = fu from rfl, put_f 3 fu _ (by omega), put_3 h1, Option.bind_some]
  dsimp only
  rw [if_pos rfl, if_pos (by omega), if_pos (by decide), if_pos (by decide), w2, show pick3 1 3 2 2 = 2 from rfl, show pick3 1 fu st hp = st from rfl, put_f 2 st _ (by omega), put_2 ⟨h2.1, by omega⟩, Option.bind_some]
  dsimp only
  rw [if_pos rfl, if_pos (by simp; omega), if_pos (by decide), if_pos (by decide), w3, show pick3 2 3 2 2 = 2 from rfl, show pick3 2 fu st hp = hp from rfl, put_f 2 hp _ (by omega), put_2 ⟨h3.1, by omega⟩, Option.bind_some]
  dsimp only
  rw [if_pos rfl, if_pos (by simp; omega), if_neg (by decide)]
  simp
theorem mBytes_f (a b : List Int) (r : Int) (q : Bool) (fu st hp : Int) (code : List S75) (ha : a.length ≤ 100) (hb : b.length ≤ 100) (k : Nat) (hk : 300 ≤ k) : method_Bytes.f k a b r q fu st hp code = some (mbytes a b r q fu st hp) := by
  obtain ⟨k, rfl⟩ : ∃ n, k = n + 1 := ⟨k - 1, by omega⟩
  unfold method_Bytes.f mbytes
  rw [mMay_f a b r q fu st hp code ha hb _ hk, Option.bind_some]
  cases hm : mmay a b r fu st hp
  · rw [if_neg (by decide), if_neg (by decide)]
  · obtain ⟨_, _, _, h4, h5⟩ := mmay_iff.1 hm
    rw [if_pos rfl, if_pos rfl, Option.bind_some, if_pos (by simp; omega), Option.bind_some, if_pos (by simp; omega), Option.bind_some, if_pos (by simp; omega), Option.bind_some, Option.bind_some, if_pos (by simp; omega), Option.bind_some]
    simp only [method_Bytes.j0]
    rw [show (a.length : Int) % 256 = a.length by omega, show (b.length : Int) % 256 = b.length by omega]
    have hl : ([(a.length : Int)] ++ a ++ [(b.length : Int)] ++ b ++ [r, 0]).length = a.length + b.length + 4 := by simp; omega
    have hl2 : ([(a.length : Int)] ++ a ++ [(b.length : Int)] ++ b ++ [r, 1]).length = a.length + b.length + 4 := by simp; omega
    rw [hl, wrap64_id (by omega) (by omega)]
    cases q
    · rw [if_neg (by decide), mBytes_l0 _ (by omega) fu st hp (by omega) (by omega) (by omega) _ (by omega)]
      simp [mhead]
    · rw [if_pos rfl, if_pos (by omega), if_pos (by omega)]
      have hs : ([(a.length : Int)] ++ a ++ [(b.length : Int)] ++ b ++ [r, 0]).set (((a.length + b.length + 4 : Nat) : Int) - 1).toNat 1 = [(a.length : Int)] ++ a ++ [(b.length : Int)] ++ b ++ [r, 1] := by
        rw [show ((((a.length + b.length + 4 : Nat) : Int) - 1).toNat) = ([(a.length : Int)] ++ a ++ [(b.length : Int)] ++ b).length + 1 by simp; omega, List.set_append_right _ _ (by omega)]
        simp
      rw [hs, mBytes_l0 _ (by omega) fu st hp (by omega) (by omega) (by omega) _ (by omega)]
      simp [mhead]
theorem refBytes7_f (a b : List Int) (r : Int) (q : Bool) (fu st hp : Int) (code : List S75) (ha : a.length ≤ 100) (hb : b.length ≤ 100) (k : Nat) (hk : 300 ≤ k) : capstanref07_Bytes.f k a b r q fu st hp code = some (mbytes a b r q fu st hp) := by
  unfold capstanref07_Bytes.f mbytes
  rw [refMay7_f a b r q fu st hp code (by omega) (by omega) _ (by omega), Option.bind_some]
  cases hm : mmay a b r fu st hp
  · rw [if_neg (by decide), if_neg (by decide)]
  · obtain ⟨_, _, _, h4, h5⟩ := mmay_iff.1 hm
    have l1 := leb_length 3 fu
    have l2 := leb_length 2 st
    have l3 := leb_length 2 hp
    rw [if_pos rfl, if_pos rfl, Option.bind_some, if_pos (by simp; omega), Option.bind_some, if_pos (by simp; omega), Option.bind_some, if_pos (by simp; omega), Option.bind_some, if_pos (by simp; omega), Option.bind_some]
    rw [show (a.length : Int) % 256 = a.length by omega, show (b.length : Int) % 256 = b.length by omega, refPut_f 3 fu (by omega) k (by omega), refPut_f 2 st (by omega) k (by omega), refPut_f 2 hp (by omega) k (by omega), put_3 (by omega), put_2 (by omega : 0 ≤ st ∧ st ≤ 1024), put_2 (by omega : 0 ≤ hp ∧ hp ≤ 1024)]
    cases q
    · rw [if_neg (by decide), if_pos (by simp; omega), Option.bind_some, Option.bind_some, Option.bind_some, Option.bind_some]
      dsimp only
      rw [if_pos (by simp; omega), Option.bind_some, if_pos (by simp; omega), Option.bind_some, if_pos (by simp; omega)]
      simp [mhead]
    · rw [if_pos rfl, if_pos (by simp; omega), Option.bind_some, Option.bind_some, Option.bind_some, Option.bind_some]
      dsimp only
      rw [if_pos (by simp; omega), Option.bind_some, if_pos (by simp; omega), Option.bind_some, if_pos (by simp; omega)]
      simp [mhead]
end Go.Proofs.YthmjblmdbcmjcaaDoor.M.MC
namespace Go.Proofs.YthmjblmdbcmjcaaDoor.M.MC
open Go.RowKit Go.Proofs.YthmjblmdbcmjcaaDoor.P Go.Proofs.YthmjblmdbcmjcaaDoorW.PrintWords Go.Proofs.YthmjblmdbcmjcaaDoorW.PrintLast Go.Proofs.YthmjblmdbcmjcaaDoorW.PrintMore

theorem get_in {l : List Int} (hb : isB l) {a w : Int} (hw : 1 ≤ w ∧ w ≤ 3) (ha : 0 ≤ a) (h : a + w ≤ (l.length : Int)) : get l a w = (val (piece l a w), a + w, 0) ∧ 0 ≤ val (piece l a w) ∧ val (piece l a w) < 256 ^ w.toNat := by
  have hv := val_bound (piece_isB a w hb)
  rw [piece_length ha (by omega) h] at hv
  have h3 : (256 : Int) ^ w.toNat ≤ 16777216 := by
    rcases (by omega : w = 1 ∨ w = 2 ∨ w = 3) with rfl | rfl | rfl <;> decide
  refine ⟨?_, hv⟩
  unfold get
  rw [if_neg (by omega), if_neg (by omega), if_neg (by omega)]
theorem piece_one {l : List Int} {a : Int} (h0 : 0 ≤ a) (h : a < (l.length : Int)) : piece l a 1 = [rd l a] := by
  obtain ⟨i, rfl⟩ : ∃ i : Nat, a = (i : Int) := ⟨a.toNat, by omega⟩
  unfold piece
  rw [Int.toNat_natCast, rd_at (by omega), List.drop_eq_getElem_cons (by omega)]
  rfl
theorem get_one {l : List Int} (hb : isB l) {a : Int} (h0 : 0 ≤ a) (h : a < (l.length : Int)) : get l a 1 = (rd l a, a + 1, 0) := by
  rw [(get_in hb (by omega) h0 (by omega)).1, piece_one h0 h]
  simp [val]
end Go.Proofs.YthmjblmdbcmjcaaDoor.M.MC
namespace Go.Proofs.YthmjblmdbcmjcaaDoor.M.MC
open Go.RowKit Go.Proofs.YthmjblmdbcmjcaaDoor.P Go.Proofs.YthmjblmdbcmjcaaDoorW.PrintWords Go.Proofs.YthmjblmdbcmjcaaDoorW.PrintLast Go.Proofs.YthmjblmdbcmjcaaDoorW.PrintMore

/-- May an instruction be? -/
def imay (x a : Int) : Bool := decide ((bnd x).1 ≤ a) && decide (a ≤ (bnd x).2)
/-- So many instructions from a place on. -/
def cread (l : List Int) : Nat → Int → List S75 → List S75 × Int × Int
  | 0, a, acc => (acc, a, 0)
  | d + 1, a, acc => if (get l a 1).2.2 = 0 then (if (get l a 1).1 < 33 then (if (bnd (get l a 1).1).2 > 0 then (if (get l (a + 1) 2).2.2 = 0 then (if imay (get l a 1).1 (get l (a + 1) 2).1 = true then cread l d (a + 3) (acc ++ [⟨(get l a 1).1, (get l (a + 1) 2).1, 0⟩]) else ([], 0, 40)) else ([], 0, (get l (a + 1) 2).2.2))
      else (if imay (get l a 1).1 0 = true then cread l d (a + 1) (acc ++ [⟨(get l a 1).1, 0, 0⟩]) else ([], 0, 40))) else ([], 0, 40)) else ([], 0, (get l a 1).2.2)
theorem wide_f (n : Fin 256) (k : Nat) (hk : 5 ≤ k) : code_wide.f k ((n : Nat) : Int) = some (decide ((bnd ((n : Nat) : Int)).2 > 0)) := by
  unfold code_wide.f
  rw [bnd_f n k hk, Option.bind_some]
theorem byte_fin {x : Int} (h : 0 ≤ x ∧ x ≤ 255) : ∃ n : Fin 256, x = ((n : Nat) : Int) := ⟨⟨x.toNat, by omega⟩, by simp; omega⟩
end Go.Proofs.YthmjblmdbcmjcaaDoor.M.MC
namespace Go.Proofs.YthmjblmdbcmjcaaDoor.M.MC
open Go.RowKit Go.Proofs.YthmjblmdbcmjcaaDoor.P Go.Proofs.YthmjblmdbcmjcaaDoorW.PrintWords Go.Proofs.YthmjblmdbcmjcaaDoorW.PrintLast Go.Proofs.YthmjblmdbcmjcaaDoorW.PrintMore

abbrev IN : Type := S75
def imays (x : IN) : Bool := decide ((bnd x.f0).1 ≤ x.f1) && (decide (x.f1 ≤ (bnd x.f0).2) && x.f2 == 0)
def isI (l : List IN) : Prop := ∀ x ∈ l, 0 ≤ x.f0 ∧ x.f0 ≤ 255
def cmay (l : List IN) : Bool := decide (1 ≤ l.length ∧ l.length ≤ 200) && l.all imays
def ibytes (x : IN) : List Int := if (bnd x.f0).2 > 0 then x.f0 :: leb 2 x.f1 else [x.f0]
def flat (l : List IN) : List Int := l.flatMap ibytes
def cbytes (l : List IN) : List Int := (l.length : Int) :: flat l
theorem imays_inv {x : IN} (h : imays x = true) (hx : 0 ≤ x.f0 ∧ x.f0 ≤ 255) : x.f0 < 33 ∧ 0 ≤ x.f1 ∧ x.f1 ≤ 1024 ∧ x.f2 = 0 ∧ imay x.f0 x.f1 = true ∧ (¬ (bnd x.f0).2 > 0 → x.f1 = 0) := by
  unfold imays at h
  rw [Bool.and_eq_true, Bool.and_eq_true, decide_eq_true_eq, decide_eq_true_eq, beq_iff_eq] at h
  obtain ⟨h1, h2, h3⟩ := h
  obtain ⟨n, hn⟩ := byte_fin hx
  obtain ⟨_, _, b2, b3⟩ := bnd_all n
  rw [← hn] at b2 b3
  by_cases h4 : (n : Nat) < 33
  · have b4 := b2 h4
    refine ⟨by omega, by omega, by omega, h3, ?_, fun h => by omega⟩
    unfold imay
    rw [decide_eq_true h1, decide_eq_true h2]; rfl
  · rw [b3 h4] at h1 h2
    dsimp only at h1 h2
    omega
theorem ibytes_length (x : IN) : 1 ≤ (ibytes x).length ∧ (ibytes x).length ≤ 3 := by
  unfold ibytes
  split <;> simp [leb_length]
theorem flat_length (l : List IN) : (flat l).length ≤ 3 * l.length := by
  induction l with
  | nil => simp [flat]
  | cons x l ih =>
    have := ibytes_length x
    unfold flat at ih ⊢
    rw [List.flatMap_cons, List.length_append, List.length_cons]
    omega
theorem cmay_inv {l : List IN} (h : cmay l = true) : (1 ≤ l.length ∧ l.length ≤ 200) ∧ l.all imays = true := by
  unfold cmay at h
  rw [Bool.and_eq_true, decide_eq_true_eq] at h
  exact h
end Go.Proofs.YthmjblmdbcmjcaaDoor.M.MC
namespace Go.Proofs.YthmjblmdbcmjcaaDoor.M.MC
open Go.RowKit Go.Proofs.YthmjblmdbcmjcaaDoor.P Go.Proofs.YthmjblmdbcmjcaaDoorW.PrintWords Go.Proofs.YthmjblmdbcmjcaaDoorW.PrintLast Go.Proofs.YthmjblmdbcmjcaaDoorW.PrintMore

theorem rdi_at {l : List IN} {i : Nat} (h : i < l.length) : rd_T75 l (i : Int) = l[i] := by simp [rd_T75, List.getD, List.getElem?_eq_getElem h]
theorem may1_f (x : IN) (hx : 0 ≤ x.f0 ∧ x.f0 ≤ 255) (k : Nat) (hk : 5 ≤ k) : code_May_1.f k x.f0 x.f1 x.f2 = some (!imays x) := by
  obtain ⟨n, hn⟩ := byte_fin hx
  unfold code_May_1.f imays
  rw [hn, opmay_f n _ _ k hk, Option.bind_some]
theorem idx_l0 (l : List IN) (hI : isI l) (hl : l.length ≤ 100000) (d : Nat) : ∀ (k i : Nat), i + d = l.length → d + 10 ≤ k → ∃ r, slices_IndexFunc_api_Instr_api_Instr.l0 k l l.length i = some r ∧ decide (r ≥ 0) = !(l.drop i).all imays := by
  induction d with
  | zero =>
    intro k i hi hk
    obtain ⟨k, rfl⟩ : ∃ n, k = n + 1 := ⟨k - 1, by omega⟩
    refine ⟨-1, ?_, ?_⟩
    · simp only [slices_IndexFunc_api_Instr_api_Instr.l0]
      rw [if_neg (by omega)]
    · rw [List.drop_eq_nil_of_le (by omega)]; rfl
  | succ d ih =>
    intro k i hi hk
    obtain ⟨k, rfl⟩ : ∃ n, k = n + 1 := ⟨k - 1, by omega⟩
    have hx := hI l[i] (List.getElem_mem (by omega))
    simp only [slices_IndexFunc_api_Instr_api_Instr.l0]
    rw [if_pos (by omega), if_pos (by omega), if_pos (by omega), rdi_at (by omega), may1_f _ hx k (by omega), Option.bind_some, List.drop_eq_getElem_cons (by omega : i < l.length), List.all_cons, wrap64_id (x := (i : Int) + 1) (by omega) (by omega), show ((i : Int) + 1) = ((i + 1 : Nat) : Int) by omega]
    cases h : imays l[i]
    · exact ⟨i, by rw [Bool.not_false, if_pos rfl], by rw [decide_eq_true (by omega)]; rfl⟩
    · obtain ⟨r, h1, h2⟩ := ih k (i + 1) (by omega) (by omega)
      exact ⟨r, by rw [Bool.not_true, if_neg (by decide), h1], by rw [h2, Bool.true_and]⟩
theorem cMay_f (l : List IN) (hI : isI l) (hl : l.length ≤ 2000) (k : Nat) (hk : 2100 ≤ k) : code_May.f k l = some (cmay l) := by
  unfold code_May.f cmay
  by_cases h1 : (l.length : Int) > 0
  · rw [if_pos h1]
    by_cases h2 : (l.length : Int) ≤ 200
    · obtain ⟨r, h3, h4⟩ := idx_l0 l hI (by omega) l.length k 0 (by omega) (by omega)
      rw [if_pos h2]
      unfold slices_ContainsFunc_api_Instr_api_Instr.f slices_IndexFunc_api_Instr_api_Instr.f
      rw [show (0 : Int) = ((0 : Nat) : Int) from rfl, h3, Option.bind_some, Option.bind_some, show ((0 : Nat) : Int) = 0 from rfl, h4, List.drop_zero, Bool.not_not, decide_eq_true (by omega : 1 ≤ l.length ∧ l.length ≤ 200), Bool.true_and]
    · rw [if_neg h2, decide_eq_false (by omega), Bool.false_and]
  · rw [if_neg h1, decide_eq_false (by omega), Bool.false_and]
theorem put2_ok {n : Int} (h : 0 ≤ n ∧ n ≤ 1024) : put 2 n = (leb 2 n, 0) := by
  unfold put
  rw [if_neg (by omega), if_pos ⟨h.1, .inr (by rw [show (256 : Int) ^ (2 : Int).toNat = 65536 from rfl]; omega)⟩]; rfl
theorem cBytes_l0 (l : List IN) (hI : isI l) (hl : l.length ≤ 200) (ha : l.all imays = true) (d : Nat) : ∀ (k i : Nat) (acc : List Int), i + d = l.length → acc.length ≤ 3 * i + 1 → d + 20 ≤ k → code_Bytes.l0 k acc l l.length i = some (acc ++ flat (l.drop i), 0) := by
  induction d with
  | zero =>
    intro k i acc hi hc hk
    obtain ⟨k, rfl⟩ : ∃ n, k = n + 1 := ⟨k - 1, by omega⟩
    simp only [code_Bytes.l0]
    rw [if_neg (by omega), List.drop_eq_nil_of_le (by omega)]
    simp [flat]
  | succ d ih =>
    intro k i acc hi hc hk
    obtain ⟨k, rfl⟩ : ∃ n, k = n + 1 := ⟨k - 1, by omega⟩
    have hx := hI l[i] (List.getElem_mem (by omega))
    have hm := List.all_eq_true.1 ha l[i] (List.getElem_mem (by omega))
    obtain ⟨i1, i2, i3, i4, i5, i6⟩ := imays_inv hm hx
    obtain ⟨n, hn⟩ := byte_fin hx
    have ef : flat (l.drop i) = ibytes l[i] ++ flat (l.drop (i + 1)) := by rw [List.drop_eq_getElem_cons (by omega : i < l.length)]; unfold flat; rw [List.flatMap_cons]
    simp only [code_Bytes.l0]
    rw [if_pos (by omega), if_pos (by omega), if_pos (by omega), if_pos (by omega), Option.bind_some, rdi_at (by omega), wrap64_id (x := (i : Int) + 1) (by omega) (by omega), show ((i : Int) + 1) = ((i + 1 : Nat) : Int) by omega]
    have hw : code_wide.f k l[i].f0 = some (decide ((bnd l[i].f0).2 > 0)) := by rw [hn]; exact wide_f n k (by omega)
    rw [hw, Option.bind_some, ef]
    by_cases h2 : (bnd l[i].f0).2 > 0
    · have eb : ibytes l[i] = l[i].f0 :: leb 2 l[i].f1 := by unfold ibytes; rw [if_pos h2]
      rw [decide_eq_true h2, if_pos rfl, put_f 2 _ k (by omega), Option.bind_some, put2_ok ⟨i2, i3⟩, if_pos rfl, if_pos (by simp [leb_length]; omega), ih k (i + 1) _ (by omega) (by simp [leb_length]; omega) (by omega), eb]
      simp
    · have eb : ibytes l[i] = [l[i].f0] := by unfold ibytes; rw [if_neg h2]
      rw [decide_eq_false h2, if_neg (by decide), ih k (i + 1) _ (by omega) (by simp; omega) (by omega), eb]
      simp
theorem cBytes_f (l : List IN) (hI : isI l) (hl : l.length ≤ 2000) (k : Nat) (hk : 2100 ≤ k) : code_Bytes.f k l = some (if cmay l = true then (cbytes l, 0) else ([], 40)) := by
  unfold code_Bytes.f
  rw [cMay_f l hI hl k hk, Option.bind_some]
  cases hm : cmay l
  · rw [if_neg (by decide), if_neg (by decide)]
  · obtain ⟨h1, h2⟩ := cmay_inv hm
    have := cBytes_l0 l hI h1.2 h2 l.length k 0 [(l.length : Int)] (by omega) (by simp) (by omega)
    rw [if_pos rfl, if_pos rfl, show ((l.length : Int)) % 256 = l.length by omega]
    rw [show ((0 : Nat) : Int) = 0 from rfl, List.drop_zero] at this
    rw [this]
    rfl
end Go.Proofs.YthmjblmdbcmjcaaDoor.M.MC
namespace Go.Proofs.YthmjblmdbcmjcaaDoor.M.MC
open Go.RowKit Go.Proofs.YthmjblmdbcmjcaaDoor.P Go.Proofs.YthmjblmdbcmjcaaDoorW.PrintWords Go.Proofs.YthmjblmdbcmjcaaDoorW.PrintLast Go.Proofs.YthmjblmdbcmjcaaDoorW.PrintMore

theorem tBnd_all : ∀ n : Fin 256, capstanref04_Bounds.f 5 ((n : Nat) : Int) = some (bnd ((n : Nat) : Int)) := by decide +kernel
theorem tBnd_f (n : Fin 256) (k : Nat) (hk : 5 ≤ k) : capstanref04_Bounds.f k ((n : Nat) : Int) = some (bnd ((n : Nat) : Int)) := op_up (fun k => capstanref04_Bounds.mono _ k) (tBnd_all n) k hk
theorem tWide_f (x : IN) (hx : 0 ≤ x.f0 ∧ x.f0 ≤ 255) (k : Nat) (hk : 5 ≤ k) : capstanref05_Wide.f k x.f0 = some (decide ((bnd x.f0).2 > 0)) := by
  obtain ⟨n, hn⟩ := byte_fin hx
  unfold capstanref05_Wide.f
  rw [hn, tBnd_f n k hk, Option.bind_some]
theorem tMay_f (x : IN) (hx : 0 ≤ x.f0 ∧ x.f0 ≤ 255) (k : Nat) (hk : 5 ≤ k) : capstanref04_May.f k x.f0 x.f1 x.f2 = some (imays x) := by
  obtain ⟨n, hn⟩ := byte_fin hx
  unfold capstanref04_May.f imays
  rw [hn, tBnd_f n k hk, Option.bind_some]
  by_cases h2 : x.f2 = 0
  · rw [if_pos h2]
    by_cases h : (bnd ((n : Nat) : Int)).1 ≤ x.f1
    · rw [if_pos h, decide_eq_true h, Bool.true_and, h2]
      simp
    · rw [if_neg h, decide_eq_false h, Bool.false_and]
  · rw [if_neg h2, beq_eq_false_iff_ne.mpr h2, Bool.and_false, Bool.and_false]
theorem tMay_l0 (l : List IN) (hI : isI l) (hl : l.length ≤ 2000) (d : Nat) : ∀ (k i : Nat), i + d = min l.length 201 → 2 * d + 20 ≤ k → capstanref05_May.l0 k l i = some (((l.drop i).take d).all imays && decide (1 ≤ l.length ∧ l.length ≤ 200)) := by
  have fin : ∀ (k : Nat) (i : Int), capstanref05_May.j1 (k + 1) l i false = some (decide (1 ≤ l.length ∧ l.length ≤ 200)) := by
    intro k i
    rw [capstanref05_May.j1, if_neg (by decide)]
    by_cases h : (l.length : Int) ≥ 1
    · rw [if_pos h]; congr 1; rw [Bool.eq_iff_iff, decide_eq_true_eq, decide_eq_true_eq]; omega
    · rw [if_neg h, decide_eq_false (by omega)]
  induction d with
  | zero =>
    intro k i hi hk
    obtain ⟨k, rfl⟩ : ∃ n, k = n + 2 := ⟨k - 2, by omega⟩
    rw [List.take_zero, List.all_nil, Bool.true_and, capstanref05_May.l0]
    by_cases h : (i : Int) < (l.length : Int)
    · rw [if_pos h, decide_eq_false (by omega)]; exact fin k i
    · rw [if_neg h]; exact fin k i
  | succ d ih =>
    intro k i hi hk
    obtain ⟨k, rfl⟩ : ∃ n, k = n + 2 := ⟨k - 2, by omega⟩
    have hx := hI l[i] (List.getElem_mem (by omega))
    rw [capstanref05_May.l0, if_pos (by omega), decide_eq_true (by omega), capstanref05_May.j1, if_pos rfl, if_pos (by omega), if_pos (by omega), rdi_at (by omega), tMay_f _ hx k (by omega), Option.bind_some, List.drop_eq_getElem_cons (by omega : i < l.length), List.take_succ_cons, List.all_cons, wrap64_id (x := (i : Int) + 1) (by omega) (by omega), show ((i : Int) + 1) = ((i + 1 : Nat) : Int) by omega]
    cases imays l[i]
    · rw [if_neg (by decide), Bool.false_and, Bool.false_and]
    · rw [if_pos rfl, Bool.true_and]
      exact ih k (i + 1) (by omega) (by omega)
theorem tMay5_f (l : List IN) (hI : isI l) (hl : l.length ≤ 2000) (k : Nat) (hk : 2100 ≤ k) : capstanref05_May.f k l = some (cmay l) := by
  have := tMay_l0 l hI hl (min l.length 201) k 0 (by omega) (by omega)
  unfold capstanref05_May.f cmay
  rw [show (0 : Int) = ((0 : Nat) : Int) from rfl, this, List.drop_zero, Bool.and_comm]
  by_cases h : 1 ≤ l.length ∧ l.length ≤ 200
  · rw [List.take_of_length_le (by omega)]
  · rw [decide_eq_false h, Bool.false_and, Bool.false_and]
theorem tBytes_l0 (l : List IN) (hI : isI l) (hl : l.length ≤ 200) (ha : l.all imays = true) (d : Nat) : ∀ (k i : Nat) (acc : List Int), i + d = l.length → acc.length ≤ 3 * i + 1 → d + 20 ≤ k → capstanref05_Bytes.l0 k l acc i = some (acc ++ flat (l.drop i), 0) := by
  induction d with
  | zero =>
    intro k i acc hi hc hk
    obtain ⟨k, rfl⟩ : ∃ n, k = n + 1 := ⟨k - 1, by omega⟩
    simp only [capstanref05_Bytes.l0]
    rw [if_neg (by omega), List.drop_eq_nil_of_le (by omega)]
    simp [flat]
  | succ d ih =>
    intro k i acc hi hc hk
    obtain ⟨k, rfl⟩ : ∃ n, k = n + 1 := ⟨k - 1, by omega⟩
    have hx := hI l[i] (List.getElem_mem (by omega))
    have hm := List.all_eq_true.1 ha l[i] (List.getElem_mem (by omega))
    obtain ⟨i1, i2, i3, i4, i5, i6⟩ := imays_inv hm hx
    have ef : flat (l.drop i) = ibytes l[i] ++ flat (l.drop (i + 1)) := by rw [List.drop_eq_getElem_cons (by omega : i < l.length)]; unfold flat; rw [List.flatMap_cons]
    simp only [capstanref05_Bytes.l0]
    rw [if_pos (by omega), if_pos (by omega), if_pos (by omega), Option.bind_some, rdi_at (by omega), wrap64_id (x := (i : Int) + 1) (by omega) (by omega), show ((i : Int) + 1) = ((i + 1 : Nat) : Int) by omega, tWide_f _ hx k (by omega), Option.bind_some, ef]
    by_cases h2 : (bnd l[i].f0).2 > 0
    · have eb : ibytes l[i] = l[i].f0 :: leb 2 l[i].f1 := by unfold ibytes; rw [if_pos h2]
      have e2 : [(Int.tmod l[i].f1 256) % 256, (wrap64 (Int.tdiv l[i].f1 256)) % 256] = leb 2 l[i].f1 := by
        rw [tdiv256 i2, tmod256 i2, wrap64_id (by omega) (by omega)]
        simp [leb]
      rw [decide_eq_true h2, if_pos rfl, Option.bind_some, e2, if_pos (by simp [leb_length]; omega), ih k (i + 1) _ (by omega) (by simp [leb_length]; omega) (by omega), eb]
      simp
    · have eb : ibytes l[i] = [l[i].f0] := by unfold ibytes; rw [if_neg h2]
      rw [decide_eq_false h2, if_neg (by decide), ih k (i + 1) _ (by omega) (by simp; omega) (by omega), eb]
      simp
theorem tBytes_f (l : List IN) (hI : isI l) (hl : l.length ≤ 2000) (k : Nat) (hk : 2100 ≤ k) : capstanref05_Bytes.f k l = some (if cmay l = true then (cbytes l, 0) else ([], 40)) := by
  unfold capstanref05_Bytes.f
  rw [tMay5_f l hI hl k hk, Option.bind_some]
  cases hm : cmay l
  · rw [if_neg (by decide), if_neg (by decide)]
  · obtain ⟨h1, h2⟩ := cmay_inv hm
    have := tBytes_l0 l hI h1.2 h2 l.length k 0 [(l.length : Int)] (by omega) (by simp) (by omega)
    rw [if_pos rfl, if_pos rfl, show ((l.length : Int)) % 256 = l.length by omega]
    rw [show ((0 : Nat) : Int) = 0 from rfl, List.drop_zero] at this
    rw [this]
    rfl
/-- Are two rows the same, from a place on? -/
def sm (x y : List IN) : Nat → Nat → Bool
  | 0, _ => true
  | d + 1, i => if (!(((rd_T75 x (i : Int)).f0) == ((rd_T75 y (i : Int)).f0)) || (!(((rd_T75 x (i : Int)).f1) == ((rd_T75 y (i : Int)).f1)) || (!(((rd_T75 x (i : Int)).f2) == ((rd_T75 y (i : Int)).f2))))) = true then false else sm x y d (i + 1)
theorem sm_l0 (x y : List IN) (hx : x.length ≤ 100000) (hy : x.length = y.length) (d : Nat) : ∀ (k i : Nat), i + d = x.length → d < k → slices_Equal_api_Instr_api_Instr.l0 k x y x.length i = some (sm x y d i) := by
  induction d with
  | zero =>
    intro k i hi hk
    obtain ⟨k, rfl⟩ : ∃ n, k = n + 1 := ⟨k - 1, by omega⟩
    simp only [slices_Equal_api_Instr_api_Instr.l0]
    rw [if_neg (by omega), sm]
  | succ d ih =>
    intro k i hi hk
    obtain ⟨k, rfl⟩ : ∃ n, k = n + 1 := ⟨k - 1, by omega⟩
    simp only [slices_Equal_api_Instr_api_Instr.l0]
    rw [if_pos (by omega), if_pos (by omega), if_pos (by omega), if_pos (by omega), sm, wrap64_id (x := (i : Int) + 1) (by omega) (by omega), show ((i : Int) + 1) = ((i + 1 : Nat) : Int) by omega, ih k (i + 1) (by omega) (by omega)]
    split <;> rfl
theorem tsm_l0 (x y : List IN) (hx : x.length ≤ 100000) (hy : x.length = y.length) (d : Nat) : ∀ (k i : Nat), i + d = x.length → d < k → capstanref05_Same.l0 k x y i = some (sm x y d i) := by
  induction d with
  | zero =>
    intro k i hi hk
    obtain ⟨k, rfl⟩ : ∃ n, k = n + 1 := ⟨k - 1, by omega⟩
    simp only [capstanref05_Same.l0]
    rw [if_neg (by omega), sm]
  | succ d ih =>
    intro k i hi hk
    obtain ⟨k, rfl⟩ : ∃ n, k = n + 1 := ⟨k - 1, by omega⟩
    simp only [capstanref05_Same.l0]
    rw [if_pos (by omega), if_pos (by omega), if_pos (by omega), sm, wrap64_id (x := (i : Int) + 1) (by omega) (by omega), show ((i : Int) + 1) = ((i + 1 : Nat) : Int) by omega, ih k (i + 1) (by omega) (by omega)]
    split <;> rfl
def csame (x y : List IN) : Bool := if x.length = y.length then sm x y x.length 0 else false
theorem same_f (x y : List IN) (hx : x.length ≤ 2000) (k : Nat) (hk : 2100 ≤ k) : code_Same.f k x y = some (csame x y) := by
  unfold code_Same.f slices_Equal_api_Instr_api_Instr.f csame
  by_cases h : x.length = y.length
  · have := sm_l0 x y (by omega) h x.length k 0 (by omega) (by omega)
    rw [show ((0 : Nat) : Int) = 0 from rfl] at this
    rw [if_pos (by omega), if_pos h, this, Option.bind_some]
  · rw [if_neg (by omega), if_neg h, Option.bind_some]
theorem tSame_f (x y : List IN) (hx : x.length ≤ 2000) (k : Nat) (hk : 2100 ≤ k) : capstanref05_Same.f k x y = some (csame x y) := by
  unfold capstanref05_Same.f csame
  by_cases h : x.length = y.length
  · have := tsm_l0 x y (by omega) h x.length k 0 (by omega) (by omega)
    rw [show ((0 : Nat) : Int) = 0 from rfl] at this
    rw [if_pos (by omega), if_pos h, this]
  · rw [if_neg (by omega), if_neg h]
theorem csame_self (x : List IN) : csame x x = true := by
  unfold csame
  rw [if_pos rfl]
  have : ∀ d i, sm x x d i = true := by
    intro d
    induction d with
    | zero => intro i; rfl
    | succ d ih => intro i; rw [sm, if_neg (by simp)]; exact ih _
  exact this _ _
end Go.Proofs.YthmjblmdbcmjcaaDoor.M.MC
