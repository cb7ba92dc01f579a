/- Layer 7 in plain terms. -/
import Derived.Test.YthmjblmdbcmjcaaDoorB6
import Derived.Test.YthmjblmdbcmjcaaDoorB7
import Derived.Test.YthmjblmdbcmjcaaDoorB8
import Derived.Test.YthmjblmdbcmjcaaDoorB10
import Derived.Test.YthmjblmdbcmjcaaDoorB12
import Derived.Test.YthmjblmdbcmjcaaDoorB14
import Derived.Test.YthmjblmdbcmjcaaDoorB15
import Derived.Test.YthmjblmdbcmjcaaDoorB16
import Derived.Test.YthmjblmdbcmjcaaDoorB17
import Derived.Test.YthmjblmdbcmjcaaDoorB18
import Derived.Test.YthmjblmdbcmjcaaDoorB20
import Derived.Test.YthmjblmdbcmjcaaDoorB21
import Derived.Test.YthmjblmdbcmjcaaDoorB22
import Derived.Test.YthmjblmdbcmjcaaDoorLA
namespace Go.Proofs.YthmjblmdbcmjcaaDoor.M.MC
open Go.RowKit Go.Proofs.YthmjblmdbcmjcaaDoor.B Go.Proofs.YthmjblmdbcmjcaaDoorW.PrintWords Go.Proofs.YthmjblmdbcmjcaaDoorW.PrintLast Go.Proofs.YthmjblmdbcmjcaaDoorW.PrintMore
def kd (x : Int) : Bool := decide (x = 1 ∨ x = 2 ∨ x = 3)
def mmay (a b : List Int) (r fu st hp : Int) : Bool := decide (a.length + b.length ≤ 16 ∧ a.length ≤ 4) && (a.all kd && (b.all kd && decide ((r = 1 ∨ r = 2) ∧ 0 ≤ fu ∧ fu ≤ 1048576 ∧ 0 ≤ st ∧ st ≤ 256 ∧ 0 ≤ hp ∧ hp ≤ 1024)))
theorem mmay_iff {a b : List Int} {r fu st hp : Int} : mmay a b r fu st hp = true ↔ (a.length + b.length ≤ 16 ∧ a.length ≤ 4) ∧ a.all kd = true ∧ b.all kd = true ∧ (r = 1 ∨ r = 2) ∧ 0 ≤ fu ∧ fu ≤ 1048576 ∧ 0 ≤ st ∧ st ≤ 256 ∧ 0 ≤ hp ∧ hp ≤ 1024 := by
  unfold mmay
  rw [Bool.and_eq_true, Bool.and_eq_true, Bool.and_eq_true, decide_eq_true_eq, decide_eq_true_eq]
theorem sameK_l0 (x y : List Int) (hx : x.length ≤ 100000) (hy : x.length = y.length) (d : Nat) : ∀ (k i : Nat), i + d = x.length → d < k → capstanref07_SameKinds.l0 k x y i = some (decide (x.drop i = y.drop i)) := by
  induction d with
  | zero =>
    intro k i hi hk
    obtain ⟨k, rfl⟩ : ∃ n, k = n + 1 := ⟨k - 1, by omega⟩
    simp only [capstanref07_SameKinds.l0]
    rw [if_neg (by omega), List.drop_eq_nil_of_le (by omega), List.drop_eq_nil_of_le (by omega)]; rfl
  | succ d ih =>
    intro k i hi hk
    obtain ⟨k, rfl⟩ : ∃ n, k = n + 1 := ⟨k - 1, by omega⟩
    have hr := ih k (i + 1) (by omega) (by omega)
    simp only [capstanref07_SameKinds.l0]
    rw [if_pos (by omega), if_pos (by omega), if_pos (by omega), rd_at (by omega : i < x.length), rd_at (by omega : i < y.length), wrap64_id (by omega) (by omega), show ((i : Int) + 1) = ((i + 1 : Nat) : Int) by omega, hr, List.drop_eq_getElem_cons (by omega : i < x.length), List.drop_eq_getElem_cons (by omega : i < y.length)]
    by_cases h : x[i] = y[i]
    · rw [if_pos h]
      congr 1; rw [Bool.eq_iff_iff, decide_eq_true_eq, decide_eq_true_eq, List.cons.injEq]
      exact ⟨fun e => ⟨h, e⟩, fun e => e.2⟩
    · rw [if_neg h, decide_eq_false (fun c => h (List.cons.inj c).1)]
theorem sameK_f (x y : List Int) (hx : x.length ≤ 100000) (k : Nat) (hk : x.length < k) : capstanref07_SameKinds.f k x y = some (decide (x = y)) := by
  unfold capstanref07_SameKinds.f
  by_cases h : x.length = y.length
  · have hr := sameK_l0 x y hx h x.length k 0 (by omega) hk
    rw [if_pos (by omega)]
    exact hr
  · rw [if_neg (by omega), decide_eq_false (fun c => h (by rw [c]))]
theorem equal_l0 (x y : List Int) (hx : x.length ≤ 100000) (hy : x.length = y.length) (d : Nat) : ∀ (k i : Nat), i + d = x.length → d < k → slices_Equal_uint8_uint8.l0 k x y x.length i = some (decide (x.drop i = y.drop i)) := by
  induction d with
  | zero =>
    intro k i hi hk
    obtain ⟨k, rfl⟩ : ∃ n, k = n + 1 := ⟨k - 1, by omega⟩
    simp only [slices_Equal_uint8_uint8.l0]
    rw [if_neg (by omega), List.drop_eq_nil_of_le (by omega), List.drop_eq_nil_of_le (by omega)]; rfl
  | succ d ih =>
    intro k i hi hk
    obtain ⟨k, rfl⟩ : ∃ n, k = n + 1 := ⟨k - 1, by omega⟩
    have hr := ih k (i + 1) (by omega) (by omega)
    simp only [slices_Equal_uint8_uint8.l0]
    rw [if_pos (by omega), if_pos (by omega), if_pos (by omega), if_pos (by omega), rd_at (by omega : i < x.length), rd_at (by omega : i < y.length), wrap64_id (by omega) (by omega), show ((i : Int) + 1) = ((i + 1 : Nat) : Int) by omega, hr, List.drop_eq_getElem_cons (by omega : i < x.length), List.drop_eq_getElem_cons (by omega : i < y.length)]
    by_cases h : x[i] = y[i]
    · rw [if_pos h]
      congr 1; rw [Bool.eq_iff_iff, decide_eq_true_eq, decide_eq_true_eq, List.cons.injEq]
      exact ⟨fun e => ⟨h, e⟩, fun e => e.2⟩
    · rw [if_neg h, decide_eq_false (fun c => h (List.cons.inj c).1)]
theorem equal_f (x y : List Int) (hx : x.length ≤ 100000) (k : Nat) (hk : x.length < k) : slices_Equal_uint8_uint8.f k x y = some (decide (x = y)) := by
  unfold slices_Equal_uint8_uint8.f
  by_cases h : x.length = y.length
  · have hr := equal_l0 x y hx h x.length k 0 (by omega) hk
    rw [if_pos (by omega)]
    exact hr
  · rw [if_neg (by omega), decide_eq_false (fun c => h (by rw [c]))]
def msame (a b : List Int) (r : Int) (q : Bool) (fu st hp : Int) (a' b' : List Int) (r' : Int) (q' : Bool) (fu' st' hp' : Int) : Bool := decide (a = a') && (decide (b = b') && (r == r' && (q == q' && (fu == fu' && (st == st' && hp == hp')))))
theorem msame_iff {a b : List Int} {r : Int} {q : Bool} {fu st hp : Int} {a' b' : List Int} {r' : Int} {q' : Bool} {fu' st' hp' : Int} : msame a b r q fu st hp a' b' r' q' fu' st' hp' = true ↔ a = a' ∧ b = b' ∧ r = r' ∧ q = q' ∧ fu = fu' ∧ st = st' ∧ hp = hp' := by
  simp [msame]
theorem mSame_f (a b : List Int) (r : Int) (q : Bool) (fu st hp : Int) (code : List S75) (a' b' : List Int) (r' : Int) (q' : Bool) (fu' st' hp' : Int) (code' : List S75) (ha : a.length ≤ 100) (hb : b.length ≤ 100) (k : Nat) (hk : 300 ≤ k) : method_Same.f k a b r q fu st hp code a' b' r' q' fu' st' hp' code' = some (msame a b r q fu st hp a' b' r' q' fu' st' hp') := by
  unfold method_Same.f msame method_of.f
  rw [equal_f a a' (by omega) k (by omega), Option.bind_some]
  by_cases h : a = a'
  · rw [if_pos (decide_eq_true h), equal_f b b' (by omega) k (by omega), Option.bind_some, decide_eq_true h, Bool.true_and]
    by_cases h2 : b = b'
    · rw [if_pos (decide_eq_true h2), decide_eq_true h2, Bool.true_and]; rfl
    · rw [if_neg (by simpa using h2), decide_eq_false h2, Bool.false_and]
  · rw [if_neg (by simpa using h), decide_eq_false h, Bool.false_and]
theorem refSame7_f (a b : List Int) (r : Int) (q : Bool) (fu st hp : Int) (code : List S75) (a' b' : List Int) (r' : Int) (q' : Bool) (fu' st' hp' : Int) (code' : List S75) (ha : a.length ≤ 100) (hb : b.length ≤ 100) (k : Nat) (hk : 300 ≤ k) : capstanref07_Same.f k a b r q fu st hp code a' b' r' q' fu' st' hp' code' = some (msame a b r q fu st hp a' b' r' q' fu' st' hp') := by
  unfold capstanref07_Same.f msame
  rw [sameK_f a a' (by omega) k (by omega), Option.bind_some]
  by_cases h : a = a'
  · rw [if_pos (decide_eq_true h), sameK_f b b' (by omega) k (by omega), Option.bind_some, decide_eq_true h, Bool.true_and]
    by_cases h2 : b = b'
    · rw [if_pos (decide_eq_true h2), decide_eq_true h2, Bool.true_and]
      by_cases h3 : r = r' <;> by_cases h5 : fu = fu' <;> by_cases h6 : st = st' <;> cases h4 : (q == q') <;> simp [h3, h5, h6]
    · rw [if_neg (by simpa using h2), decide_eq_false h2, Bool.false_and]
  · rw [if_neg (by simpa using h), decide_eq_false h, Bool.false_and]
def mhead (a b : List Int) (r : Int) (q : Bool) (fu st hp : Int) : List Int := (a.length : Int) :: (a ++ (b.length : Int) :: (b ++ [r, if q = true then 1 else 0] ++ (leb 3 fu ++ (leb 2 st ++ leb 2 hp))))
def mbytes (a b : List Int) (r : Int) (q : Bool) (fu st hp : Int) : List Int × Int := if mmay a b r fu st hp = true then (mhead a b r q fu st hp, 0) else ([], 70)
theorem mhead_isB {a b : List Int} {r : Int} {q : Bool} {fu st hp : Int} (h : mmay a b r fu st hp = true) (ha : isB a) (hb : isB b) : isB (mhead a b r q fu st hp) := by
  obtain ⟨h1, _, _, h4, _⟩ := mmay_iff.1 h
  unfold mhead
  refine isB_cons.2 ⟨by omega, isB_append.2 ⟨ha, isB_cons.2 ⟨by omega, isB_append.2 ⟨isB_append.2 ⟨hb, isB_cons.2 ⟨by omega, isB_cons.2 ⟨by split <;> omega, isB_nil⟩⟩⟩, isB_append.2 ⟨leb_isB _ _, isB_append.2 ⟨leb_isB _ _, leb_isB _ _⟩⟩⟩⟩⟩⟩
theorem mbytes_isB {a b : List Int} {r : Int} {q : Bool} {fu st hp : Int} (ha : isB a) (hb : isB b) : isB (mbytes a b r q fu st hp).1 := by
  unfold mbytes
  split
  · rename_i h; exact mhead_isB h ha hb
  · exact isB_nil
end Go.Proofs.YthmjblmdbcmjcaaDoor.M.MC
namespace Go.Proofs.YthmjblmdbcmjcaaDoor.M.MC
open Go.RowKit Go.Proofs.YthmjblmdbcmjcaaDoor.B Go.Proofs.YthmjblmdbcmjcaaDoorW.PrintWords Go.Proofs.YthmjblmdbcmjcaaDoorW.PrintLast Go.Proofs.YthmjblmdbcmjcaaDoorW.PrintMore
theorem concat_f (a b : List Int) (ha : a.length ≤ 100000) (hb : b.length ≤ 100000) (k : Nat) (hk : 10 ≤ k) : slices_Concat_uint8_uint8.f k [a, b] = some (a ++ b) := by
  obtain ⟨k, rfl⟩ : ∃ n, k = n + 10 := ⟨k - 10, by omega⟩
  unfold slices_Concat_uint8_uint8.f
  have e0 : rd_L1 [a, b] 0 = a := rfl
  have e1 : rd_L1 [a, b] 1 = b := rfl
  simp only [slices_Concat_uint8_uint8.l0]
  have w1 : wrap64 (0 + 1) = 1 := wrap64_id (by omega) (by omega)
  have w2 : wrap64 (1 + 1) = 2 := wrap64_id (by omega) (by omega)
  have w3 : wrap64 (0 + (a.length : Int)) = a.length := by rw [wrap64_id (by omega) (by omega)]; omega
  have w4 : wrap64 ((a.length : Int) + b.length) = a.length + b.length := wrap64_id (by omega) (by omega)
  have hL : (([a, b] : List (List Int)).length : Int) = 2 := rfl
  rw [hL, if_pos (by decide), if_pos (by decide), if_pos (by decide), e0, w3, if_neg (by omega), w1, if_pos (by decide), if_pos (by decide), if_pos (by decide), e1, w4, if_neg (by omega), w2, if_neg (by decide)]
  unfold slices_Grow_uint8_uint8.f
  rw [if_pos (by omega), Option.bind_some]
  simp only [slices_Concat_uint8_uint8.l1]
  rw [hL, if_pos (by decide), if_pos (by decide), if_pos (by decide), e0, if_pos (by simp; omega), w1, if_pos (by decide), if_pos (by decide), if_pos (by decide), e1, if_pos (by simp; omega), w2, if_neg (by decide), List.nil_append]
theorem mKinds_f (a b : List Int) (r : Int) (q : Bool) (fu st hp : Int) (code : List S75) (ha : a.length ≤ 100000) (hb : b.length ≤ 100000) (k : Nat) (hk : 10 ≤ k) : method_Kinds.f k a b r q fu st hp code = some (a ++ b) := by
  unfold method_Kinds.f
  rw [concat_f a b ha hb k hk]; rfl
theorem local_f (x : Int) : method_local.f x = some (kd x) := by
  unfold method_local.f kd
  rw [zero_f, Option.bind_some]
  unfold zero
  by_cases h : x = 1 ∨ x = 2 ∨ x = 3
  · rw [if_pos h, decide_eq_true h]
  · rw [if_neg h, decide_eq_false h]
theorem within_f (n m : Int) : method_within.f n m = some (decide (0 ≤ n ∧ n ≤ m)) := by
  unfold method_within.f
  split
  · congr 1; rw [Bool.eq_iff_iff, decide_eq_true_eq, decide_eq_true_eq]; omega
  · rw [decide_eq_false (by omega)]
theorem mMay_l0 (l : List Int) (hl : l.length ≤ 100000) (a b : List Int) (r : Int) (q : Bool) (fu st hp : Int) (code : List S75) (d : Nat) : ∀ (k i : Nat), i + d = l.length → d < k → method_May.l0 k l l.length i a b r q fu st hp code = some ((l.drop i).all kd && decide (0 ≤ fu ∧ fu ≤ 1048576 ∧ 0 ≤ st ∧ st ≤ 256 ∧ 0 ≤ hp ∧ hp ≤ 1024)) := by
  induction d with
  | zero =>
    intro k i hi hk
    obtain ⟨k, rfl⟩ : ∃ n, k = n + 1 := ⟨k - 1, by omega⟩
    simp only [method_May.l0]
    rw [if_neg (by omega), List.drop_eq_nil_of_le (by omega), List.all_nil, Bool.true_and, within_f, Option.bind_some]
    by_cases h1 : 0 ≤ fu ∧ fu ≤ 1048576
    · rw [if_pos (decide_eq_true h1), within_f, Option.bind_some]
      by_cases h2 : 0 ≤ st ∧ st ≤ 256
      · rw [if_pos (decide_eq_true h2), within_f, Option.bind_some]
        congr 1; rw [Bool.eq_iff_iff, decide_eq_true_eq, decide_eq_true_eq]; omega
      · rw [if_neg (by simpa using h2), decide_eq_false (by omega)]
    · rw [if_neg (by simpa using h1), decide_eq_false (by omega)]
  | succ d ih =>
    intro k i hi hk
    obtain ⟨k, rfl⟩ : ∃ n, k = n + 1 := ⟨k - 1, by omega⟩
    have hr := ih k (i + 1) (by omega) (by omega)
    simp only [method_May.l0]
    rw [if_pos (by omega), if_pos (by omega), if_pos (by omega), rd_at (by omega : i < l.length), local_f, Option.bind_some, List.drop_eq_getElem_cons (by omega : i < l.length), List.all_cons, wrap64_id (by omega) (by omega), show ((i : Int) + 1) = ((i + 1 : Nat) : Int) by omega, hr]
    cases kd l[i]
    · rw [if_neg (by decide), Bool.false_and, Bool.false_and]
    · rw [if_pos rfl, Bool.true_and]
theorem mMay_j0 (x : Bool) (a b : List Int) (r : Int) (q : Bool) (fu st hp : Int) (code : List S75) (ha : a.length ≤ 100000) (hb : b.length ≤ 100) (hab : a.length ≤ 100) (k : Nat) (hk : 300 ≤ k) : method_May.j0 k x a b r q fu st hp code = some (!x && ((a ++ b).all kd && decide (0 ≤ fu ∧ fu ≤ 1048576 ∧ 0 ≤ st ∧ st ≤ 256 ∧ 0 ≤ hp ∧ hp ≤ 1024))) := by
  obtain ⟨k, rfl⟩ : ∃ n, k = n + 1 := ⟨k - 1, by omega⟩
  simp only [method_May.j0]
  cases x
  · have hr := mMay_l0 (a ++ b) (by simp; omega) a b r q fu st hp code (a ++ b).length k 0 (by omega) (by simp; omega)
    rw [if_neg (by decide), mKinds_f _ _ _ _ _ _ _ _ (by omega) (by omega) _ (by omega), Option.bind_some, show (0 : Int) = ((0 : Nat) : Int) from rfl, hr]; rfl
  · rw [if_pos rfl]; rfl
theorem mMay_f (a b : List Int) (r : Int) (q : Bool) (fu st hp : Int) (code : List S75) (ha : a.length ≤ 100) (hb : b.length ≤ 100) (k : Nat) (hk : 300 ≤ k) : method_May.f k a b r q fu st hp code = some (mmay a b r fu st hp) := by
  unfold method_May.f mmay
  by_cases h1 : (a.length : Int) > 4
  · rw [if_pos h1, mMay_j0 _ _ _ _ _ _ _ _ _ (by omega) hb ha _ hk, decide_eq_false (by omega : ¬ (a.length + b.length ≤ 16 ∧ a.length ≤ 4))]; rfl
  rw [if_neg h1, wrap64_id (by omega) (by omega)]
  by_cases h2 : (a.length : Int) + b.length > 16
  · rw [if_pos h2, mMay_j0 _ _ _ _ _ _ _ _ _ (by omega) hb ha _ hk, decide_eq_false (by omega : ¬ (a.length + b.length ≤ 16 ∧ a.length ≤ 4))]; rfl
  rw [if_neg h2, decide_eq_true (by omega), Bool.true_and]
  by_cases h3 : r = 1
  · rw [if_pos h3, mMay_j0 _ _ _ _ _ _ _ _ _ (by omega) hb ha _ hk, List.all_append, Bool.not_false, Bool.true_and, Bool.and_assoc]
    congr 3; rw [Bool.eq_iff_iff, decide_eq_true_eq, decide_eq_true_eq]; omega
  · rw [if_neg h3, mMay_j0 _ _ _ _ _ _ _ _ _ (by omega) hb ha _ hk, List.all_append]
    by_cases h4 : r = 2
    · rw [h4, bne_self_eq_false, Bool.not_false, Bool.true_and, Bool.and_assoc]
      congr 3; rw [Bool.eq_iff_iff, decide_eq_true_eq, decide_eq_true_eq]; omega
    · rw [decide_eq_false (by omega : ¬ ((r = 1 ∨ r = 2) ∧ _)), show (r != 2) = true by rw [bne_iff_ne]; exact h4, Bool.not_true, Bool.false_and, Bool.and_false, Bool.and_false]
def fitl (x : List S73) (a : List Int) : Nat → Int → Bool
  | 0, _ => true
  | d + 1, i => decide ((rd_T73 x i).f0 = rd a i) && (inside (rd_T73 x i).f0 (rd_T73 x i).f1 (rd_T73 x i).f2 && fitl x a d (i + 1))
theorem put_3 {n : Int} (h : 0 ≤ n ∧ n ≤ 1048576) : put 3 n = (leb 3 n, 0) := by
  unfold put
  rw [if_neg (by omega), if_pos ⟨h.1, .inr (by rw [show (256 : Int) ^ (3 : Int).toNat = 16777216 from rfl]; omega)⟩]; rfl
theorem put_2 {n : Int} (h : 0 ≤ n ∧ n ≤ 1024) : put 2 n = (leb 2 n, 0) := by
  unfold put
  rw [if_neg (by omega), if_pos ⟨h.1, .inr (by rw [show (256 : Int) ^ (2 : Int).toNat = 65536 from rfl]; omega)⟩]; rfl
theorem mBytes_l0 (y : List Int) (hy : y.length ≤ 1000) (fu st hp : Int) (h1 : 0 ≤ fu ∧ fu ≤ 1048576) (h2 : 0 ≤ st ∧ st ≤ 256) (h3 : 0 ≤ hp ∧ hp ≤ 1024) (k : Nat) (hk : 20 ≤ k) : method_Bytes.l0 k y 0 3 fu 2 st 2 hp = some (y ++ (leb 3 fu ++ (leb 2 st ++ leb 2 hp)), 0) := by
  obtain ⟨k, rfl⟩ : ∃ n, k = n + 4 := ⟨k - 4, by omega⟩
  have l1 := leb_length 3 fu
  have l2 := leb_length 2 st
  have l3 := leb_length 2 hp
  simp only [method_Bytes.l0]
  have w1 : wrap64 (0 + 1) = 1 := wrap64_id (by omega) (by omega)
  have w2 : wrap64 (1 + 1) = 2 := wrap64_id (by omega) (by omega)
  have w3 : wrap64 (2 + 1) = 3 := wrap64_id (by omega) (by omega)
  rw [if_pos (by decide), if_pos (by decide), w1, show pick3 0 3 2 2 = 3 from rfl, show pick3 0 fu st hp = fu from rfl, put_f 3 fu _ (by omega), put_3 h1, Option.bind_some]
  dsimp only
  rw [if_pos rfl, if_pos (by omega), if_pos (by decide), if_pos (by decide), w2, show pick3 1 3 2 2 = 2 from rfl, show pick3 1 fu st hp = st from rfl, put_f 2 st _ (by omega), put_2 ⟨h2.1, by omega⟩, Option.bind_some]
  dsimp only
  rw [if_pos rfl, if_pos (by simp; omega), if_pos (by decide), if_pos (by decide), w3, show pick3 2 3 2 2 = 2 from rfl, show pick3 2 fu st hp = hp from rfl, put_f 2 hp _ (by omega), put_2 ⟨h3.1, by omega⟩, Option.bind_some]
  dsimp only
  rw [if_pos rfl, if_pos (by simp; omega), if_neg (by decide)]
  simp
theorem mBytes_f (a b : List Int) (r : Int) (q : Bool) (fu st hp : Int) (code : List S75) (ha : a.length ≤ 100) (hb : b.length ≤ 100) (k : Nat) (hk : 300 ≤ k) : method_Bytes.f k a b r q fu st hp code = some (mbytes a b r q fu st hp) := by
  obtain ⟨k, rfl⟩ : ∃ n, k = n + 1 := ⟨k - 1, by omega⟩
  unfold method_Bytes.f mbytes
  rw [mMay_f a b r q fu st hp code ha hb _ hk, Option.bind_some]
  cases hm : mmay a b r fu st hp
  · rw [if_neg (by decide), if_neg (by decide)]
  · obtain ⟨_, _, _, h4, h5⟩ := mmay_iff.1 hm
    rw [if_pos rfl, if_pos rfl, Option.bind_some, if_pos (by simp; omega), Option.bind_some, if_pos (by simp; omega), Option.bind_some, if_pos (by simp; omega), Option.bind_some, Option.bind_some, if_pos (by simp; omega), Option.bind_some]
    simp only [method_Bytes.j0]
    rw [show (a.length : Int) % 256 = a.length by omega, show (b.length : Int) % 256 = b.length by omega]
    have hl : ([(a.length : Int)] ++ a ++ [(b.length : Int)] ++ b ++ [r, 0]).length = a.length + b.length + 4 := by simp; omega
    have hl2 : ([(a.length : Int)] ++ a ++ [(b.length : Int)] ++ b ++ [r, 1]).length = a.length + b.length + 4 := by simp; omega
    rw [hl, wrap64_id (by omega) (by omega)]
    cases q
    · rw [if_neg (by decide), mBytes_l0 _ (by omega) fu st hp (by omega) (by omega) (by omega) _ (by omega)]
      simp [mhead]
    · rw [if_pos rfl, if_pos (by omega), if_pos (by omega)]
      have hs : ([(a.length : Int)] ++ a ++ [(b.length : Int)] ++ b ++ [r, 0]).set (((a.length + b.length + 4 : Nat) : Int) - 1).toNat 1 = [(a.length : Int)] ++ a ++ [(b.length : Int)] ++ b ++ [r, 1] := by
        rw [show ((((a.length + b.length + 4 : Nat) : Int) - 1).toNat) = ([(a.length : Int)] ++ a ++ [(b.length : Int)] ++ b).length + 1 by simp; omega, List.set_append_right _ _ (by omega)]
        simp
      rw [hs, mBytes_l0 _ (by omega) fu st hp (by omega) (by omega) (by omega) _ (by omega)]
      simp [mhead]
end Go.Proofs.YthmjblmdbcmjcaaDoor.M.MC
namespace Go.Proofs.YthmjblmdbcmjcaaDoor.M.MC
open Go.RowKit Go.Proofs.YthmjblmdbcmjcaaDoor.B Go.Proofs.YthmjblmdbcmjcaaDoorW.PrintWords Go.Proofs.YthmjblmdbcmjcaaDoorW.PrintLast Go.Proofs.YthmjblmdbcmjcaaDoorW.PrintMore
theorem got_ok {l : List Int} {a w : Int} (h : (get l a w).2.2 = 0) : (1 ≤ w ∧ w ≤ 8 ∧ 0 ≤ a ∧ a + w ≤ (l.length : Int)) ∧ (get l a w).2.1 = a + w ∧ (get l a w).1 = val (piece l a w) := by
  unfold get at h ⊢
  by_cases h1 : w < 1 ∨ w > 8 ∨ a < 0 ∨ a > (l.length : Int)
  · rw [if_pos h1] at h; exact absurd h (by decide)
  rw [if_neg h1] at h ⊢
  by_cases h2 : (l.length : Int) - a < w
  · rw [if_pos h2] at h; exact absurd h (by decide)
  rw [if_neg h2] at h ⊢
  by_cases h3 : val (piece l a w) > 9223372036854775807
  · rw [if_pos h3] at h; exact absurd h (by decide)
  rw [if_neg h3]
  exact ⟨by omega, rfl, rfl⟩
theorem get_short {l : List Int} {a w : Int} (hw : 1 ≤ w ∧ w ≤ 8) (ha : 0 ≤ a ∧ a ≤ (l.length : Int)) (h : (l.length : Int) - a < w) : get l a w = (0, 0, 10) := by
  unfold get
  rw [if_neg (by omega), if_pos h]
theorem get_in {l : List Int} (hb : isB l) {a w : Int} (hw : 1 ≤ w ∧ w ≤ 3) (ha : 0 ≤ a) (h : a + w ≤ (l.length : Int)) : get l a w = (val (piece l a w), a + w, 0) ∧ 0 ≤ val (piece l a w) ∧ val (piece l a w) < 256 ^ w.toNat := by
  have hv := val_bound (piece_isB a w hb)
  rw [piece_length ha (by omega) h] at hv
  have h3 : (256 : Int) ^ w.toNat ≤ 16777216 := by
    rcases (by omega : w = 1 ∨ w = 2 ∨ w = 3) with rfl | rfl | rfl <;> decide
  refine ⟨?_, hv⟩
  unfold get
  rw [if_neg (by omega), if_neg (by omega), if_neg (by omega)]
theorem piece_one {l : List Int} {a : Int} (h0 : 0 ≤ a) (h : a < (l.length : Int)) : piece l a 1 = [rd l a] := by
  obtain ⟨i, rfl⟩ : ∃ i : Nat, a = (i : Int) := ⟨a.toNat, by omega⟩
  unfold piece
  rw [Int.toNat_natCast, rd_at (by omega), List.drop_eq_getElem_cons (by omega)]
  rfl
theorem get_one {l : List Int} (hb : isB l) {a : Int} (h0 : 0 ≤ a) (h : a < (l.length : Int)) : get l a 1 = (rd l a, a + 1, 0) := by
  rw [(get_in hb (by omega) h0 (by omega)).1, piece_one h0 h]
  simp [val]
theorem st1_bound {l : List Int} (hb : isB l) (a : Int) : 0 ≤ (get l a 1).1 ∧ (get l a 1).1 ≤ 255 := by
  by_cases h : (get l a 1).2.2 = 0
  · obtain ⟨h1, _, _⟩ := got_ok h
    rw [get_one hb h1.2.2.1 (by omega)]
    exact isB_rd hb a
  · unfold get at h ⊢
    split
    · exact ⟨by decide, by decide⟩
    · split
      · exact ⟨by decide, by decide⟩
      · split
        · exact ⟨by decide, by decide⟩
        · rename_i h1 h2 h3; rw [if_neg h1, if_neg h2, if_neg h3] at h; exact absurd rfl h
end Go.Proofs.YthmjblmdbcmjcaaDoor.M.MC
namespace Go.Proofs.YthmjblmdbcmjcaaDoor.M.MC
open Go.RowKit Go.Proofs.YthmjblmdbcmjcaaDoor.B Go.Proofs.YthmjblmdbcmjcaaDoorW.PrintWords Go.Proofs.YthmjblmdbcmjcaaDoorW.PrintLast Go.Proofs.YthmjblmdbcmjcaaDoorW.PrintMore
def imay (x a : Int) : Bool := decide ((bnd x).1 ≤ a) && decide (a ≤ (bnd x).2)
def cread (l : List Int) : Nat → Int → List S75 → List S75 × Int × Int
  | 0, a, acc => (acc, a, 0)
  | d + 1, a, acc => if (get l a 1).2.2 = 0 then (if (get l a 1).1 < 33 then (if (bnd (get l a 1).1).2 > 0 then (if (get l (a + 1) 2).2.2 = 0 then (if imay (get l a 1).1 (get l (a + 1) 2).1 = true then cread l d (a + 3) (acc ++ [⟨(get l a 1).1, (get l (a + 1) 2).1, 0⟩]) else ([], 0, 40)) else ([], 0, (get l (a + 1) 2).2.2))
      else (if imay (get l a 1).1 0 = true then cread l d (a + 1) (acc ++ [⟨(get l a 1).1, 0, 0⟩]) else ([], 0, 40))) else ([], 0, 40)) else ([], 0, (get l a 1).2.2)
def cparse (l : List Int) (a : Int) : List S75 × Int × Int := if (get l a 1).2.2 = 0 then (if 0 < (get l a 1).1 ∧ (get l a 1).1 ≤ 200 then cread l (get l a 1).1.toNat (a + 1) [] else ([], 0, 40)) else ([], 0, (get l a 1).2.2)
theorem wide_f (n : Fin 256) (k : Nat) (hk : 5 ≤ k) : code_wide.f k ((n : Nat) : Int) = some (decide ((bnd ((n : Nat) : Int)).2 > 0)) := by
  unfold code_wide.f
  rw [bnd_f n k hk, Option.bind_some]
theorem imay_f (n : Fin 256) (a : Int) (k : Nat) (hk : 5 ≤ k) : op_May.f k ((n : Nat) : Int) a 0 = some (imay ((n : Nat) : Int) a) := by
  rw [opmay_f n a 0 k hk]
  unfold imay
  simp
theorem byte_fin {x : Int} (h : 0 ≤ x ∧ x ≤ 255) : ∃ n : Fin 256, x = ((n : Nat) : Int) := ⟨⟨x.toNat, by omega⟩, by simp; omega⟩
theorem cread_f {l : List Int} (hb : isB l) (hl : l.length ≤ 140737488355328) (k : Nat) (hk : 12 ≤ k) : ∀ (d : Nat) (a : Int) (acc : List S75), acc.length + d ≤ 1000 → code_Read.l0 k l d a acc = some (cread l d a acc) := by
  intro d
  induction d with
  | zero => intro a acc _; rfl
  | succ d ih =>
    intro a acc h
    have hbd := st1_bound hb a
    simp only [code_Read.l0]
    rw [get_f l hb hl a 1 k hk, Option.bind_some, cread]
    by_cases h1 : (get l a 1).2.2 = 0
    case neg => rw [if_neg h1, if_neg h1]
    obtain ⟨g1, g2, g3⟩ := got_ok h1
    obtain ⟨n, hn⟩ := byte_fin hbd
    rw [if_pos h1, if_pos h1, g2, show (get l a 1).1 % 256 = (get l a 1).1 by omega, hn, known_f n, Option.bind_some]
    by_cases h2 : (n : Nat) < 33
    case neg => rw [decide_eq_false h2, if_neg (by decide), if_neg (show ¬ (((n : Nat) : Int) < 33) by omega)]
    rw [decide_eq_true h2, if_pos rfl, if_pos (show ((n : Nat) : Int) < 33 by omega), wide_f n k (by omega), Option.bind_some]
    by_cases h3 : (bnd ((n : Nat) : Int)).2 > 0
    · rw [decide_eq_true h3, if_pos rfl, if_pos h3, get_f l hb hl (a + 1) 2 k hk, Option.bind_some]
      by_cases h4 : (get l (a + 1) 2).2.2 = 0
      case neg => rw [if_neg h4, if_neg h4]
      obtain ⟨q1, q2, q3⟩ := got_ok h4
      rw [if_pos h4, if_pos h4, imay_f n _ k (by omega), Option.bind_some, q2, show a + 1 + 2 = a + 3 by omega]
      cases h5 : imay ((n : Nat) : Int) (get l (a + 1) 2).1
      · rw [if_neg (by decide), if_neg (by decide)]
      · rw [if_pos rfl, if_pos rfl, if_pos (by omega)]
        exact ih _ _ (by simp; omega)
    · rw [decide_eq_false h3, if_neg (by decide), if_neg h3, imay_f n _ k (by omega), Option.bind_some]
      cases h5 : imay ((n : Nat) : Int) 0
      · rw [if_neg (by decide), if_neg (by decide)]
      · rw [if_pos rfl, if_pos rfl, if_pos (by omega)]
        exact ih _ _ (by simp; omega)
theorem cparse_f {l : List Int} (hb : isB l) (hl : l.length ≤ 140737488355328) (a : Int) (k : Nat) (hk : 12 ≤ k) : code_Read.f k l a = some (cparse l a) := by
  unfold code_Read.f cparse
  rw [get_f l hb hl a 1 k hk, Option.bind_some]
  by_cases h1 : (get l a 1).2.2 = 0
  case neg => rw [if_neg h1, if_neg h1]
  rw [if_pos h1, if_pos h1]
  by_cases h2 : 0 < (get l a 1).1 ∧ (get l a 1).1 ≤ 200
  · rw [if_pos h2, if_pos h2, (got_ok h1).2.1]
    exact cread_f hb hl k hk _ _ _ (by simp; omega)
  · rw [if_neg h2, if_neg h2]
end Go.Proofs.YthmjblmdbcmjcaaDoor.M.MC
namespace Go.Proofs.YthmjblmdbcmjcaaDoor.M.MC
open Go.RowKit Go.Proofs.YthmjblmdbcmjcaaDoor.B Go.Proofs.YthmjblmdbcmjcaaDoorW.PrintWords Go.Proofs.YthmjblmdbcmjcaaDoorW.PrintLast Go.Proofs.YthmjblmdbcmjcaaDoorW.PrintMore
abbrev IN : Type := S75
def imays (x : IN) : Bool := decide ((bnd x.f0).1 ≤ x.f1) && (decide (x.f1 ≤ (bnd x.f0).2) && x.f2 == 0)
def isI (l : List IN) : Prop := ∀ x ∈ l, 0 ≤ x.f0 ∧ x.f0 ≤ 255
def cmay (l : List IN) : Bool := decide (1 ≤ l.length ∧ l.length ≤ 200) && l.all imays
def ibytes (x : IN) : List Int := if (bnd x.f0).2 > 0 then x.f0 :: leb 2 x.f1 else [x.f0]
def flat (l : List IN) : List Int := l.flatMap ibytes
def cbytes (l : List IN) : List Int := (l.length : Int) :: flat l
theorem imays_inv {x : IN} (h : imays x = true) (hx : 0 ≤ x.f0 ∧ x.f0 ≤ 255) : x.f0 < 33 ∧ 0 ≤ x.f1 ∧ x.f1 ≤ 1024 ∧ x.f2 = 0 ∧ imay x.f0 x.f1 = true ∧ (¬ (bnd x.f0).2 > 0 → x.f1 = 0) := by
  unfold imays at h
  rw [Bool.and_eq_true, Bool.and_eq_true, decide_eq_true_eq, decide_eq_true_eq, beq_iff_eq] at h
  obtain ⟨h1, h2, h3⟩ := h
  obtain ⟨n, hn⟩ := byte_fin hx
  obtain ⟨_, _, b2, b3⟩ := bnd_all n
  rw [← hn] at b2 b3
  by_cases h4 : (n : Nat) < 33
  · have b4 := b2 h4
    refine ⟨by omega, by omega, by omega, h3, ?_, fun h => by omega⟩
    unfold imay
    rw [decide_eq_true h1, decide_eq_true h2]; rfl
  · rw [b3 h4] at h1 h2
    dsimp only at h1 h2
    omega
theorem ibytes_length (x : IN) : 1 ≤ (ibytes x).length ∧ (ibytes x).length ≤ 3 := by
  unfold ibytes
  split <;> simp [leb_length]
theorem flat_length (l : List IN) : (flat l).length ≤ 3 * l.length := by
  induction l with
  | nil => simp [flat]
  | cons x l ih =>
    have := ibytes_length x
    unfold flat at ih ⊢
    rw [List.flatMap_cons, List.length_append, List.length_cons]
    omega
theorem flat_isB {l : List IN} (h : isI l) : isB (flat l) := by
  induction l with
  | nil => exact isB_nil
  | cons x l ih =>
    unfold flat at ih ⊢
    rw [List.flatMap_cons]
    refine isB_append.2 ⟨?_, ih fun y hy => h y (List.mem_cons_of_mem _ hy)⟩
    have hx := h x List.mem_cons_self
    unfold ibytes
    split
    · exact isB_cons.2 ⟨hx, leb_isB _ _⟩
    · exact isB_cons.2 ⟨hx, isB_nil⟩
theorem get_mid (x y : List Int) (w : Nat) (n : Int) (hw : 1 ≤ w ∧ w ≤ 3) (h0 : 0 ≤ n) (h1 : n < 256 ^ w) : get (x ++ leb w n ++ y) x.length w = (n, (x.length : Int) + w, 0) := by
  have hp : piece (x ++ leb w n ++ y) (x.length : Int) (w : Int) = leb w n := by
    unfold piece
    rw [Int.toNat_natCast, Int.toNat_natCast, List.append_assoc, List.drop_left]
    exact List.take_left' (leb_length w n)
  have h3 : (256 : Int) ^ w ≤ 16777216 := by
    rcases (by omega : w = 1 ∨ w = 2 ∨ w = 3) with rfl | rfl | rfl <;> decide
  unfold get
  have hl := leb_length w n
  rw [if_neg (by simp; omega), if_neg (by simp; omega), hp, val_leb w n h0 h1, if_neg (by omega)]
theorem get_byte (x y : List Int) (b : Int) (h0 : 0 ≤ b ∧ b ≤ 255) : get (x ++ b :: y) x.length 1 = (b, (x.length : Int) + 1, 0) := by
  have := get_mid x y 1 b (by omega) h0.1 (by omega)
  have e : leb 1 b = [b] := by simp [leb]; omega
  rw [e] at this
  simpa using this
theorem cread_go (y : List Int) (d : Nat) : ∀ (t : List IN) (x : List Int) (acc : List IN), isI t → t.all imays = true → cread (x ++ flat t ++ y) (t.length + d) x.length acc = cread (x ++ flat t ++ y) d ((x.length : Int) + (flat t).length) (acc ++ t) := by
  intro t
  induction t with
  | nil => intro x acc _ _; simp [flat]
  | cons u t ih =>
    intro x acc hI h
    rw [List.all_cons, Bool.and_eq_true] at h
    have hu := hI u List.mem_cons_self
    obtain ⟨i1, i2, i3, i4, i5, i6⟩ := imays_inv h.1 hu
    have hI' : isI t := fun z hz => hI z (List.mem_cons_of_mem _ hz)
    have eu : u = ⟨u.f0, u.f1, 0⟩ := by rw [← i4]
    have ef : flat (u :: t) = ibytes u ++ flat t := by unfold flat; rw [List.flatMap_cons]
    rw [show (u :: t).length + d = (t.length + d) + 1 by simp; omega, cread]
    by_cases hw : (bnd u.f0).2 > 0
    · have eb : ibytes u = u.f0 :: leb 2 u.f1 := by unfold ibytes; rw [if_pos hw]
      have e1 : x ++ flat (u :: t) ++ y = x ++ u.f0 :: (leb 2 u.f1 ++ (flat t ++ y)) := by rw [ef, eb]; simp
      have e2 : x ++ flat (u :: t) ++ y = (x ++ [u.f0]) ++ leb 2 u.f1 ++ (flat t ++ y) := by rw [ef, eb]; simp
      have e3 : x ++ flat (u :: t) ++ y = (x ++ [u.f0] ++ leb 2 u.f1) ++ flat t ++ y := by rw [ef, eb]; simp
      have g1 : get (x ++ flat (u :: t) ++ y) x.length 1 = (u.f0, (x.length : Int) + 1, 0) := by rw [e1]; exact get_byte x _ _ hu
      have g2 : get (x ++ flat (u :: t) ++ y) ((x.length : Int) + 1) 2 = (u.f1, (x.length : Int) + 1 + 2, 0) := by
        have := get_mid (x ++ [u.f0]) (flat t ++ y) 2 u.f1 (by omega) i2 (by omega)
        rw [show (((x ++ [u.f0]).length : Nat) : Int) = (x.length : Int) + 1 by simp] at this
        rw [e2]; exact this
      rw [g1, if_pos rfl]
      dsimp only
      rw [if_pos i1, if_pos hw, g2, if_pos rfl]
      dsimp only
      rw [if_pos i5, ← eu]
      have := ih (x ++ [u.f0] ++ leb 2 u.f1) (acc ++ [u]) hI' h.2
      rw [show (((x ++ [u.f0] ++ leb 2 u.f1).length : Nat) : Int) = (x.length : Int) + 3 by simp [leb_length]] at this
      have hl : (flat (u :: t)).length = 3 + (flat t).length := by rw [ef, eb]; simp [leb_length]; omega
      rw [e3, this, hl, show (x.length : Int) + 3 + ((flat t).length : Int) = (x.length : Int) + ((3 + (flat t).length : Nat) : Int) by omega, List.append_assoc acc [u] t]
      rfl
    · have eb : ibytes u = [u.f0] := by unfold ibytes; rw [if_neg hw]
      have e1 : x ++ flat (u :: t) ++ y = x ++ u.f0 :: (flat t ++ y) := by rw [ef, eb]; simp
      have e3 : x ++ flat (u :: t) ++ y = (x ++ [u.f0]) ++ flat t ++ y := by rw [ef, eb]; simp
      have g1 : get (x ++ flat (u :: t) ++ y) x.length 1 = (u.f0, (x.length : Int) + 1, 0) := by rw [e1]; exact get_byte x _ _ hu
      have h0 := i6 hw
      rw [g1, if_pos rfl]
      dsimp only
      rw [h0] at i5 eu
      rw [if_pos i1, if_neg hw, if_pos i5, ← eu]
      have := ih (x ++ [u.f0]) (acc ++ [u]) hI' h.2
      rw [show (((x ++ [u.f0]).length : Nat) : Int) = (x.length : Int) + 1 by simp] at this
      have hl : (flat (u :: t)).length = 1 + (flat t).length := by rw [ef, eb]; simp; omega
      rw [e3, this, hl, show (x.length : Int) + 1 + ((flat t).length : Int) = (x.length : Int) + ((1 + (flat t).length : Nat) : Int) by omega, List.append_assoc acc [u] t]
      rfl
theorem cmay_inv {l : List IN} (h : cmay l = true) : (1 ≤ l.length ∧ l.length ≤ 200) ∧ l.all imays = true := by
  unfold cmay at h
  rw [Bool.and_eq_true, decide_eq_true_eq] at h
  exact h
theorem cparse_put (x y : List Int) {l : List IN} (hI : isI l) (h : cmay l = true) : cparse (x ++ cbytes l ++ y) x.length = (l, (x.length : Int) + (cbytes l).length, 0) := by
  obtain ⟨hl, ha⟩ := cmay_inv h
  have e1 : x ++ cbytes l ++ y = x ++ (l.length : Int) :: (flat l ++ y) := by unfold cbytes; simp
  have e2 : x ++ cbytes l ++ y = (x ++ [(l.length : Int)]) ++ flat l ++ y := by unfold cbytes; simp
  have g1 : get (x ++ cbytes l ++ y) x.length 1 = ((l.length : Int), (x.length : Int) + 1, 0) := by rw [e1]; exact get_byte x _ _ (by omega)
  unfold cparse
  rw [g1, if_pos rfl]
  dsimp only
  rw [if_pos (by omega), Int.toNat_natCast]
  have := cread_go y 0 l (x ++ [(l.length : Int)]) [] hI ha
  rw [show (((x ++ [(l.length : Int)]).length : Nat) : Int) = (x.length : Int) + 1 by simp, Nat.add_zero] at this
  rw [e2, this, cread, List.nil_append]
  unfold cbytes
  simp
  omega
theorem cpiece_add {l : List Int} {a m n : Int} (ha : 0 ≤ a) (hm : 0 ≤ m) (hn : 0 ≤ n) : piece l a (m + n) = piece l a m ++ piece l (a + m) n := by
  obtain ⟨i, rfl⟩ : ∃ i : Nat, a = (i : Int) := ⟨a.toNat, by omega⟩
  obtain ⟨j, rfl⟩ : ∃ i : Nat, m = (i : Int) := ⟨m.toNat, by omega⟩
  obtain ⟨k, rfl⟩ : ∃ i : Nat, n = (i : Int) := ⟨n.toNat, by omega⟩
  unfold piece
  rw [show ((j : Int) + k).toNat = j + k by omega, show ((i : Int) + j).toNat = i + j by omega, Int.toNat_natCast, Int.toNat_natCast, Int.toNat_natCast, ← List.drop_drop, List.take_add]
theorem get_leb {l : List Int} (hb : isB l) {a : Int} (w : Nat) (h : (get l a w).2.2 = 0) : leb w (get l a w).1 = piece l a w := by
  obtain ⟨h1, h2, h3⟩ := got_ok h
  rw [h3]
  have h4 := leb_val (piece_isB a w hb)
  rw [piece_length h1.2.2.1 (by omega) h1.2.2.2] at h4
  simpa using h4
theorem cread_inv {l : List Int} (hb : isB l) : ∀ (d : Nat) (a : Int) (acc : List IN), 0 ≤ a → (cread l d a acc).2.2 = 0 → ∃ t, cread l d a acc = (acc ++ t, a + (flat t).length, 0) ∧ t.length = d ∧ t.all imays = true ∧ isI t ∧ piece l a (flat t).length = flat t ∧ (d = 0 ∨ a + (flat t).length ≤ (l.length : Int)) := by
  intro d
  induction d with
  | zero =>
    intro a acc h0 _
    refine ⟨[], ?_, ?_, ?_, ?_, ?_, ?_⟩
    · simp [cread, flat]
    · rfl
    · rfl
    · intro x h; cases h
    · simp [flat, piece]
    · exact .inl rfl
  | succ d ih =>
    intro a acc h0 h
    rw [cread] at h ⊢
    by_cases h1 : (get l a 1).2.2 = 0
    case neg => rw [if_neg h1] at h; exact absurd h h1
    rw [if_pos h1] at h ⊢
    obtain ⟨g1, g2, g3⟩ := got_ok h1
    have hbd := st1_bound hb a
    have hone : piece l a 1 = [(get l a 1).1] := by
      rw [get_one hb h0 (by omega), piece_one h0 (by omega)]
    by_cases h2 : (get l a 1).1 < 33
    case neg => rw [if_neg h2] at h; exact absurd h (by decide)
    rw [if_pos h2] at h ⊢
    generalize (get l a 1).1 = x at *
    by_cases h3 : (bnd x).2 > 0
    · rw [if_pos h3] at h ⊢
      by_cases h4 : (get l (a + 1) 2).2.2 = 0
      case neg => rw [if_neg h4] at h; exact absurd h h4
      rw [if_pos h4] at h ⊢
      have hleb : leb 2 (get l (a + 1) 2).1 = piece l (a + 1) 2 := get_leb hb 2 h4
      obtain ⟨q1, q2, q3⟩ := got_ok h4
      generalize (get l (a + 1) 2).1 = y at *
      cases h5 : imay x y
      · rw [h5, if_neg (by decide)] at h; exact absurd h (by decide)
      rw [h5, if_pos rfl] at h
      rw [if_pos rfl]
      obtain ⟨t, t1, t2, t3, t4, t5, t6⟩ := ih (a + 3) (acc ++ [⟨x, y, 0⟩]) (by omega) h
      have eb : ibytes (⟨x, y, 0⟩ : IN) = x :: leb 2 y := by unfold ibytes; rw [if_pos h3]
      have ef : flat ((⟨x, y, 0⟩ : IN) :: t) = x :: (leb 2 y ++ flat t) := by unfold flat; rw [List.flatMap_cons, eb]; rfl
      have el : (flat ((⟨x, y, 0⟩ : IN) :: t)).length = 3 + (flat t).length := by rw [ef]; simp [leb_length]; omega
      have hm : imays (⟨x, y, 0⟩ : IN) = true := by
        unfold imay at h5
        rw [Bool.and_eq_true] at h5
        unfold imays
        rw [h5.1, h5.2]; rfl
      refine ⟨⟨x, y, 0⟩ :: t, ?_, by simp [t2], by rw [List.all_cons, hm, t3]; rfl, ?_, ?_, .inr ?_⟩
      · rw [t1, el]; simp; omega
      · intro z hz
        rcases List.mem_cons.1 hz with rfl | hz
        · exact hbd
        · exact t4 z hz
      · rw [el, show ((3 + (flat t).length : Nat) : Int) = 1 + (2 + ((flat t).length : Int)) by omega, cpiece_add h0 (by omega) (by omega), cpiece_add (m := 2) (by omega) (by omega) (by omega), hone, ← hleb, show a + 1 + 2 = a + 3 by omega, t5, ef]
        rfl
      · rcases t6 with rfl | t6
        · have : t = [] := List.eq_nil_of_length_eq_zero t2
          subst this
          rw [el]; simp [flat]; omega
        · rw [el]; push_cast; omega
    · rw [if_neg h3] at h ⊢
      cases h5 : imay x 0
      · rw [h5, if_neg (by decide)] at h; exact absurd h (by decide)
      rw [h5, if_pos rfl] at h
      rw [if_pos rfl]
      obtain ⟨t, t1, t2, t3, t4, t5, t6⟩ := ih (a + 1) (acc ++ [⟨x, 0, 0⟩]) (by omega) h
      have eb : ibytes (⟨x, 0, 0⟩ : IN) = [x] := by unfold ibytes; rw [if_neg h3]
      have ef : flat ((⟨x, 0, 0⟩ : IN) :: t) = x :: flat t := by unfold flat; rw [List.flatMap_cons, eb]; rfl
      have el : (flat ((⟨x, 0, 0⟩ : IN) :: t)).length = 1 + (flat t).length := by rw [ef]; simp; omega
      have hm : imays (⟨x, 0, 0⟩ : IN) = true := by
        unfold imay at h5
        rw [Bool.and_eq_true] at h5
        unfold imays
        rw [h5.1, h5.2]; rfl
      refine ⟨⟨x, 0, 0⟩ :: t, ?_, by simp [t2], by rw [List.all_cons, hm, t3]; rfl, ?_, ?_, .inr ?_⟩
      · rw [t1, el]; simp; omega
      · intro z hz
        rcases List.mem_cons.1 hz with rfl | hz
        · exact hbd
        · exact t4 z hz
      · rw [el, show ((1 + (flat t).length : Nat) : Int) = 1 + ((flat t).length : Int) by omega, cpiece_add h0 (by omega) (by omega), hone, t5, ef]
        rfl
      · rcases t6 with rfl | t6
        · have : t = [] := List.eq_nil_of_length_eq_zero t2
          subst this
          rw [el]; simp [flat]; omega
        · rw [el]; push_cast; omega
theorem cparse_inv {l : List Int} (hb : isB l) {a : Int} (h : (cparse l a).2.2 = 0) : ∃ t, cparse l a = (t, a + (cbytes t).length, 0) ∧ cmay t = true ∧ isI t ∧ 0 ≤ a ∧ a + (cbytes t).length ≤ (l.length : Int) ∧ piece l a (cbytes t).length = cbytes t := by
  unfold cparse at h ⊢
  by_cases h1 : (get l a 1).2.2 = 0
  case neg => rw [if_neg h1] at h; exact absurd h h1
  rw [if_pos h1] at h ⊢
  obtain ⟨g1, g2, g3⟩ := got_ok h1
  have hone : piece l a 1 = [(get l a 1).1] := by
    rw [get_one hb g1.2.2.1 (by omega), piece_one g1.2.2.1 (by omega)]
  by_cases h2 : 0 < (get l a 1).1 ∧ (get l a 1).1 ≤ 200
  case neg => rw [if_neg h2] at h; exact absurd h (by decide)
  rw [if_pos h2] at h ⊢
  obtain ⟨t, t1, t2, t3, t4, t5, t6⟩ := cread_inv hb _ _ _ (by omega) h
  have el : (cbytes t).length = 1 + (flat t).length := by unfold cbytes; simp; omega
  refine ⟨t, by rw [t1, el]; simp; omega, ?_, t4, g1.2.2.1, by rw [el]; push_cast; omega, ?_⟩
  · unfold cmay
    rw [decide_eq_true (by omega), t3]; rfl
  · rw [el, show ((1 + (flat t).length : Nat) : Int) = 1 + ((flat t).length : Int) by omega, cpiece_add g1.2.2.1 (by omega) (by omega), hone, t5]
    unfold cbytes
    rw [t2, show (((get l a 1).1.toNat : Nat) : Int) = (get l a 1).1 by omega]
    rfl
end Go.Proofs.YthmjblmdbcmjcaaDoor.M.MC
namespace Go.Proofs.YthmjblmdbcmjcaaDoor.M.MC
open Go.RowKit Go.Proofs.YthmjblmdbcmjcaaDoor.B Go.Proofs.YthmjblmdbcmjcaaDoorW.PrintWords Go.Proofs.YthmjblmdbcmjcaaDoorW.PrintLast Go.Proofs.YthmjblmdbcmjcaaDoorW.PrintMore
theorem rdi_at {l : List IN} {i : Nat} (h : i < l.length) : rd_T75 l (i : Int) = l[i] := by simp [rd_T75, List.getD, List.getElem?_eq_getElem h]
theorem may1_f (x : IN) (hx : 0 ≤ x.f0 ∧ x.f0 ≤ 255) (k : Nat) (hk : 5 ≤ k) : code_May_1.f k x.f0 x.f1 x.f2 = some (!imays x) := by
  obtain ⟨n, hn⟩ := byte_fin hx
  unfold code_May_1.f imays
  rw [hn, opmay_f n _ _ k hk, Option.bind_some]
theorem idx_l0 (l : List IN) (hI : isI l) (hl : l.length ≤ 100000) (d : Nat) : ∀ (k i : Nat), i + d = l.length → d + 10 ≤ k → ∃ r, slices_IndexFunc_api_Instr_api_Instr.l0 k l l.length i = some r ∧ decide (r ≥ 0) = !(l.drop i).all imays := by
  induction d with
  | zero =>
    intro k i hi hk
    obtain ⟨k, rfl⟩ : ∃ n, k = n + 1 := ⟨k - 1, by omega⟩
    refine ⟨-1, ?_, ?_⟩
    · simp only [slices_IndexFunc_api_Instr_api_Instr.l0]
      rw [if_neg (by omega)]
    · rw [List.drop_eq_nil_of_le (by omega)]; rfl
  | succ d ih =>
    intro k i hi hk
    obtain ⟨k, rfl⟩ : ∃ n, k = n + 1 := ⟨k - 1, by omega⟩
    have hx := hI l[i] (List.getElem_mem (by omega))
    simp only [slices_IndexFunc_api_Instr_api_Instr.l0]
    rw [if_pos (by omega), if_pos (by omega), if_pos (by omega), rdi_at (by omega), may1_f _ hx k (by omega), Option.bind_some, List.drop_eq_getElem_cons (by omega : i < l.length), List.all_cons, wrap64_id (x := (i : Int) + 1) (by omega) (by omega), show ((i : Int) + 1) = ((i + 1 : Nat) : Int) by omega]
    cases h : imays l[i]
    · exact ⟨i, by rw [Bool.not_false, if_pos rfl], by rw [decide_eq_true (by omega)]; rfl⟩
    · obtain ⟨r, h1, h2⟩ := ih k (i + 1) (by omega) (by omega)
      exact ⟨r, by rw [Bool.not_true, if_neg (by decide), h1], by rw [h2, Bool.true_and]⟩
theorem cMay_f (l : List IN) (hI : isI l) (hl : l.length ≤ 2000) (k : Nat) (hk : 2100 ≤ k) : code_May.f k l = some (cmay l) := by
  unfold code_May.f cmay
  by_cases h1 : (l.length : Int) > 0
  · rw [if_pos h1]
    by_cases h2 : (l.length : Int) ≤ 200
    · obtain ⟨r, h3, h4⟩ := idx_l0 l hI (by omega) l.length k 0 (by omega) (by omega)
      rw [if_pos h2]
      unfold slices_ContainsFunc_api_Instr_api_Instr.f slices_IndexFunc_api_Instr_api_Instr.f
      rw [show (0 : Int) = ((0 : Nat) : Int) from rfl, h3, Option.bind_some, Option.bind_some, show ((0 : Nat) : Int) = 0 from rfl, h4, List.drop_zero, Bool.not_not, decide_eq_true (by omega : 1 ≤ l.length ∧ l.length ≤ 200), Bool.true_and]
    · rw [if_neg h2, decide_eq_false (by omega), Bool.false_and]
  · rw [if_neg h1, decide_eq_false (by omega), Bool.false_and]
theorem put2_ok {n : Int} (h : 0 ≤ n ∧ n ≤ 1024) : put 2 n = (leb 2 n, 0) := by
  unfold put
  rw [if_neg (by omega), if_pos ⟨h.1, .inr (by rw [show (256 : Int) ^ (2 : Int).toNat = 65536 from rfl]; omega)⟩]; rfl
theorem cBytes_l0 (l : List IN) (hI : isI l) (hl : l.length ≤ 200) (ha : l.all imays = true) (d : Nat) : ∀ (k i : Nat) (acc : List Int), i + d = l.length → acc.length ≤ 3 * i + 1 → d + 20 ≤ k → code_Bytes.l0 k acc l l.length i = some (acc ++ flat (l.drop i), 0) := by
  induction d with
  | zero =>
    intro k i acc hi hc hk
    obtain ⟨k, rfl⟩ : ∃ n, k = n + 1 := ⟨k - 1, by omega⟩
    simp only [code_Bytes.l0]
    rw [if_neg (by omega), List.drop_eq_nil_of_le (by omega)]
    simp [flat]
  | succ d ih =>
    intro k i acc hi hc hk
    obtain ⟨k, rfl⟩ : ∃ n, k = n + 1 := ⟨k - 1, by omega⟩
    have hx := hI l[i] (List.getElem_mem (by omega))
    have hm := List.all_eq_true.1 ha l[i] (List.getElem_mem (by omega))
    obtain ⟨i1, i2, i3, i4, i5, i6⟩ := imays_inv hm hx
    obtain ⟨n, hn⟩ := byte_fin hx
    have ef : flat (l.drop i) = ibytes l[i] ++ flat (l.drop (i + 1)) := by rw [List.drop_eq_getElem_cons (by omega : i < l.length)]; unfold flat; rw [List.flatMap_cons]
    simp only [code_Bytes.l0]
    rw [if_pos (by omega), if_pos (by omega), if_pos (by omega), if_pos (by omega), Option.bind_some, rdi_at (by omega), wrap64_id (x := (i : Int) + 1) (by omega) (by omega), show ((i : Int) + 1) = ((i + 1 : Nat) : Int) by omega]
    have hw : code_wide.f k l[i].f0 = some (decide ((bnd l[i].f0).2 > 0)) := by rw [hn]; exact wide_f n k (by omega)
    rw [hw, Option.bind_some, ef]
    by_cases h2 : (bnd l[i].f0).2 > 0
    · have eb : ibytes l[i] = l[i].f0 :: leb 2 l[i].f1 := by unfold ibytes; rw [if_pos h2]
      rw [decide_eq_true h2, if_pos rfl, put_f 2 _ k (by omega), Option.bind_some, put2_ok ⟨i2, i3⟩, if_pos rfl, if_pos (by simp [leb_length]; omega), ih k (i + 1) _ (by omega) (by simp [leb_length]; omega) (by omega), eb]
      simp
    · have eb : ibytes l[i] = [l[i].f0] := by unfold ibytes; rw [if_neg h2]
      rw [decide_eq_false h2, if_neg (by decide), ih k (i + 1) _ (by omega) (by simp; omega) (by omega), eb]
      simp
theorem cBytes_f (l : List IN) (hI : isI l) (hl : l.length ≤ 2000) (k : Nat) (hk : 2100 ≤ k) : code_Bytes.f k l = some (if cmay l = true then (cbytes l, 0) else ([], 40)) := by
  unfold code_Bytes.f
  rw [cMay_f l hI hl k hk, Option.bind_some]
  cases hm : cmay l
  · rw [if_neg (by decide), if_neg (by decide)]
  · obtain ⟨h1, h2⟩ := cmay_inv hm
    have := cBytes_l0 l hI h1.2 h2 l.length k 0 [(l.length : Int)] (by omega) (by simp) (by omega)
    rw [if_pos rfl, if_pos rfl, show ((l.length : Int)) % 256 = l.length by omega]
    rw [show ((0 : Nat) : Int) = 0 from rfl, List.drop_zero] at this
    rw [this]
    rfl
end Go.Proofs.YthmjblmdbcmjcaaDoor.M.MC
namespace Go.Proofs.YthmjblmdbcmjcaaDoor.M.MC
open Go.RowKit Go.Proofs.YthmjblmdbcmjcaaDoor.B Go.Proofs.YthmjblmdbcmjcaaDoorW.PrintWords Go.Proofs.YthmjblmdbcmjcaaDoorW.PrintLast Go.Proofs.YthmjblmdbcmjcaaDoorW.PrintMore
def sm (x y : List IN) : Nat → Nat → Bool
  | 0, _ => true
  | d + 1, i => if (!(((rd_T75 x (i : Int)).f0) == ((rd_T75 y (i : Int)).f0)) || (!(((rd_T75 x (i : Int)).f1) == ((rd_T75 y (i : Int)).f1)) || (!(((rd_T75 x (i : Int)).f2) == ((rd_T75 y (i : Int)).f2))))) = true then false else sm x y d (i + 1)
theorem sm_l0 (x y : List IN) (hx : x.length ≤ 100000) (hy : x.length = y.length) (d : Nat) : ∀ (k i : Nat), i + d = x.length → d < k → slices_Equal_api_Instr_api_Instr.l0 k x y x.length i = some (sm x y d i) := by
  induction d with
  | zero =>
    intro k i hi hk
    obtain ⟨k, rfl⟩ : ∃ n, k = n + 1 := ⟨k - 1, by omega⟩
    simp only [slices_Equal_api_Instr_api_Instr.l0]
    rw [if_neg (by omega), sm]
  | succ d ih =>
    intro k i hi hk
    obtain ⟨k, rfl⟩ : ∃ n, k = n + 1 := ⟨k - 1, by omega⟩
    simp only [slices_Equal_api_Instr_api_Instr.l0]
    rw [if_pos (by omega), if_pos (by omega), if_pos (by omega), if_pos (by omega), sm, wrap64_id (x := (i : Int) + 1) (by omega) (by omega), show ((i : Int) + 1) = ((i + 1 : Nat) : Int) by omega, ih k (i + 1) (by omega) (by omega)]
    split <;> rfl
theorem tsm_l0 (x y : List IN) (hx : x.length ≤ 100000) (hy : x.length = y.length) (d : Nat) : ∀ (k i : Nat), i + d = x.length → d < k → capstanref05_Same.l0 k x y i = some (sm x y d i) := by
  induction d with
  | zero =>
    intro k i hi hk
    obtain ⟨k, rfl⟩ : ∃ n, k = n + 1 := ⟨k - 1, by omega⟩
    simp only [capstanref05_Same.l0]
    rw [if_neg (by omega), sm]
  | succ d ih =>
    intro k i hi hk
    obtain ⟨k, rfl⟩ : ∃ n, k = n + 1 := ⟨k - 1, by omega⟩
    simp only [capstanref05_Same.l0]
    rw [if_pos (by omega), if_pos (by omega), if_pos (by omega), sm, wrap64_id (x := (i : Int) + 1) (by omega) (by omega), show ((i : Int) + 1) = ((i + 1 : Nat) : Int) by omega, ih k (i + 1) (by omega) (by omega)]
    split <;> rfl
def csame (x y : List IN) : Bool := if x.length = y.length then sm x y x.length 0 else false
theorem same_f (x y : List IN) (hx : x.length ≤ 2000) (k : Nat) (hk : 2100 ≤ k) : code_Same.f k x y = some (csame x y) := by
  unfold code_Same.f slices_Equal_api_Instr_api_Instr.f csame
  by_cases h : x.length = y.length
  · have := sm_l0 x y (by omega) h x.length k 0 (by omega) (by omega)
    rw [show ((0 : Nat) : Int) = 0 from rfl] at this
    rw [if_pos (by omega), if_pos h, this, Option.bind_some]
  · rw [if_neg (by omega), if_neg h, Option.bind_some]
theorem tSame_f (x y : List IN) (hx : x.length ≤ 2000) (k : Nat) (hk : 2100 ≤ k) : capstanref05_Same.f k x y = some (csame x y) := by
  unfold capstanref05_Same.f csame
  by_cases h : x.length = y.length
  · have := tsm_l0 x y (by omega) h x.length k 0 (by omega) (by omega)
    rw [show ((0 : Nat) : Int) = 0 from rfl] at this
    rw [if_pos (by omega), if_pos h, this]
  · rw [if_neg (by omega), if_neg h]
theorem csame_self (x : List IN) : csame x x = true := by
  unfold csame
  rw [if_pos rfl]
  have : ∀ d i, sm x x d i = true := by
    intro d
    induction d with
    | zero => intro i; rfl
    | succ d ih => intro i; rw [sm, if_neg (by simp)]; exact ih _
  exact this _ _
end Go.Proofs.YthmjblmdbcmjcaaDoor.M.MC
namespace Go.Proofs.YthmjblmdbcmjcaaDoor.M.MC
open Go.RowKit Go.Proofs.YthmjblmdbcmjcaaDoor.B Go.Proofs.YthmjblmdbcmjcaaDoorW.PrintWords Go.Proofs.YthmjblmdbcmjcaaDoorW.PrintLast Go.Proofs.YthmjblmdbcmjcaaDoorW.PrintMore
def st (l : List Int) (wd lo hi a : Int) : Int × Int × Int := if (get l a wd).2.2 = 0 then (if (get l a wd).1 < lo ∨ (get l a wd).1 > hi then (0, 0, 70) else ((get l a wd).1, (get l a wd).2.1, 0)) else (0, 0, (get l a wd).2.2)
theorem st_ok {l : List Int} {wd lo hi a : Int} (h : (st l wd lo hi a).2.2 = 0) : (get l a wd).2.2 = 0 ∧ st l wd lo hi a = ((get l a wd).1, (get l a wd).2.1, 0) ∧ lo ≤ (get l a wd).1 ∧ (get l a wd).1 ≤ hi := by
  unfold st at h ⊢
  by_cases h1 : (get l a wd).2.2 = 0
  · rw [if_pos h1] at h ⊢
    by_cases h2 : (get l a wd).1 < lo ∨ (get l a wd).1 > hi
    · rw [if_pos h2] at h; exact absurd h (by decide)
    · rw [if_neg h2]; exact ⟨h1, rfl, by omega, by omega⟩
  · rw [if_neg h1] at h; exact absurd h h1
theorem st_next {l : List Int} {wd lo hi a : Int} (h : (st l wd lo hi a).2.2 = 0) : (st l wd lo hi a).2.1 = a + wd ∧ 0 ≤ a ∧ a + wd ≤ (l.length : Int) ∧ lo ≤ (st l wd lo hi a).1 ∧ (st l wd lo hi a).1 ≤ hi ∧ (st l wd lo hi a).1 = val (piece l a wd) ∧ 1 ≤ wd := by
  obtain ⟨h1, h2, h3, h4⟩ := st_ok h
  obtain ⟨h5, h6, h7⟩ := got_ok h1
  rw [h2]
  exact ⟨h6, h5.2.2.1, h5.2.2.2, h3, h4, h7, h5.1⟩
theorem number_ok {l : List Int} (hb : isB l) (hl : l.length ≤ 140737488355328) {wd lo hi a : Int} (h : (st l wd lo hi a).2.2 = 0) (k : Nat) (hk : 12 ≤ k) : method_reader_number.f k l a 0 wd lo hi = some (st l wd lo hi a) := by
  obtain ⟨h1, h2, h3, h4⟩ := st_ok h
  unfold method_reader_number.f
  rw [if_pos rfl, get_f l hb hl a wd k hk, Option.bind_some, h2, if_pos h1, if_neg (by omega)]
theorem number_bad {l : List Int} (hb : isB l) (hl : l.length ≤ 140737488355328) {wd lo hi a : Int} (h : (st l wd lo hi a).2.2 ≠ 0) (k : Nat) (hk : 12 ≤ k) : method_reader_number.f k l a 0 wd lo hi = some ((get l a wd).1, (get l a wd).2.1, (st l wd lo hi a).2.2) := by
  unfold method_reader_number.f
  rw [if_pos rfl, get_f l hb hl a wd k hk, Option.bind_some]
  unfold st at h ⊢
  by_cases h1 : (get l a wd).2.2 = 0
  · rw [if_pos h1] at h
    rw [if_pos h1, if_pos h1]
    by_cases h2 : (get l a wd).1 < lo ∨ (get l a wd).1 > hi
    · rw [if_pos h2, if_pos h2]
    · rw [if_neg h2] at h; exact absurd rfl h
  · rw [if_neg h1, if_neg h1]
theorem number_err {e : Int} (he : e ≠ 0) (l : List Int) (wd lo hi a : Int) (k : Nat) : method_reader_number.f k l a e wd lo hi = some (0, a, e) := by
  unfold method_reader_number.f
  rw [if_neg he]
def kf (l : List Int) : Nat → Int → List Int → List Int × Int × Int
  | 0, a, acc => (acc, a, 0)
  | d + 1, a, acc => if (st l 1 1 3 a).2.2 = 0 then kf l d (st l 1 1 3 a).2.1 (acc ++ [(st l 1 1 3 a).1 % 256]) else ([], 0, (st l 1 1 3 a).2.2)
theorem fill_err {e : Int} (he : e ≠ 0) (l : List Int) (k : Nat) : ∀ (d : Nat) (a : Int) (acc : List Int), acc.length + d ≤ 1000 → ∃ z, method_row_fill.l0 k l d a e acc = some (z, a, e) := by
  intro d
  induction d with
  | zero => intro a acc _; exact ⟨acc, rfl⟩
  | succ d ih =>
    intro a acc h
    simp only [method_row_fill.l0]
    rw [number_err he, Option.bind_some, if_pos (by omega)]
    exact ih a _ (by simp; omega)
theorem fill_ok {l : List Int} (hb : isB l) (hl : l.length ≤ 140737488355328) (k : Nat) (hk : 12 ≤ k) : ∀ (d : Nat) (a : Int) (acc : List Int), acc.length + d ≤ 1000 → (kf l d a acc).2.2 = 0 → method_row_fill.l0 k l d a 0 acc = some (kf l d a acc) := by
  intro d
  induction d with
  | zero => intro a acc _ _; rfl
  | succ d ih =>
    intro a acc h hz
    simp only [method_row_fill.l0]
    by_cases h1 : (st l 1 1 3 a).2.2 = 0
    · rw [kf, if_pos h1] at hz ⊢
      rw [number_ok hb hl h1 k hk, Option.bind_some, if_pos (by omega), h1]
      exact ih _ _ (by simp; omega) hz
    · rw [kf, if_neg h1] at hz; exact absurd hz h1
theorem fill_bad {l : List Int} (hb : isB l) (hl : l.length ≤ 140737488355328) (k : Nat) (hk : 12 ≤ k) : ∀ (d : Nat) (a : Int) (acc : List Int), acc.length + d ≤ 1000 → (kf l d a acc).2.2 ≠ 0 → ∃ z x, method_row_fill.l0 k l d a 0 acc = some (z, x, (kf l d a acc).2.2) := by
  intro d
  induction d with
  | zero => intro a acc _ h; exact absurd rfl h
  | succ d ih =>
    intro a acc h hz
    simp only [method_row_fill.l0]
    by_cases h1 : (st l 1 1 3 a).2.2 = 0
    · rw [kf, if_pos h1] at hz ⊢
      rw [number_ok hb hl h1 k hk, Option.bind_some, if_pos (by omega), h1]
      exact ih _ _ (by simp; omega) hz
    · rw [kf, if_neg h1] at hz ⊢
      rw [number_bad hb hl h1 k hk, Option.bind_some, if_pos (by omega)]
      obtain ⟨z, hz'⟩ := fill_err h1 l k d (get l a 1).2.1 (acc ++ [(get l a 1).1 % 256]) (by simp; omega)
      exact ⟨z, _, hz'⟩
theorem kf_length {l : List Int} : ∀ (d : Nat) (a : Int) (acc : List Int), (kf l d a acc).2.2 = 0 → (kf l d a acc).1.length = acc.length + d ∧ (kf l d a acc).2.1 = a + d := by
  intro d
  induction d with
  | zero => intro a acc _; exact ⟨rfl, by simp [kf]⟩
  | succ d ih =>
    intro a acc h
    by_cases h1 : (st l 1 1 3 a).2.2 = 0
    · rw [kf, if_pos h1] at h ⊢
      have := ih _ _ h
      rw [(st_next h1).1] at this ⊢
      simp at this
      omega
    · rw [kf, if_neg h1] at h; exact absurd h h1
def krow (l : List Int) (a most : Int) : List Int × Int × Int := if (st l 1 0 most a).2.2 = 0 then kf l (st l 1 0 most a).1.toNat (st l 1 0 most a).2.1 [] else ([], 0, (st l 1 0 most a).2.2)
abbrev MT : Type := List Int × List Int × Int × Bool × Int × Int × Int × List S75 × Int × Int
def mbad (e : Int) : MT := ([], [], 0, false, 0, 0, 0, [], 0, e)
def mnums (l A L : List Int) (a : Int) : MT :=
  if (st l 1 1 2 a).2.2 = 0 then
    (if (st l 1 0 1 (st l 1 1 2 a).2.1).2.2 = 0 then
      (if (st l 3 0 1048576 (st l 1 0 1 (st l 1 1 2 a).2.1).2.1).2.2 = 0 then
        (if (st l 2 0 256 (st l 3 0 1048576 (st l 1 0 1 (st l 1 1 2 a).2.1).2.1).2.1).2.2 = 0 then
          (if (st l 2 0 1024 (st l 2 0 256 (st l 3 0 1048576 (st l 1 0 1 (st l 1 1 2 a).2.1).2.1).2.1).2.1).2.2 = 0 then
            (A, L, (st l 1 1 2 a).1 % 256, (st l 1 0 1 (st l 1 1 2 a).2.1).1 == 1, (st l 3 0 1048576 (st l 1 0 1 (st l 1 1 2 a).2.1).2.1).1, (st l 2 0 256 (st l 3 0 1048576 (st l 1 0 1 (st l 1 1 2 a).2.1).2.1).2.1).1, (st l 2 0 1024 (st l 2 0 256 (st l 3 0 1048576 (st l 1 0 1 (st l 1 1 2 a).2.1).2.1).2.1).2.1).1, [], (st l 2 0 1024 (st l 2 0 256 (st l 3 0 1048576 (st l 1 0 1 (st l 1 1 2 a).2.1).2.1).2.1).2.1).2.1, 0)
          else mbad (st l 2 0 1024 (st l 2 0 256 (st l 3 0 1048576 (st l 1 0 1 (st l 1 1 2 a).2.1).2.1).2.1).2.1).2.2)
        else mbad (st l 2 0 256 (st l 3 0 1048576 (st l 1 0 1 (st l 1 1 2 a).2.1).2.1).2.1).2.2)
      else mbad (st l 3 0 1048576 (st l 1 0 1 (st l 1 1 2 a).2.1).2.1).2.2)
    else mbad (st l 1 0 1 (st l 1 1 2 a).2.1).2.2)
  else mbad (st l 1 1 2 a).2.2
def mread (l : List Int) (a : Int) : MT :=
  if (krow l a 4).2.2 = 0 then
    (if (krow l (krow l a 4).2.1 (16 - ((krow l a 4).1.length : Int))).2.2 = 0 then mnums l (krow l a 4).1 (krow l (krow l a 4).2.1 (16 - ((krow l a 4).1.length : Int))).1 (krow l (krow l a 4).2.1 (16 - ((krow l a 4).1.length : Int))).2.1
    else mbad (krow l (krow l a 4).2.1 (16 - ((krow l a 4).1.length : Int))).2.2)
  else mbad (krow l a 4).2.2
theorem tail_err {e : Int} (he : e ≠ 0) (l A L : List Int) (a : Int) (k : Nat) : method_Read.tail k l A L a e = some (mbad e) := by
  unfold method_Read.tail
  simp only [number_err he, Option.bind_some]
  rw [if_neg he]; rfl
theorem tail_f {l : List Int} (hb : isB l) (hl : l.length ≤ 140737488355328) (A L : List Int) (a : Int) (k : Nat) (hk : 12 ≤ k) : method_Read.tail k l A L a 0 = some (mnums l A L a) := by
  unfold method_Read.tail mnums
  by_cases h1 : (st l 1 1 2 a).2.2 = 0
  case neg => rw [if_neg h1, number_bad hb hl h1 k hk]; simp only [number_err h1, Option.bind_some]; rw [if_neg h1]; rfl
  rw [if_pos h1, number_ok hb hl h1 k hk, Option.bind_some, h1]
  generalize st l 1 1 2 a = v1 at *
  by_cases h2 : (st l 1 0 1 v1.2.1).2.2 = 0
  case neg => rw [if_neg h2, number_bad hb hl h2 k hk]; simp only [number_err h2, Option.bind_some]; rw [if_neg h2]; rfl
  rw [if_pos h2, number_ok hb hl h2 k hk, Option.bind_some, h2]
  generalize st l 1 0 1 v1.2.1 = v2 at *
  by_cases h3 : (st l 3 0 1048576 v2.2.1).2.2 = 0
  case neg => rw [if_neg h3, number_bad hb hl h3 k hk]; simp only [number_err h3, Option.bind_some]; rw [if_neg h3]; rfl
  rw [if_pos h3, number_ok hb hl h3 k hk, Option.bind_some, h3]
  generalize st l 3 0 1048576 v2.2.1 = v3 at *
  by_cases h4 : (st l 2 0 256 v3.2.1).2.2 = 0
  case neg => rw [if_neg h4, number_bad hb hl h4 k hk]; simp only [number_err h4, Option.bind_some]; rw [if_neg h4]; rfl
  rw [if_pos h4, number_ok hb hl h4 k hk, Option.bind_some, h4]
  generalize st l 2 0 256 v3.2.1 = v4 at *
  by_cases h5 : (st l 2 0 1024 v4.2.1).2.2 = 0
  case neg => rw [if_neg h5, number_bad hb hl h5 k hk, Option.bind_some]; dsimp only; rw [if_neg h5]; rfl
  rw [if_pos h5, number_ok hb hl h5 k hk, Option.bind_some, if_pos h5]
theorem rows_err {e : Int} (he : e ≠ 0) (l : List Int) (n a : Int) (k : Nat) : method_Read.rows k l n a e = some ([], a, e) := by
  unfold method_Read.rows
  rw [if_neg he]
theorem read_f {l : List Int} (hb : isB l) (hl : l.length ≤ 140737488355328) (a : Int) (k : Nat) (hk : 12 ≤ k) : method_Read.f k l a = some (mread l a) := by
  have hbd := st1_bound hb a
  unfold method_Read.f mread krow
  by_cases h1 : (st l 1 0 4 a).2.2 = 0
  case neg =>
    rw [if_neg h1, if_neg h1, number_bad hb hl h1 k hk, Option.bind_some, if_pos (by omega)]
    simp only [rows_err h1, number_err h1, tail_err h1, Option.bind_some]
  have hn := st_next h1
  rw [if_pos h1, number_ok hb hl h1 k hk, Option.bind_some, if_pos (by omega), h1]
  generalize st l 1 0 4 a = v1 at *
  unfold method_Read.rows
  rw [if_pos rfl]
  by_cases h2 : (kf l v1.1.toNat v1.2.1 []).2.2 = 0
  case neg =>
    obtain ⟨z, x, e2⟩ := fill_bad hb hl k hk v1.1.toNat v1.2.1 [] (by simp; omega) h2
    rw [if_neg h2, e2, Option.bind_some]
    simp only [number_err h2, Option.bind_some]
    rw [if_neg h2, Option.bind_some]
    exact tail_err h2 _ _ _ _ _
  rw [if_pos h2, fill_ok hb hl k hk _ _ _ (by simp; omega) h2, Option.bind_some]
  have hlen := (kf_length _ _ _ h2).1
  simp only [List.length_nil, Nat.zero_add] at hlen
  rw [h2, show ((kf l v1.1.toNat v1.2.1 []).1.length : Int) = v1.1 by omega]
  generalize kf l v1.1.toNat v1.2.1 [] = A at *
  by_cases h3 : (st l 1 0 (16 - v1.1) A.2.1).2.2 = 0
  case neg =>
    rw [number_bad hb hl h3 k hk, Option.bind_some, if_neg h3, if_neg h3]
    dsimp only
    rw [if_neg h3, Option.bind_some]
    exact tail_err h3 _ _ _ _ _
  have hn3 := st_next h3
  rw [number_ok hb hl h3 k hk, Option.bind_some, if_pos h3, h3, if_pos rfl]
  generalize st l 1 0 (16 - v1.1) A.2.1 = v3 at *
  by_cases h4 : (kf l v3.1.toNat v3.2.1 []).2.2 = 0
  case neg =>
    obtain ⟨z, x, e2⟩ := fill_bad hb hl k hk v3.1.toNat v3.2.1 [] (by simp; omega) h4
    rw [e2, Option.bind_some, if_neg h4]
    exact tail_err h4 _ _ _ _ _
  rw [fill_ok hb hl k hk _ _ _ (by simp; omega) h4, Option.bind_some, if_pos h4, h4]
  exact tail_f hb hl _ _ _ k hk
end Go.Proofs.YthmjblmdbcmjcaaDoor.M.MC
namespace Go.Proofs.YthmjblmdbcmjcaaDoor.M.MC
open Go.RowKit Go.Proofs.YthmjblmdbcmjcaaDoor.B Go.Proofs.YthmjblmdbcmjcaaDoorW.PrintWords Go.Proofs.YthmjblmdbcmjcaaDoorW.PrintLast Go.Proofs.YthmjblmdbcmjcaaDoorW.PrintMore
theorem piece_mid (x p y : List Int) : piece (x ++ p ++ y) (x.length : Int) (p.length : Int) = p := by
  unfold piece
  rw [Int.toNat_natCast, Int.toNat_natCast, List.append_assoc, List.drop_left, List.take_left]
theorem st_put (x y : List Int) (w : Nat) (n lo hi : Int) (hw : 1 ≤ w ∧ w ≤ 3) (h0 : 0 ≤ n) (h1 : n < 256 ^ w) (hlo : lo ≤ n) (hhi : n ≤ hi) : st (x ++ leb w n ++ y) w lo hi x.length = (n, (x.length : Int) + w, 0) := by
  have hp : piece (x ++ leb w n ++ y) (x.length : Int) (w : Int) = leb w n := by
    have := piece_mid x (leb w n) y
    rwa [leb_length] at this
  have h3 : (256 : Int) ^ w ≤ 16777216 := by
    rcases (by omega : w = 1 ∨ w = 2 ∨ w = 3) with rfl | rfl | rfl <;> decide
  have hg : get (x ++ leb w n ++ y) x.length w = (n, (x.length : Int) + w, 0) := by
    unfold get
    have hl := leb_length w n
    rw [if_neg (by simp; omega), if_neg (by simp; omega), hp, val_leb w n h0 h1, if_neg (by omega)]
  unfold st
  rw [hg, if_pos rfl, if_neg (by omega)]
theorem st_byte (x y : List Int) (b lo hi : Int) (h0 : 0 ≤ b ∧ b ≤ 255) (hlo : lo ≤ b) (hhi : b ≤ hi) : st (x ++ b :: y) 1 lo hi x.length = (b, (x.length : Int) + 1, 0) := by
  have := st_put x y 1 b lo hi (by omega) h0.1 (by omega) hlo hhi
  have e : leb 1 b = [b] := by simp [leb]; omega
  rw [e] at this
  simpa using this
theorem kd_bound {x : Int} (h : kd x = true) : 1 ≤ x ∧ x ≤ 3 := by
  unfold kd at h
  have := of_decide_eq_true h
  omega
theorem kf_put (y : List Int) : ∀ (ks x acc : List Int), ks.all kd = true → kf (x ++ ks ++ y) ks.length x.length acc = (acc ++ ks, (x.length : Int) + ks.length, 0) := by
  intro ks
  induction ks with
  | nil => intro x acc _; simp [kf]
  | cons k ks ih =>
    intro x acc h
    rw [List.all_cons, Bool.and_eq_true] at h
    have hk := kd_bound h.1
    have e1 : x ++ k :: ks ++ y = x ++ k :: (ks ++ y) := by simp
    have e2 : x ++ k :: (ks ++ y) = (x ++ [k]) ++ ks ++ y := by simp
    rw [List.length_cons, kf, e1, st_byte x _ k 1 3 (by omega) hk.1 hk.2, if_pos rfl, show k % 256 = k by omega, e2]
    have := ih (x ++ [k]) (acc ++ [k]) h.2
    rw [show (((x ++ [k]).length : Nat) : Int) = (x.length : Int) + 1 by simp] at this
    rw [this]
    simp
    omega
theorem krow_put (x ks y : List Int) (most : Int) (h : ks.all kd = true) (hl : (ks.length : Int) ≤ most) (h255 : ks.length ≤ 255) : krow (x ++ ((ks.length : Int) :: ks) ++ y) x.length most = (ks, (x.length : Int) + 1 + ks.length, 0) := by
  unfold krow
  have e1 : x ++ ((ks.length : Int) :: ks) ++ y = x ++ (ks.length : Int) :: (ks ++ y) := by simp
  have e2 : x ++ (ks.length : Int) :: (ks ++ y) = (x ++ [(ks.length : Int)]) ++ ks ++ y := by simp
  rw [e1, st_byte x _ _ 0 most (by omega) (by omega) hl, if_pos rfl, e2]
  have := kf_put y ks (x ++ [(ks.length : Int)]) [] h
  rw [show (((x ++ [(ks.length : Int)]).length : Nat) : Int) = (x.length : Int) + 1 by simp] at this
  rw [show ((ks.length : Int)).toNat = ks.length by omega]
  simpa using this
def mnum (r : Int) (q : Bool) (fu st hp : Int) : List Int := [r, if q = true then 1 else 0] ++ (leb 3 fu ++ (leb 2 st ++ leb 2 hp))
theorem mnum_length (r : Int) (q : Bool) (fu st hp : Int) : (mnum r q fu st hp).length = 9 := by
  simp [mnum, leb_length]
theorem mnums_put (x y A L : List Int) (r : Int) (q : Bool) (fu sk hp : Int) (hr : r = 1 ∨ r = 2) (h1 : 0 ≤ fu ∧ fu ≤ 1048576) (h2 : 0 ≤ sk ∧ sk ≤ 256) (h3 : 0 ≤ hp ∧ hp ≤ 1024) :
    mnums (x ++ mnum r q fu sk hp ++ y) A L x.length = (A, L, r, q, fu, sk, hp, [], (x.length : Int) + 9, 0) := by
  have hq : (0 : Int) ≤ (if q = true then 1 else 0) ∧ (if q = true then (1 : Int) else 0) ≤ 1 := by split <;> omega
  have q1 : ((if q = true then (1 : Int) else 0) == 1) = q := by cases q <;> rfl
  generalize hb : (if q = true then (1 : Int) else 0) = b at *
  have e0 : x ++ mnum r q fu sk hp ++ y = x ++ r :: (b :: (leb 3 fu ++ (leb 2 sk ++ (leb 2 hp ++ y)))) := by simp [mnum, hb]
  have e1 : x ++ r :: (b :: (leb 3 fu ++ (leb 2 sk ++ (leb 2 hp ++ y)))) = (x ++ [r]) ++ b :: (leb 3 fu ++ (leb 2 sk ++ (leb 2 hp ++ y))) := by simp
  have e2 : x ++ r :: (b :: (leb 3 fu ++ (leb 2 sk ++ (leb 2 hp ++ y)))) = (x ++ [r, b]) ++ leb 3 fu ++ (leb 2 sk ++ (leb 2 hp ++ y)) := by simp
  have e3 : x ++ r :: (b :: (leb 3 fu ++ (leb 2 sk ++ (leb 2 hp ++ y)))) = (x ++ [r, b] ++ leb 3 fu) ++ leb 2 sk ++ (leb 2 hp ++ y) := by simp
  have e4 : x ++ r :: (b :: (leb 3 fu ++ (leb 2 sk ++ (leb 2 hp ++ y)))) = (x ++ [r, b] ++ leb 3 fu ++ leb 2 sk) ++ leb 2 hp ++ y := by simp
  have s1 : st (x ++ r :: (b :: (leb 3 fu ++ (leb 2 sk ++ (leb 2 hp ++ y))))) 1 1 2 x.length = (r, (x.length : Int) + 1, 0) := st_byte x _ r 1 2 (by omega) (by omega) (by omega)
  have s2 : st (x ++ r :: (b :: (leb 3 fu ++ (leb 2 sk ++ (leb 2 hp ++ y))))) 1 0 1 ((x.length : Int) + 1) = (b, (x.length : Int) + 1 + 1, 0) := by
    have := st_byte (x ++ [r]) (leb 3 fu ++ (leb 2 sk ++ (leb 2 hp ++ y))) b 0 1 (by omega) (by omega) (by omega)
    rw [e1]; simpa using this
  have s3 : st (x ++ r :: (b :: (leb 3 fu ++ (leb 2 sk ++ (leb 2 hp ++ y))))) 3 0 1048576 ((x.length : Int) + 1 + 1) = (fu, (x.length : Int) + 1 + 1 + 3, 0) := by
    have := st_put (x ++ [r, b]) (leb 2 sk ++ (leb 2 hp ++ y)) 3 fu 0 1048576 (by omega) h1.1 (by omega) h1.1 h1.2
    rw [show (((x ++ [r, b]).length : Nat) : Int) = (x.length : Int) + 1 + 1 by simp; omega] at this
    rw [e2]; exact this
  have s4 : st (x ++ r :: (b :: (leb 3 fu ++ (leb 2 sk ++ (leb 2 hp ++ y))))) 2 0 256 ((x.length : Int) + 1 + 1 + 3) = (sk, (x.length : Int) + 1 + 1 + 3 + 2, 0) := by
    have := st_put (x ++ [r, b] ++ leb 3 fu) (leb 2 hp ++ y) 2 sk 0 256 (by omega) h2.1 (by omega) h2.1 h2.2
    rw [show (((x ++ [r, b] ++ leb 3 fu).length : Nat) : Int) = (x.length : Int) + 1 + 1 + 3 by simp [leb_length]; omega] at this
    rw [e3]; exact this
  have s5 : st (x ++ r :: (b :: (leb 3 fu ++ (leb 2 sk ++ (leb 2 hp ++ y))))) 2 0 1024 ((x.length : Int) + 1 + 1 + 3 + 2) = (hp, (x.length : Int) + 1 + 1 + 3 + 2 + 2, 0) := by
    have := st_put (x ++ [r, b] ++ leb 3 fu ++ leb 2 sk) y 2 hp 0 1024 (by omega) h3.1 (by omega) h3.1 h3.2
    rw [show (((x ++ [r, b] ++ leb 3 fu ++ leb 2 sk).length : Nat) : Int) = (x.length : Int) + 1 + 1 + 3 + 2 by simp [leb_length]; omega] at this
    rw [e4]; exact this
  unfold mnums
  rw [e0, s1, if_pos rfl]
  dsimp only
  rw [s2, if_pos rfl]
  dsimp only
  rw [s3, if_pos rfl]
  dsimp only
  rw [s4, if_pos rfl]
  dsimp only
  rw [s5, if_pos rfl, q1, show r % 256 = r by omega, show (x.length : Int) + 1 + 1 + 3 + 2 + 2 = (x.length : Int) + 9 by omega]
theorem mhead_eq (a b : List Int) (r : Int) (q : Bool) (fu sk hp : Int) : mhead a b r q fu sk hp = ((a.length : Int) :: a) ++ (((b.length : Int) :: b) ++ mnum r q fu sk hp) := by
  simp [mhead, mnum]
theorem mhead_length (a b : List Int) (r : Int) (q : Bool) (fu sk hp : Int) : (mhead a b r q fu sk hp).length = a.length + b.length + 11 := by
  rw [mhead_eq]
  simp [mnum_length]
  omega
theorem mread_put (x y : List Int) {a b : List Int} {r : Int} {q : Bool} {fu sk hp : Int} (h : mmay a b r fu sk hp = true) : mread (x ++ mhead a b r q fu sk hp ++ y) x.length = (a, b, r, q, fu, sk, hp, [], (x.length : Int) + (mhead a b r q fu sk hp).length, 0) := by
  obtain ⟨hl, ha, hb, hr, h1, h2, h3, h4, h5, h6⟩ := mmay_iff.1 h
  have e0 : x ++ mhead a b r q fu sk hp ++ y = x ++ ((a.length : Int) :: a) ++ (((b.length : Int) :: b) ++ (mnum r q fu sk hp ++ y)) := by rw [mhead_eq]; simp
  have e1 : x ++ ((a.length : Int) :: a) ++ (((b.length : Int) :: b) ++ (mnum r q fu sk hp ++ y)) = (x ++ ((a.length : Int) :: a)) ++ ((b.length : Int) :: b) ++ (mnum r q fu sk hp ++ y) := by simp
  have e2 : x ++ ((a.length : Int) :: a) ++ (((b.length : Int) :: b) ++ (mnum r q fu sk hp ++ y)) = (x ++ ((a.length : Int) :: a) ++ ((b.length : Int) :: b)) ++ mnum r q fu sk hp ++ y := by simp
  have k1 := krow_put x a (((b.length : Int) :: b) ++ (mnum r q fu sk hp ++ y)) 4 ha (by omega) (by omega)
  have k2 : krow (x ++ ((a.length : Int) :: a) ++ (((b.length : Int) :: b) ++ (mnum r q fu sk hp ++ y))) ((x.length : Int) + 1 + a.length) (16 - (a.length : Int)) = (b, (x.length : Int) + 1 + a.length + 1 + b.length, 0) := by
    have := krow_put (x ++ ((a.length : Int) :: a)) b (mnum r q fu sk hp ++ y) (16 - (a.length : Int)) hb (by omega) (by omega)
    rw [show (((x ++ ((a.length : Int) :: a)).length : Nat) : Int) = (x.length : Int) + 1 + a.length by simp; omega] at this
    rw [e1]; exact this
  have k3 : mnums (x ++ ((a.length : Int) :: a) ++ (((b.length : Int) :: b) ++ (mnum r q fu sk hp ++ y))) a b ((x.length : Int) + 1 + a.length + 1 + b.length) = (a, b, r, q, fu, sk, hp, [], (x.length : Int) + 1 + a.length + 1 + b.length + 9, 0) := by
    have := mnums_put (x ++ ((a.length : Int) :: a) ++ ((b.length : Int) :: b)) y a b r q fu sk hp hr ⟨h1, h2⟩ ⟨h3, h4⟩ ⟨h5, h6⟩
    rw [show (((x ++ ((a.length : Int) :: a) ++ ((b.length : Int) :: b)).length : Nat) : Int) = (x.length : Int) + 1 + a.length + 1 + b.length by simp; omega] at this
    rw [e2]; exact this
  unfold mread
  rw [e0, k1, if_pos rfl]
  dsimp only
  rw [k2, if_pos rfl]
  dsimp only
  rw [k3, mhead_length]
  congr 9
  push_cast
  omega
theorem piece_add {l : List Int} {a m n : Int} (ha : 0 ≤ a) (hm : 0 ≤ m) (hn : 0 ≤ n) : piece l a (m + n) = piece l a m ++ piece l (a + m) n := by
  obtain ⟨i, rfl⟩ : ∃ i : Nat, a = (i : Int) := ⟨a.toNat, by omega⟩
  obtain ⟨j, rfl⟩ : ∃ i : Nat, m = (i : Int) := ⟨m.toNat, by omega⟩
  obtain ⟨k, rfl⟩ : ∃ i : Nat, n = (i : Int) := ⟨n.toNat, by omega⟩
  unfold piece
  rw [show ((j : Int) + k).toNat = j + k by omega, show ((i : Int) + j).toNat = i + j by omega, Int.toNat_natCast, Int.toNat_natCast, Int.toNat_natCast, ← List.drop_drop, List.take_add]
theorem kf_inv {l : List Int} : ∀ (d : Nat) (a : Int) (acc : List Int), acc.all kd = true → 0 ≤ a → (kf l d a acc).2.2 = 0 → (kf l d a acc).1 = acc ++ piece l a d ∧ (kf l d a acc).1.all kd = true ∧ (a + d ≤ (l.length : Int) ∨ d = 0) := by
  intro d
  induction d with
  | zero => intro a acc h ha _; exact ⟨by simp [kf, piece], h, .inr rfl⟩
  | succ d ih =>
    intro a acc h ha hz
    by_cases h1 : (st l 1 1 3 a).2.2 = 0
    · rw [kf, if_pos h1] at hz ⊢
      obtain ⟨n1, n2, n3, n4, n5, n6, _⟩ := st_next h1
      rw [piece_one ha (by omega)] at n6
      have hr : (st l 1 1 3 a).1 = rd l a := by rw [n6]; simp [val]
      rw [n1, hr] at hz ⊢
      rw [hr] at n4 n5
      rw [show rd l a % 256 = rd l a by omega] at hz ⊢
      have hkd : kd (rd l a) = true := by unfold kd; exact decide_eq_true (by omega)
      obtain ⟨i1, i2, i3⟩ := ih (a + 1) (acc ++ [rd l a]) (by rw [List.all_append, h]; simp [hkd]) (by omega) hz
      refine ⟨?_, i2, .inl (by omega)⟩
      rw [i1, show ((d + 1 : Nat) : Int) = 1 + (d : Int) by omega, piece_add ha (by omega) (by omega), piece_one ha (by omega)]
      simp
    · rw [kf, if_neg h1] at hz; exact absurd hz h1
theorem krow_inv {l : List Int} {a most : Int} (h : (krow l a most).2.2 = 0) : 0 ≤ a ∧ a + 1 + (krow l a most).1.length ≤ (l.length : Int) ∧ (krow l a most).2.1 = a + 1 + (krow l a most).1.length ∧ ((krow l a most).1.length : Int) ≤ most ∧ (krow l a most).1.all kd = true ∧ piece l a (1 + (krow l a most).1.length) = ((krow l a most).1.length : Int) :: (krow l a most).1 := by
  unfold krow at h ⊢
  by_cases h1 : (st l 1 0 most a).2.2 = 0
  case neg => rw [if_neg h1] at h; exact absurd h h1
  rw [if_pos h1] at h ⊢
  obtain ⟨n1, n2, n3, n4, n5, n6, _⟩ := st_next h1
  obtain ⟨i1, i2, i3⟩ := kf_inv _ _ [] rfl (by omega) h
  have hlen := kf_length _ _ _ h
  rw [piece_one n2 (by omega)] at n6
  have hr : (st l 1 0 most a).1 = rd l a := by rw [n6]; simp [val]
  simp only [List.length_nil, Nat.zero_add] at hlen
  have hL : ((kf l (st l 1 0 most a).1.toNat (st l 1 0 most a).2.1 []).1.length : Int) = (st l 1 0 most a).1 := by omega
  rw [List.nil_append] at i1
  refine ⟨n2, by omega, by omega, by omega, i2, ?_⟩
  rw [piece_add n2 (by omega) (by omega), piece_one n2 (by omega), hL, ← n1]
  rw [show (st l 1 0 most a).1 = (((st l 1 0 most a).1.toNat : Nat) : Int) by omega] at i1
  rw [Int.toNat_natCast] at i1
  rw [i1, hr, show (rd l a : Int) = (((rd l a).toNat : Nat) : Int) by omega, Int.toNat_natCast]
  rfl
theorem st_piece {l : List Int} (hb : isB l) {a lo hi : Int} (w : Nat) (h : (st l w lo hi a).2.2 = 0) : leb w (st l w lo hi a).1 = piece l a w := by
  obtain ⟨n1, n2, n3, n4, n5, n6, n7⟩ := st_next h
  rw [n6]
  have h1 := leb_val (piece_isB a w hb)
  rw [piece_length n2 (by omega) n3] at h1
  simpa using h1
theorem st_piece1 {l : List Int} {a lo hi : Int} (h : (st l 1 lo hi a).2.2 = 0) : piece l a 1 = [(st l 1 lo hi a).1] := by
  obtain ⟨n1, n2, n3, n4, n5, n6, n7⟩ := st_next h
  rw [n6, piece_one n2 (by omega)]
  simp [val]
theorem mnums_inv {l : List Int} (hb : isB l) {A L : List Int} {a : Int} (h : (mnums l A L a).2.2.2.2.2.2.2.2.2 = 0) : ∃ r q fu sk hp, mnums l A L a = (A, L, r, q, fu, sk, hp, [], a + 9, 0) ∧ (r = 1 ∨ r = 2) ∧ 0 ≤ fu ∧ fu ≤ 1048576 ∧ 0 ≤ sk ∧ sk ≤ 256 ∧ 0 ≤ hp ∧ hp ≤ 1024 ∧ 0 ≤ a ∧ a + 9 ≤ (l.length : Int) ∧ piece l a 9 = mnum r q fu sk hp := by
  unfold mnums at h ⊢
  by_cases h1 : (st l 1 1 2 a).2.2 = 0
  case neg => rw [if_neg h1] at h; exact absurd h h1
  rw [if_pos h1] at h ⊢
  have p1 := st_piece1 h1
  have n1 := st_next h1
  generalize st l 1 1 2 a = v1 at *
  by_cases h2 : (st l 1 0 1 v1.2.1).2.2 = 0
  case neg => rw [if_neg h2] at h; exact absurd h h2
  rw [if_pos h2] at h ⊢
  have p2 := st_piece1 h2
  have n2 := st_next h2
  generalize st l 1 0 1 v1.2.1 = v2 at *
  by_cases h3 : (st l 3 0 1048576 v2.2.1).2.2 = 0
  case neg => rw [if_neg h3] at h; exact absurd h h3
  rw [if_pos h3] at h ⊢
  have p3 : leb 3 (st l 3 0 1048576 v2.2.1).1 = piece l v2.2.1 3 := st_piece hb 3 h3
  have n3 := st_next h3
  generalize st l 3 0 1048576 v2.2.1 = v3 at *
  by_cases h4 : (st l 2 0 256 v3.2.1).2.2 = 0
  case neg => rw [if_neg h4] at h; exact absurd h h4
  rw [if_pos h4] at h ⊢
  have p4 : leb 2 (st l 2 0 256 v3.2.1).1 = piece l v3.2.1 2 := st_piece hb 2 h4
  have n4 := st_next h4
  generalize st l 2 0 256 v3.2.1 = v4 at *
  by_cases h5 : (st l 2 0 1024 v4.2.1).2.2 = 0
  case neg => rw [if_neg h5] at h; exact absurd h h5
  rw [if_pos h5] at h ⊢
  have p5 : leb 2 (st l 2 0 1024 v4.2.1).1 = piece l v4.2.1 2 := st_piece hb 2 h5
  have n5 := st_next h5
  generalize st l 2 0 1024 v4.2.1 = v5 at *
  refine ⟨v1.1, v2.1 == 1, v3.1, v4.1, v5.1, ?_, by omega, by omega, by omega, by omega, by omega, by omega, by omega, by omega, by omega, ?_⟩
  · rw [show v1.1 % 256 = v1.1 by omega, show v5.2.1 = a + 9 by omega]
  · have hq : (if (v2.1 == 1) = true then (1 : Int) else 0) = v2.1 := by
      rcases (by omega : v2.1 = 0 ∨ v2.1 = 1) with e | e <;> rw [e] <;> rfl
    unfold mnum
    rw [hq, show (9 : Int) = 1 + (1 + (3 + (2 + 2))) from rfl, piece_add (by omega) (by omega) (by omega), piece_add (by omega) (by omega) (by omega), piece_add (by omega) (by omega) (by omega), piece_add (by omega) (by omega) (by omega), p1, ← n1.1, p2, ← n2.1]
    rw [← p3, ← n3.1, ← p4, ← n4.1, ← p5]
    rfl
theorem mread_inv {l : List Int} (hb : isB l) {a : Int} (h : (mread l a).2.2.2.2.2.2.2.2.2 = 0) : ∃ A L r q fu sk hp, mread l a = (A, L, r, q, fu, sk, hp, [], a + (mhead A L r q fu sk hp).length, 0) ∧ mmay A L r fu sk hp = true ∧ 0 ≤ a ∧ a + (mhead A L r q fu sk hp).length ≤ (l.length : Int) ∧ piece l a (mhead A L r q fu sk hp).length = mhead A L r q fu sk hp := by
  unfold mread at h ⊢
  by_cases h1 : (krow l a 4).2.2 = 0
  case neg => rw [if_neg h1] at h; exact absurd h h1
  rw [if_pos h1] at h ⊢
  obtain ⟨a1, a2, a3, a4, a5, a6⟩ := krow_inv h1
  generalize krow l a 4 = A at *
  by_cases h2 : (krow l A.2.1 (16 - (A.1.length : Int))).2.2 = 0
  case neg => rw [if_neg h2] at h; exact absurd h h2
  rw [if_pos h2] at h ⊢
  obtain ⟨b1, b2, b3, b4, b5, b6⟩ := krow_inv h2
  generalize krow l A.2.1 (16 - (A.1.length : Int)) = L at *
  obtain ⟨r, q, fu, sk, hp, e, g1, g2, g3, g4, g5, g6, g7, g8, g9, g10⟩ := mnums_inv hb h
  have hlen := mhead_length A.1 L.1 r q fu sk hp
  refine ⟨A.1, L.1, r, q, fu, sk, hp, ?_, mmay_iff.2 ⟨by omega, a5, b5, g1, g2, g3, g4, g5, g6, g7⟩, a1, by omega, ?_⟩
  · rw [e]; congr 9; omega
  · rw [hlen, show ((A.1.length + L.1.length + 11 : Nat) : Int) = (1 + (A.1.length : Int)) + ((1 + (L.1.length : Int)) + 9) by omega, piece_add (m := 1 + (A.1.length : Int)) a1 (by omega) (by omega), piece_add (m := 1 + (L.1.length : Int)) (by omega) (by omega) (by omega), a6, show a + (1 + (A.1.length : Int)) = A.2.1 by omega, b6, show A.2.1 + (1 + (L.1.length : Int)) = L.2.1 by omega, g10, mhead_eq]
end Go.Proofs.YthmjblmdbcmjcaaDoor.M.MC
