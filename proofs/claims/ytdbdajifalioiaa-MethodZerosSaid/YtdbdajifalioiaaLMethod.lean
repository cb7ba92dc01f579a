/- Layer 7 in plain terms: a method's head, its kinds, whether values fit it, its bytes. -/
import Derived.Test.YtdbdajifalioiaaR2
import Derived.Test.YtdbdajifalioiaaR3
import Derived.Test.YtdbdajifalioiaaR4
import Derived.Test.YtdbdajifalioiaaR5
import Derived.Test.YtdbdajifalioiaaR6
import Derived.Test.YtdbdajifalioiaaR7
import Derived.Test.YtdbdajifalioiaaLMethod0
import Derived.Test.YtdbdajifalioiaaLValue3
import Derived.Test.YtdbdajifalioiaaLOctet
namespace Go.Proofs.Ytdbdajifalioiaa.M
open Go.RowKit Go.Proofs.Ytdbdajifalioiaa.R Go.Proofs.YtdbdajifalioiaaW.PrintWords Go.Proofs.YtdbdajifalioiaaW.PrintLast Go.Proofs.YtdbdajifalioiaaW.PrintMore

theorem concat_f (a b : List Int) (ha : a.length ≤ 100000) (hb : b.length ≤ 100000) (k : Nat) (hk : 10 ≤ k) : slices_Concat_uint8_uint8.f k [a, b] = some (a ++ b) := by
  obtain ⟨k, rfl⟩ : ∃ n, k = n + 10 := ⟨k - 10, by omega⟩
  unfold slices_Concat_uint8_uint8.f
  have e0 : rd_L3 [a, b] 0 = a := rfl
  have e1 : rd_L3 [a, b] 1 = b := rfl
  simp only [slices_Concat_uint8_uint8.l0]
  have w1 : wrap64 (0 + 1) = 1 := wrap64_id (by omega) (by omega)
  have w2 : wrap64 (1 + 1) = 2 := wrap64_id (by omega) (by omega)
  have w3 : wrap64 (0 + (a.length : Int)) = a.length := by rw [wrap64_id (by omega) (by omega)]; omega
  have w4 : wrap64 ((a.length : Int) + b.length) = a.length + b.length := wrap64_id (by omega) (by omega)
  have hL : (([a, b] : List (List Int)).length : Int) = 2 := rfl
  rw [hL, if_pos (by decide), if_pos (by decide), if_pos (by decide), e0, w3, if_neg (by omega), w1, if_pos (by decide), if_pos (by decide), if_pos (by decide), e1, w4, if_neg (by omega), w2, if_neg (by decide)]
  unfold slices_Grow_uint8_uint8.f
  rw [if_pos (by omega), Option.bind_some]
  simp only [slices_Concat_uint8_uint8.l1]
  rw [hL, if_pos (by decide), if_pos (by decide), if_pos (by decide), e0, if_pos (by simp; omega), w1, if_pos (by decide), if_pos (by decide), if_pos (by decide), e1, if_pos (by simp; omega), w2, if_neg (by decide), List.nil_append]
theorem mKinds_f (a b : List Int) (r : Int) (q : Bool) (fu st hp : Int) (code : List S114) (ha : a.length ≤ 100000) (hb : b.length ≤ 100000) (k : Nat) (hk : 10 ≤ k) : method_Kinds.f k a b r q fu st hp code = some (a ++ b) := by
  unfold method_Kinds.f
  rw [concat_f a b ha hb k hk]; rfl
theorem local_f (x : Int) : method_local.f x = some (kd x) := by
  unfold method_local.f kd
  rw [zero_f, Option.bind_some]
  unfold zero
  by_cases h : x = 1 ∨ x = 2 ∨ x = 3
  · rw [if_pos h, decide_eq_true h]
  · rw [if_neg h, decide_eq_false h]
theorem within_f (n m : Int) : method_within.f n m = some (decide (0 ≤ n ∧ n ≤ m)) := by
  unfold method_within.f
  split
  · congr 1; rw [Bool.eq_iff_iff, decide_eq_true_eq, decide_eq_true_eq]; omega
  · rw [decide_eq_false (by omega)]
theorem mMay_l0 (l : List Int) (hl : l.length ≤ 100000) (a b : List Int) (r : Int) (q : Bool) (fu st hp : Int) (code : List S114) (d : Nat) : ∀ (k i : Nat), i + d = l.length → d < k → method_May.l0 k l l.length i a b r q fu st hp code = some ((l.drop i).all kd && decide (0 ≤ fu ∧ fu ≤ 1048576 ∧ 0 ≤ st ∧ st ≤ 256 ∧ 0 ≤ hp ∧ hp ≤ 1024)) := by
  induction d with
  | zero =>
    intro k i hi hk
    obtain ⟨k, rfl⟩ : ∃ n, k = n + 1 := ⟨k - 1, by omega⟩
    simp only [method_May.l0]
    rw [if_neg (by omega), List.drop_eq_nil_of_le (by omega), List.all_nil, Bool.true_and, within_f, Option.bind_some]
    by_cases h1 : 0 ≤ fu ∧ fu ≤ 1048576
    · rw [if_pos (decide_eq_true h1), within_f, Option.bind_some]
      by_cases h2 : 0 ≤ st ∧ st ≤ 256
      · rw [if_pos (decide_eq_true h2), within_f, Option.bind_some]
        congr 1; rw [Bool.eq_iff_iff, decide_eq_true_eq, decide_eq_true_eq]; omega
      · rw [if_neg (by simpa using h2), decide_eq_false (by omega)]
    · rw [if_neg (by simpa using h1), decide_eq_false (by omega)]
  | succ d ih =>
    intro k i hi hk
    obtain ⟨k, rfl⟩ : ∃ n, k = n + 1 := ⟨k - 1, by omega⟩
    have hr := ih k (i + 1) (by omega) (by omega)
    simp only [method_May.l0]
    rw [if_pos (by omega), if_pos (by omega), if_pos (by omega), rd_at (by omega : i < l.length), local_f, Option.bind_some, List.drop_eq_getElem_cons (by omega : i < l.length), List.all_cons, wrap64_id (by omega) (by omega), show ((i : Int) + 1) = ((i + 1 : Nat) : Int) by omega, hr]
    cases kd l[i]
    · rw [if_neg (by decide), Bool.false_and, Bool.false_and]
    · rw [if_pos rfl, Bool.true_and]
theorem mMay_j0 (x : Bool) (a b : List Int) (r : Int) (q : Bool) (fu st hp : Int) (code : List S114) (ha : a.length ≤ 100000) (hb : b.length ≤ 100) (hab : a.length ≤ 100) (k : Nat) (hk : 300 ≤ k) : method_May.j0 k x a b r q fu st hp code = some (!x && ((a ++ b).all kd && decide (0 ≤ fu ∧ fu ≤ 1048576 ∧ 0 ≤ st ∧ st ≤ 256 ∧ 0 ≤ hp ∧ hp ≤ 1024))) := by
  obtain ⟨k, rfl⟩ : ∃ n, k = n + 1 := ⟨k - 1, by omega⟩
  simp only [method_May.j0]
  cases x
  · have hr := mMay_l0 (a ++ b) (by simp; omega) a b r q fu st hp code (a ++ b).length k 0 (by omega) (by simp; omega)
    rw [if_neg (by decide), mKinds_f _ _ _ _ _ _ _ _ (by omega) (by omega) _ (by omega), Option.bind_some, show (0 : Int) = ((0 : Nat) : Int) from rfl, hr]; rfl
  · rw [if_pos rfl]; rfl
theorem mMay_f (a b : List Int) (r : Int) (q : Bool) (fu st hp : Int) (code : List S114) (ha : a.length ≤ 100) (hb : b.length ≤ 100) (k : Nat) (hk : 300 ≤ k) : method_May.f k a b r q fu st hp code = some (mmay a b r fu st hp) := by
  unfold method_May.f mmay
  by_cases h1 : (a.length : Int) > 4
  · rw [if_pos h1, mMay_j0 _ _ _ _ _ _ _ _ _ (by omega) hb ha _ hk, decide_eq_false (by omega : ¬ (a.length + b.length ≤ 16 ∧ a.length ≤ 4))]; rfl
  rw [if_neg h1, wrap64_id (by omega) (by omega)]
  by_cases h2 : (a.length : Int) + b.length > 16
  · rw [if_pos h2, mMay_j0 _ _ _ _ _ _ _ _ _ (by omega) hb ha _ hk, decide_eq_false (by omega : ¬ (a.length + b.length ≤ 16 ∧ a.length ≤ 4))]; rfl
  rw [if_neg h2, decide_eq_true (by omega), Bool.true_and]
  by_cases h3 : r = 1
  · rw [if_pos h3, mMay_j0 _ _ _ _ _ _ _ _ _ (by omega) hb ha _ hk, List.all_append, Bool.not_false, Bool.true_and, Bool.and_assoc]
    congr 3; rw [Bool.eq_iff_iff, decide_eq_true_eq, decide_eq_true_eq]; omega
  · rw [if_neg h3, mMay_j0 _ _ _ _ _ _ _ _ _ (by omega) hb ha _ hk, List.all_append]
    by_cases h4 : r = 2
    · rw [h4, bne_self_eq_false, Bool.not_false, Bool.true_and, Bool.and_assoc]
      congr 3; rw [Bool.eq_iff_iff, decide_eq_true_eq, decide_eq_true_eq]; omega
    · rw [decide_eq_false (by omega : ¬ ((r = 1 ∨ r = 2) ∧ _)), show (r != 2) = true by rw [bne_iff_ne]; exact h4, Bool.not_true, Bool.false_and, Bool.and_false, Bool.and_false]
/-- Is a kind among some? -/
def mhas (l : List Int) (v : Int) : Bool := l.any fun x => decide (v = x)
theorem index_l0 (l : List Int) (hl : l.length ≤ 100000) (v : Int) (d : Nat) : ∀ (k i : Nat), i + d = l.length → d < k → ∃ t, slices_Index_uint8_uint8.l0 k l v l.length i = some t ∧ decide (t ≥ 0) = mhas (l.drop i) v := by
  induction d with
  | zero =>
    intro k i hi hk
    obtain ⟨k, rfl⟩ : ∃ n, k = n + 1 := ⟨k - 1, by omega⟩
    simp only [slices_Index_uint8_uint8.l0]
    rw [if_neg (by omega), List.drop_eq_nil_of_le (by omega)]
    exact ⟨_, rfl, rfl⟩
  | succ d ih =>
    intro k i hi hk
    obtain ⟨k, rfl⟩ : ∃ n, k = n + 1 := ⟨k - 1, by omega⟩
    obtain ⟨t, h1, h2⟩ := ih k (i + 1) (by omega) (by omega)
    simp only [slices_Index_uint8_uint8.l0]
    rw [if_pos (by omega), if_pos (by omega), if_pos (by omega), rd_at (by omega : i < l.length), List.drop_eq_getElem_cons (by omega : i < l.length), wrap64_id (by omega) (by omega), show ((i : Int) + 1) = ((i + 1 : Nat) : Int) by omega, h1]
    by_cases h : v = l[i]
    · rw [if_pos h]
      refine ⟨_, rfl, ?_⟩
      unfold mhas
      rw [List.any_cons, decide_eq_true h, Bool.true_or, decide_eq_true (by omega)]
    · rw [if_neg h]
      refine ⟨_, rfl, ?_⟩
      unfold mhas at h2 ⊢
      rw [List.any_cons, decide_eq_false h, Bool.false_or, h2]
theorem contains_f (l : List Int) (hl : l.length ≤ 100000) (v : Int) (k : Nat) (hk : l.length < k) : slices_Contains_uint8_uint8.f k l v = some (mhas l v) := by
  obtain ⟨t, h1, h2⟩ := index_l0 l hl v l.length k 0 (by omega) hk
  unfold slices_Contains_uint8_uint8.f slices_Index_uint8_uint8.f
  rw [show (0 : Int) = ((0 : Nat) : Int) from rfl, h1, Option.bind_some]
  rw [List.drop_zero] at h2
  rw [← h2]
  rfl
theorem mMigrates_f (a b : List Int) (r : Int) (q : Bool) (fu st hp : Int) (code : List S114) (ha : a.length ≤ 100) (hb : b.length ≤ 100) (k : Nat) (hk : 300 ≤ k) : method_Migrates.f k a b r q fu st hp code = some (mmay a b r fu st hp && !mhas a 3) := by
  unfold method_Migrates.f
  rw [mMay_f a b r q fu st hp code ha hb k hk, Option.bind_some]
  cases mmay a b r fu st hp
  · rw [if_neg (by decide), Bool.false_and]
  · rw [if_pos rfl, contains_f a (by omega) 3 k (by omega), Option.bind_some, Bool.true_and]
/-- Do values fit kinds, from a place on? -/
def fitl (x : List S47) (a : List Int) : Nat → Int → Bool
  | 0, _ => true
  | d + 1, i => decide ((rd_T47 x i).f0 = rd a i) && (inside (rd_T47 x i).f0 (rd_T47 x i).f1 (rd_T47 x i).f2 && fitl x a d (i + 1))
def mfits (a b : List Int) (r fu st hp : Int) (x : List S47) : Bool := mmay a b r fu st hp && (decide (x.length = a.length) && fitl x a x.length 0)
theorem mFits_l0 (x : List S47) (a b : List Int) (r : Int) (q : Bool) (fu st hp : Int) (code : List S114) (hx : x.length ≤ 100000) (ha : x.length = a.length) (d : Nat) : ∀ (k i : Nat), i + d = x.length → d < k → method_Fits.l0 k x x.length i a b r q fu st hp code = some (fitl x a d i) := by
  induction d with
  | zero =>
    intro k i hi hk
    obtain ⟨k, rfl⟩ : ∃ n, k = n + 1 := ⟨k - 1, by omega⟩
    simp only [method_Fits.l0]
    rw [if_neg (by omega)]; rfl
  | succ d ih =>
    intro k i hi hk
    obtain ⟨k, rfl⟩ : ∃ n, k = n + 1 := ⟨k - 1, by omega⟩
    have hr := ih k (i + 1) (by omega) (by omega)
    simp only [method_Fits.l0, fitl]
    rw [if_pos (by omega), if_pos (by omega), if_pos (by omega), if_pos (by omega), wrap64_id (by omega) (by omega), show ((i : Int) + 1) = ((i + 1 : Nat) : Int) by omega, hr, inside_f, Option.bind_some]
    by_cases h : (rd_T47 x i).f0 = rd a i
    · rw [if_pos h, decide_eq_true h, Bool.true_and]
      cases inside (rd_T47 x i).f0 (rd_T47 x i).f1 (rd_T47 x i).f2
      · rfl
      · rw [if_pos rfl, Bool.true_and]
    · rw [if_neg h, decide_eq_false h, Bool.false_and]
theorem mFits_f (a b : List Int) (r : Int) (q : Bool) (fu st hp : Int) (code : List S114) (x : List S47) (ha : a.length ≤ 100) (hb : b.length ≤ 100) (hx : x.length ≤ 100000) (k : Nat) (hk : 300 ≤ k) : method_Fits.f k a b r q fu st hp code x = some (mfits a b r fu st hp x) := by
  obtain ⟨k, rfl⟩ : ∃ n, k = n + 1 := ⟨k - 1, by omega⟩
  unfold method_Fits.f mfits
  rw [mMay_f a b r q fu st hp code ha hb _ hk, Option.bind_some]
  simp only [method_Fits.j0]
  cases mmay a b r fu st hp
  · rw [if_neg (by decide), if_pos trivial, Bool.false_and]
  · rw [if_pos rfl, Bool.true_and]
    by_cases h : x.length = a.length
    · have hr := mFits_l0 x a b r q fu st hp code hx h x.length k 0 (by omega) (by omega)
      rw [if_neg (by rw [bne_iff_ne]; omega), decide_eq_true h, Bool.true_and]
      exact hr
    · rw [if_pos (by rw [bne_iff_ne]; omega), decide_eq_false h, Bool.false_and]
theorem put_3 {n : Int} (h : 0 ≤ n ∧ n ≤ 1048576) : put 3 n = (leb 3 n, 0) := by
  unfold put
  rw [if_neg (by omega), if_pos ⟨h.1, .inr (by rw [show (256 : Int) ^ (3 : Int).toNat = 16777216 from rfl]; omega)⟩]; rfl
theorem put_2 {n : Int} (h : 0 ≤ n ∧ n ≤ 1024) : put 2 n = (leb 2 n, 0) := by
  unfold put
  rw [if_neg (by omega), if_pos ⟨h.1, .inr (by rw [show (256 : Int) ^ (2 : Int).toNat = 65536 from rfl]; omega)⟩]; rfl
theorem mBytes_l0 (y : List Int) (hy : y.length ≤ 1000) (fu st hp : Int) (h1 : 0 ≤ fu ∧ fu ≤ 1048576) (h2 : 0 ≤ st ∧ st ≤ 256) (h3 : 0 ≤ hp ∧ hp ≤ 1024) (k : Nat) (hk : 20 ≤ k) : method_Bytes.l0 k y 0 3 fu 2 st 2 hp = some (y ++ (leb 3 fu ++ (leb 2 st ++ leb 2 hp)), 0) := by
  obtain ⟨k, rfl⟩ : ∃ n, k = n + 4 := ⟨k - 4, by omega⟩
  have l1 := leb_length 3 fu
  have l2 := leb_length 2 st
  have l3 := leb_length 2 hp
  simp only [method_Bytes.l0]
  have w1 : wrap64 (0 + 1) = 1 := wrap64_id (by omega) (by omega)
  have w2 : wrap64 (1 + 1) = 2 := wrap64_id (by omega) (by omega)
  have w3 : wrap64 (2 + 1) = 3 := wrap64_id (by omega) (by omega)
  rw [if_pos (by decide), if_pos (by decide), w1, show pick3 0 3 2 2 = 3 from rfl, show pick3 0 fu st hp = fu from rfl, put_f 3 fu _ (by omega), put_3 h1, Option.bind_some]
  dsimp only
  rw [if_pos rfl, if_pos (by omega), if_pos (by decide), if_pos (by decide), w2, show pick3 1 3 2 2 = 2 from rfl, show pick3 1 fu st hp = st from rfl, put_f 2 st _ (by omega), put_2 ⟨h2.1, by omega⟩, Option.bind_some]
  dsimp only
  rw [if_pos rfl, if_pos (by simp; omega), if_pos (by decide), if_pos (by decide), w3, show pick3 2 3 2 2 = 2 from rfl, show pick3 2 fu st hp = hp from rfl, put_f 2 hp _ (by omega), put_2 ⟨h3.1, by omega⟩, Option.bind_some]
  dsimp only
  rw [if_pos rfl, if_pos (by simp; omega), if_neg (by decide)]
  simp
theorem mBytes_f (a b : List Int) (r : Int) (q : Bool) (fu st hp : Int) (code : List S114) (ha : a.length ≤ 100) (hb : b.length ≤ 100) (k : Nat) (hk : 300 ≤ k) : method_Bytes.f k a b r q fu st hp code = some (mbytes a b r q fu st hp) := by
  obtain ⟨k, rfl⟩ : ∃ n, k = n + 1 := ⟨k - 1, by omega⟩
  unfold method_Bytes.f mbytes
  rw [mMay_f a b r q fu st hp code ha hb _ hk, Option.bind_some]
  cases hm : mmay a b r fu st hp
  · rw [if_neg (by decide), if_neg (by decide)]
  · obtain ⟨_, _, _, h4, h5⟩ := mmay_iff.1 hm
    rw [if_pos rfl, if_pos rfl, Option.bind_some, if_pos (by simp; omega), Option.bind_some, if_pos (by simp; omega), Option.bind_some, if_pos (by simp; omega), Option.bind_some, Option.bind_some, if_pos (by simp; omega), Option.bind_some]
    simp only [method_Bytes.j0]
    rw [show (a.length : Int) % 256 = a.length by omega, show (b.length : Int) % 256 = b.length by omega]
    have hl : ([(a.length : Int)] ++ a ++ [(b.length : Int)] ++ b ++ [r, 0]).length = a.length + b.length + 4 := by simp; omega
    have hl2 : ([(a.length : Int)] ++ a ++ [(b.length : Int)] ++ b ++ [r, 1]).length = a.length + b.length + 4 := by simp; omega
    rw [hl, wrap64_id (by omega) (by omega)]
    cases q
    · rw [if_neg (by decide), mBytes_l0 _ (by omega) fu st hp (by omega) (by omega) (by omega) _ (by omega)]
      simp [mhead]
    · rw [if_pos rfl, if_pos (by omega), if_pos (by omega)]
      have hs : ([(a.length : Int)] ++ a ++ [(b.length : Int)] ++ b ++ [r, 0]).set (((a.length + b.length + 4 : Nat) : Int) - 1).toNat 1 = [(a.length : Int)] ++ a ++ [(b.length : Int)] ++ b ++ [r, 1] := by
        rw [show ((((a.length + b.length + 4 : Nat) : Int) - 1).toNat) = ([(a.length : Int)] ++ a ++ [(b.length : Int)] ++ b).length + 1 by simp; omega, List.set_append_right _ _ (by omega)]
        simp
      rw [hs, mBytes_l0 _ (by omega) fu st hp (by omega) (by omega) (by omega) _ (by omega)]
      simp [mhead]
/-- A head's locals' values at first. -/
def mzeros (a b : List Int) (r fu st hp : Int) : List S47 × Bool := if mmay a b r fu st hp = true then (b.map fun k => ⟨k, 0, 0⟩, true) else ([], false)
theorem mZeros_l0 (b : List Int) (hb : b.length ≤ 100000) (hk : b.all kd = true) (d : Nat) : ∀ (k i : Nat) (acc : List S47), i + d = b.length → acc.length ≤ i → d < k → method_Zeros.l0 k acc b b.length i = some (acc ++ (b.drop i).map (fun k => ⟨k, 0, 0⟩), true) := by
  induction d with
  | zero =>
    intro k i acc hi ha hk
    obtain ⟨k, rfl⟩ : ∃ n, k = n + 1 := ⟨k - 1, by omega⟩
    simp only [method_Zeros.l0]
    rw [if_neg (by omega), List.drop_eq_nil_of_le (by omega)]; simp
  | succ d ih =>
    intro k i acc hi ha hk2
    obtain ⟨k, rfl⟩ : ∃ n, k = n + 1 := ⟨k - 1, by omega⟩
    have h1 : kd b[i] = true := List.all_eq_true.1 hk _ (List.getElem_mem _)
    unfold kd at h1
    rw [decide_eq_true_eq] at h1
    have hr := ih k (i + 1) (acc ++ [⟨b[i], 0, 0⟩]) (by omega) (by simp; omega) (by omega)
    simp only [method_Zeros.l0]
    rw [if_pos (by omega), if_pos (by omega), if_pos (by omega), rd_at (by omega : i < b.length), zero_f, Option.bind_some]
    unfold zero
    rw [if_pos h1]
    dsimp only
    rw [if_pos (by omega), wrap64_id (by omega) (by omega), show ((i : Int) + 1) = ((i + 1 : Nat) : Int) by omega, hr, List.drop_eq_getElem_cons (by omega : i < b.length), List.map_cons, List.append_assoc]
    rfl
theorem mZeros_f (a b : List Int) (r : Int) (q : Bool) (fu st hp : Int) (code : List S114) (ha : a.length ≤ 100) (hb : b.length ≤ 100) (k : Nat) (hk : 300 ≤ k) : method_Zeros.f k a b r q fu st hp code = some (mzeros a b r fu st hp) := by
  unfold method_Zeros.f mzeros
  rw [mMay_f a b r q fu st hp code ha hb _ hk, Option.bind_some]
  cases hm : mmay a b r fu st hp
  · rw [if_neg (by decide), if_neg (by decide)]
  · obtain ⟨_, _, h3, _⟩ := mmay_iff.1 hm
    have hr := mZeros_l0 b (by omega) h3 b.length k 0 [] (by omega) (by simp) (by omega)
    rw [if_pos rfl, if_pos rfl]
    simpa using hr
theorem great7_f (a b : List Int) (r : Int) (q : Bool) (fu st hp : Int) (code : List S114) : capstanlaw07_Great.f a b r q fu st hp code = some (decide (a.length > 100 ∨ b.length > 100)) := by
  unfold capstanlaw07_Great.f
  by_cases h : (a.length : Int) > 100
  · rw [if_pos h, decide_eq_true (by omega)]
  · rw [if_neg h]
    congr 1; rw [Bool.eq_iff_iff, decide_eq_true_eq, decide_eq_true_eq]; omega
end Go.Proofs.Ytdbdajifalioiaa.M
