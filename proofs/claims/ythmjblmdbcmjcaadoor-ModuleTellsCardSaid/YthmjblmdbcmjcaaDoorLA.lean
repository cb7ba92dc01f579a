/- Plain arithmetic: a number's bytes, the lowest one first, and back. No program in sight. Layer 1 in plain terms: what the printed functions of octet come to. Layer 1 in plain terms, the reading half: gather, cut, Get, GetSigned, GetRow. Rows of bytes and the strings that they are read as. Layer 3 in plain terms: what value's printed functions, and the chapter's, come to. Layer 3 in plain terms: reading a value. Layer 3 in plain terms: what may be inside, zero values. Layer 3 in plain terms: a value's bytes and what is read of them. Rows of values: whether all may be, their bytes one behind the other, and back. Rows of values: no one that may not be is in them. Layer 6 in plain terms: reading a pool. Layer 6 in plain terms: pools, their bytes, places, adding. Pools: the reference's answers are the program's, in plain terms. Layer 4 in plain terms: operations' names, bounds. What more rounds tell; modules that aren't too long (of capstanlaw08_Great.f). Layer 11 in plain terms: layer 8's guard (of capstanlaw08_Great.f). A module's copy in plain terms (of capstanref08_Copy.f, capstanlaw08_Great.f). -/
import Derived.Test.YthmjblmdbcmjcaaDoorP4
import Derived.Test.YthmjblmdbcmjcaaDoorP6
import Derived.Test.YthmjblmdbcmjcaaDoorP7
import Derived.Test.YthmjblmdbcmjcaaDoorP8
import Derived.Test.YthmjblmdbcmjcaaDoorP9
import Derived.Test.YthmjblmdbcmjcaaDoorP13
import Derived.Test.YthmjblmdbcmjcaaDoorP14
import Derived.Test.YthmjblmdbcmjcaaDoorP15
import Derived.Test.YthmjblmdbcmjcaaDoorP16
import Derived.Test.YthmjblmdbcmjcaaDoorP18
import Derived.Test.YthmjblmdbcmjcaaDoorP19
import Derived.Test.YthmjblmdbcmjcaaDoorWMore
import Derived.Laws.BitsLemmas
import Derived.Lib.Bytes
namespace Go.Proofs.YthmjblmdbcmjcaaDoor.M
open Go.RowKit Go.Proofs.YthmjblmdbcmjcaaDoorW.PrintWords Go.Proofs.YthmjblmdbcmjcaaDoorW.PrintMore

theorem wf_i64 {x : Int} (h : (Lit.int .i64 x).wf = true) : -9223372036854775808 ≤ x ∧ x ≤ 9223372036854775807 := by
  simp [Lit.wf, IntKind.min, IntKind.max, IntKind.bits, IntKind.signed] at h; exact h
theorem wf_u8 {x : Int} (h : (Lit.int .u8 x).wf = true) : 0 ≤ x ∧ x ≤ 255 := by
  simp [Lit.wf, IntKind.min, IntKind.max, IntKind.bits, IntKind.signed] at h; omega
/-- Bytes. -/
def isB (l : List Int) : Prop := ∀ b ∈ l, 0 ≤ b ∧ b ≤ 255
theorem isB_cons {b : Int} {l : List Int} : isB (b :: l) ↔ (0 ≤ b ∧ b ≤ 255) ∧ isB l := by simp [isB]
theorem isB_sub {a b : List Int} (h : isB b) (hs : ∀ x ∈ a, x ∈ b) : isB a := fun x hx => h x (hs x hx)
theorem isB_take {a : List Int} (n : Nat) (h : isB a) : isB (a.take n) := isB_sub h fun _ hx => List.mem_of_mem_take hx
theorem isB_drop {a : List Int} (n : Nat) (h : isB a) : isB (a.drop n) := isB_sub h fun _ hx => List.mem_of_mem_drop hx

theorem wrap64_id {x : Int} (h0 : -9223372036854775808 ≤ x) (h1 : x ≤ 9223372036854775807) : wrap64 x = x := by unfold wrap64; omega
def leb : Nat → Int → List Int
  | 0, _ => []
  | w + 1, x => (x % 256) :: leb w (x / 256)
def val : List Int → Int
  | [] => 0
  | b :: l => b + 256 * val l
theorem leb_length (w : Nat) : ∀ x, (leb w x).length = w := by
  induction w with
  | zero => intro x; rfl
  | succ w ih => intro x; simp [leb, ih]
theorem p256 (w : Nat) : (0 : Int) < 256 ^ w := Int.pow_pos (by decide)
theorem val_bound {l : List Int} (h : isB l) : 0 ≤ val l ∧ val l < 256 ^ l.length := by
  induction l with
  | nil => simp [val]
  | cons b l ih =>
    rw [isB_cons] at h
    obtain ⟨h1, h2⟩ := ih h.2
    simp only [val, List.length_cons, Int.pow_succ]
    omega
theorem leb_snoc (w : Nat) : ∀ x : Int, leb (w + 1) x = leb w x ++ [x / 256 ^ w % 256] := by
  induction w with
  | zero => intro x; simp [leb]
  | succ w ih =>
    intro x
    rw [leb, ih (x / 256), leb]
    simp only [List.cons_append, Int.pow_succ]
    rw [Int.mul_comm, ← Int.ediv_ediv_of_nonneg (by decide)]
theorem pow8 (i : Nat) : (2 : Int) ^ (8 * i) = 256 ^ i := by rw [Int.pow_mul]; rfl
theorem set_leb (i d : Nat) (x v : Int) : (leb i x ++ List.replicate (d + 1) (0 : Int)).set i v = leb i x ++ [v] ++ List.replicate d 0 := by
  rw [List.set_append_right _ _ (by rw [leb_length]; exact Nat.le_refl _), leb_length, Nat.sub_self, List.replicate_succ, List.set_cons_zero]
  simp
/-- A byte more of what is taken by turns. -/
theorem rd_at {l : List Int} {i : Nat} (h : i < l.length) : rd l (i : Int) = l[i] := by simp [rd, List.getD, List.getElem?_eq_getElem h]
theorem isB_rd {l : List Int} (hb : isB l) (i : Int) : 0 ≤ rd l i ∧ rd l i ≤ 255 := by
  unfold rd
  rw [List.getD_eq_getElem?_getD]
  rcases Nat.lt_or_ge i.toNat l.length with h | h
  · rw [List.getElem?_eq_getElem h]; exact hb _ (List.getElem_mem h)
  · rw [List.getElem?_eq_none h]; simp
end Go.Proofs.YthmjblmdbcmjcaaDoor.M
namespace Go.Proofs.YthmjblmdbcmjcaaDoor.M
open Go.RowKit Go.Proofs.YthmjblmdbcmjcaaDoor.P Go.Proofs.YthmjblmdbcmjcaaDoorW.PrintWords Go.Proofs.YthmjblmdbcmjcaaDoorW.PrintLast Go.Proofs.YthmjblmdbcmjcaaDoorW.PrintMore

theorem shr_leb (x : Int) (i : Nat) (h : i ≤ 8) (K : IntKind) (hK : K.bits = 64) : shr K x (8 * (i : Int)) = x / 256 ^ i := by
  unfold shr
  rw [hK, show (8 * (i : Int)).toNat = 8 * i by omega, Nat.min_eq_left (by omega), pow8]
theorem spread_i64_l0 (x : Int) (d : Nat) : ∀ (k i : Nat), i + d ≤ 8 → d < k → octet_spread_int64.l0 k x (leb i x ++ List.replicate d 0) ((i : Int) + d) i = some (leb (i + d) x) := by
  induction d with
  | zero =>
    intro k i hi hk
    obtain ⟨k, rfl⟩ : ∃ m, k = m + 1 := ⟨k - 1, by omega⟩
    simp only [octet_spread_int64.l0]
    rw [if_neg (by omega)]
    simp
  | succ d ih =>
    intro k i hi hk
    obtain ⟨k, rfl⟩ : ∃ m, k = m + 1 := ⟨k - 1, by omega⟩
    have hl : (leb i x ++ List.replicate (d + 1) (0 : Int)).length = i + (d + 1) := by rw [List.length_append, leb_length, List.length_replicate]
    simp only [octet_spread_int64.l0]
    rw [if_pos (by omega), wrap64_id (x := 8 * (i : Int)) (by omega) (by omega), if_pos (by omega), if_pos (by omega), if_pos (by rw [hl]; omega), shr_leb x i (by omega) .i64 rfl, show ((i : Int)).toNat = i by omega, set_leb, ← leb_snoc,
      wrap64_id (x := (i : Int) + 1) (by omega) (by omega)]
    have := ih k (i + 1) (by omega) (by omega)
    rw [show ((i : Int) + 1) = ((i + 1 : Nat) : Int) by omega, show ((i : Int) + (d + 1 : Nat)) = ((i + 1 : Nat) : Int) + d by omega, this]
    congr 2; omega
theorem spread_i64 (x : Int) (w : Nat) (hw : w ≤ 8) (k : Nat) (hk : w < k) : octet_spread_int64.f k x w = some (leb w x) := by
  have := spread_i64_l0 x w k 0 (by omega) hk
  simp only [octet_spread_int64.f]
  rw [if_pos (by omega), if_pos (by omega), Option.bind_some, List.length_replicate, show ((w : Int)).toNat = w by omega]
  simpa [leb] using this
/-- Put: the chapter's P1.1. -/
def put (w n : Int) : List Int × Int := if w < 1 ∨ w > 8 then ([], 2) else if 0 ≤ n ∧ (w = 8 ∨ n < 256 ^ w.toNat) then (leb w.toNat n, 0) else ([], 11)
theorem fits_f {w : Nat} (h1 : 1 ≤ w) (h8 : w ≤ 8) (n : Int) : octet_fits.f w n = some (decide (0 ≤ n ∧ ((w : Int) = 8 ∨ n < 256 ^ w))) := by
  unfold octet_fits.f
  by_cases h0 : n ≥ 0
  · rw [if_pos h0]
    by_cases hw : (w : Int) = 8
    · rw [if_pos hw]; simp; omega
    · rw [if_neg hw, wrap64_id (x := 8 * (w : Int)) (by omega) (by omega), if_pos (by omega), shr_leb n w h8 .i64 rfl]
      congr 1
      have hp := p256 w
      rw [Bool.eq_iff_iff]
      simp only [beq_iff_eq, decide_eq_true_eq]
      constructor
      · intro h
        refine ⟨h0, .inr ?_⟩
        rcases Int.lt_or_le n (256 ^ w) with h2 | h2
        · exact h2
        · have := Int.le_ediv_of_mul_le hp (show 1 * (256 : Int) ^ w ≤ n by omega)
          omega
      · rintro ⟨_, h | h⟩
        · omega
        · exact Int.ediv_eq_zero_of_lt h0 h
  · rw [if_neg h0]; simp; omega
theorem put_f (w n : Int) (k : Nat) (hk : 12 ≤ k) : octet_Put.f k w n = some (put w n) := by
  obtain ⟨k, rfl⟩ : ∃ m, k = m + 1 := ⟨k - 1, by omega⟩
  unfold octet_Put.f put
  by_cases h1 : w < 1
  · rw [if_pos h1, if_pos (.inl h1)]; simp [octet_Put.j0]
  by_cases h2 : w > 8
  · rw [if_neg h1, if_pos (.inr h2)]; simp [octet_Put.j0, h2]
  rw [if_neg h1, if_neg (by omega)]
  obtain ⟨v, rfl⟩ := Int.eq_ofNat_of_zero_le (show 0 ≤ w by omega)
  simp only [octet_Put.j0]
  rw [if_neg (by simp; omega), fits_f (by omega) (by omega), Option.bind_some, Int.toNat_natCast]
  by_cases h3 : 0 ≤ n ∧ ((v : Int) = 8 ∨ n < 256 ^ v)
  · rw [if_pos (decide_eq_true h3), if_pos h3, spread_i64 n v (by omega) k (by omega), Option.bind_some]
  · rw [if_neg (by rw [decide_eq_true_eq]; exact h3), if_neg h3]
theorem tdiv256 {n : Int} (h : 0 ≤ n) : Int.tdiv n 256 = n / 256 := Int.tdiv_eq_ediv_of_nonneg h
theorem tmod256 {n : Int} (h : 0 ≤ n) : Int.tmod n 256 = n % 256 := Int.tmod_eq_emod_of_nonneg h
theorem ediv_pow_succ (n : Int) (i : Nat) : n / 256 ^ i / 256 = n / 256 ^ (i + 1) := by rw [Int.pow_succ, Int.ediv_ediv_of_nonneg (Int.le_of_lt (p256 i))]
theorem ediv_pow_le {n : Int} (h0 : 0 ≤ n) (i : Nat) : 0 ≤ n / 256 ^ i ∧ n / 256 ^ i ≤ n :=
  ⟨Int.ediv_nonneg h0 (Int.le_of_lt (p256 i)), Int.ediv_le_self _ h0⟩
theorem refPut_l0 (w : Nat) (hw : w ≤ 8) (n : Int) (h0 : 0 ≤ n) (h1 : n ≤ 9223372036854775807) (d : Nat) : ∀ (k i : Nat), i + d = w → d < k →
    capstanref01_Put.l0 k w (n / 256 ^ i) (leb i n) i = some (if n / 256 ^ w > 0 then ([], 11) else (leb w n, 0)) := by
  induction d with
  | zero =>
    intro k i hi hk
    obtain ⟨k, rfl⟩ : ∃ m, k = m + 1 := ⟨k - 1, by omega⟩
    obtain rfl : i = w := by omega
    simp only [capstanref01_Put.l0]
    rw [if_neg (by omega)]
    split <;> rfl
  | succ d ih =>
    intro k i hi hk
    obtain ⟨k, rfl⟩ : ∃ m, k = m + 1 := ⟨k - 1, by omega⟩
    obtain ⟨g0, g1⟩ := ediv_pow_le h0 i
    obtain ⟨g2, g3⟩ := ediv_pow_le h0 (i + 1)
    simp only [capstanref01_Put.l0]
    rw [if_pos (by omega), if_pos (by rw [leb_length]; omega), tdiv256 g0, tmod256 g0, Int.emod_emod_of_dvd _ (Int.dvd_refl 256), ← leb_snoc, ediv_pow_succ, wrap64_id (by omega) (by omega), wrap64_id (by omega) (by omega)]
    exact ih k (i + 1) (by omega) (by omega)
theorem refPut_f (w n : Int) (h1 : n ≤ 9223372036854775807) (k : Nat) (hk : 12 ≤ k) : capstanref01_Put.f k w n = some (put w n) := by
  obtain ⟨k, rfl⟩ : ∃ m, k = m + 1 := ⟨k - 1, by omega⟩
  unfold capstanref01_Put.f put
  by_cases h2 : w < 1
  · rw [if_pos h2, if_pos (.inl h2)]; simp [capstanref01_Put.j0]
  by_cases h3 : w > 8
  · rw [if_neg h2, if_pos (.inr h3)]; simp [capstanref01_Put.j0, h3]
  rw [if_neg h2, if_neg (by omega)]
  obtain ⟨v, rfl⟩ := Int.eq_ofNat_of_zero_le (show 0 ≤ w by omega)
  simp only [capstanref01_Put.j0]
  rw [if_neg (by simp; omega), Int.toNat_natCast]
  by_cases h0 : n < 0
  · rw [if_pos h0, if_neg (by omega)]
  · rw [if_neg h0]
    have := refPut_l0 v (by omega) n (by omega) h1 v k 0 (by omega) (by omega)
    simp only [Int.pow_zero, Int.ediv_one, leb] at this
    rw [show ((0 : Nat) : Int) = 0 from rfl] at this
    rw [this]
    congr 1
    have hp := p256 v
    by_cases h4 : 0 ≤ n ∧ ((v : Int) = 8 ∨ n < 256 ^ v)
    · rw [if_pos h4, if_neg]
      rcases h4.2 with h5 | h5
      · obtain rfl : v = 8 := by omega
        rw [Int.ediv_eq_zero_of_lt (by omega) (by omega)]; omega
      · rw [Int.ediv_eq_zero_of_lt (by omega) h5]; omega
    · rw [if_neg h4, if_pos]
      have h5 : (256 : Int) ^ v ≤ n := by omega
      have := Int.le_ediv_of_mul_le hp (show 1 * (256 : Int) ^ v ≤ n by omega)
      omega
theorem signed_f (n : Int) (k : Nat) (hk : 12 ≤ k) : octet_Signed.f k n = some (leb 8 n) := by
  unfold octet_Signed.f
  have := spread_i64 n 8 (by omega) k (by omega)
  rw [show ((8 : Nat) : Int) = 8 from rfl] at this
  rw [this, Option.bind_some]
theorem leb_neg (w : Nat) : ∀ m : Int, leb w (-(m + 1)) = (leb w m).map (255 - ·) := by
  induction w with
  | zero => intro m; rfl
  | succ w ih =>
    intro m
    simp only [leb, List.map_cons]
    rw [show (-(m + 1)) / 256 = -(m / 256 + 1) by omega, ih, show (-(m + 1)) % 256 = 255 - m % 256 by omega]
theorem refSigned_l0 (b : Bool) (n : Int) (h0 : 0 ≤ n) (h1 : n ≤ 9223372036854775807) (d : Nat) : ∀ (k i : Nat), i + d = 8 → d < k →
    capstanref01_Signed.l0 k (n / 256 ^ i) b (if b then (leb i n).map (255 - ·) else leb i n) i = some (if b then (leb 8 n).map (255 - ·) else leb 8 n) := by
  induction d with
  | zero =>
    intro k i hi hk
    obtain ⟨k, rfl⟩ : ∃ m, k = m + 1 := ⟨k - 1, by omega⟩
    obtain rfl : i = 8 := by omega
    simp only [capstanref01_Signed.l0]
    rw [if_neg (by omega)]
  | succ d ih =>
    intro k i hi hk
    obtain ⟨k, rfl⟩ : ∃ m, k = m + 1 := ⟨k - 1, by omega⟩
    obtain ⟨g0, g1⟩ := ediv_pow_le h0 i
    obtain ⟨g2, g3⟩ := ediv_pow_le h0 (i + 1)
    have hih := ih k (i + 1) (by omega) (by omega)
    simp only [capstanref01_Signed.l0]
    rw [if_pos (by omega), tdiv256 g0, tmod256 g0, Int.emod_emod_of_dvd _ (Int.dvd_refl 256), ediv_pow_succ, wrap64_id (x := n / 256 ^ (i + 1)) (by omega) (by omega), wrap64_id (x := (i : Int) + 1) (by omega) (by omega)]
    rw [leb_snoc] at hih
    cases b with
    | true =>
      simp only [if_true, List.map_append, List.map_cons, List.map_nil] at hih ⊢
      rw [if_pos (by rw [List.length_map, leb_length]; omega)]
      exact hih
    | false =>
      simp only [Bool.false_eq_true, if_false] at hih ⊢
      rw [if_pos (by rw [leb_length]; omega)]
      exact hih
theorem refSigned_f (n : Int) (h0 : -9223372036854775808 ≤ n) (h1 : n ≤ 9223372036854775807) (k : Nat) (hk : 14 ≤ k) : capstanref01_Signed.f k n = some (leb 8 n) := by
  obtain ⟨k, rfl⟩ : ∃ m, k = m + 2 := ⟨k - 2, by omega⟩
  unfold capstanref01_Signed.f
  by_cases h : n < 0
  · have := refSigned_l0 true (-(n + 1)) (by omega) (by omega) 8 k 0 (by omega) (by omega)
    simp only [Int.pow_zero, Int.ediv_one, leb, if_true, List.map_nil] at this
    simp only [capstanref01_Signed.j0, capstanref01_Signed.j1, decide_eq_true h, if_true]
    rw [wrap64_id (x := n + 1) (by omega) (by omega), wrap64_id (by omega) (by omega)]
    have hn := leb_neg 8 (-(n + 1))
    rw [show -(-(n + 1) + 1) = n by omega] at hn
    rw [hn]
    exact this
  · have := refSigned_l0 false n (by omega) (by omega) 8 k 0 (by omega) (by omega)
    simp only [Int.pow_zero, Int.ediv_one, leb, Bool.false_eq_true, if_false] at this
    simp only [capstanref01_Signed.j0, capstanref01_Signed.j1, decide_eq_false h, Bool.false_eq_true, if_false]
    exact this
/-- Row: P1.1. -/
def row (l : List Int) : List Int × Int := if (l.length : Int) > 65535 then ([], 3) else (leb 2 l.length ++ l, 0)
end Go.Proofs.YthmjblmdbcmjcaaDoor.M
namespace Go.Proofs.YthmjblmdbcmjcaaDoor.M
open Go.RowKit Go.Proofs.YthmjblmdbcmjcaaDoor.P Go.Proofs.YthmjblmdbcmjcaaDoorW.PrintWords Go.Proofs.YthmjblmdbcmjcaaDoorW.PrintLast Go.Proofs.YthmjblmdbcmjcaaDoorW.PrintMore

/-- A piece of a row: n bytes from a. -/
def piece (l : List Int) (a n : Int) : List Int := (l.drop a.toNat).take n.toNat
theorem piece_length {l : List Int} {a n : Int} (h0 : 0 ≤ a) (hn : 0 ≤ n) (h : a + n ≤ l.length) : (piece l a n).length = n.toNat := by
  unfold piece; rw [List.length_take, List.length_drop]; omega
theorem piece_isB {l : List Int} (a n : Int) (h : isB l) : isB (piece l a n) := isB_take _ (isB_drop _ h)
/-- Get: P1.2. -/
def get (l : List Int) (a w : Int) : Int × Int × Int :=
  if w < 1 ∨ w > 8 ∨ a < 0 ∨ a > (l.length : Int) then (0, 0, 2) else if (l.length : Int) - a < w then (0, 0, 10)
  else if val (piece l a w) > 9223372036854775807 then (0, 0, 11) else (val (piece l a w), a + w, 0)
end Go.Proofs.YthmjblmdbcmjcaaDoor.M
namespace Go.Proofs.YthmjblmdbcmjcaaDoor.M
open Go.RowKit Go.Proofs.YthmjblmdbcmjcaaDoorW.PrintWords Go.Proofs.YthmjblmdbcmjcaaDoorW.PrintMore

end Go.Proofs.YthmjblmdbcmjcaaDoor.M
namespace Go.Proofs.YthmjblmdbcmjcaaDoor.M
open Go.RowKit Go.Proofs.YthmjblmdbcmjcaaDoor.P Go.Proofs.YthmjblmdbcmjcaaDoorW.PrintWords Go.Proofs.YthmjblmdbcmjcaaDoorW.PrintLast Go.Proofs.YthmjblmdbcmjcaaDoorW.PrintMore

/-- Is a pair's part small enough, both of them. -/
def pm (a b : Int) : Bool := decide (-1048576 ≤ a ∧ a ≤ 1048576 ∧ -1048576 ≤ b ∧ b ≤ 1048576)
def may (k a b : Int) : Bool := (k == 1 && b == 0) || (k == 2 && pm a b)
def inside (k a b : Int) : Bool := may k a b || (k == 3 && (decide (0 ≤ a) && b == 0))
def zero (k : Int) : Int × Int × Int × Bool := if k = 1 ∨ k = 2 ∨ k = 3 then (k, 0, 0, true) else (0, 0, 0, false)
def vbytes (k a b : Int) : List Int × Int := if may k a b = true then (if k = 1 then ([1] ++ leb 8 a, 0) else ([2] ++ leb 3 (a + 1048576) ++ leb 3 (b + 1048576), 0)) else ([], 30)

theorem gauss_b (a b : Int) : gauss_May.b a b = pm a b := by
  unfold gauss_May.b pm
  rw [Bool.eq_iff_iff]
  simp only [Bool.and_eq_true, decide_eq_true_eq]
  omega
theorem pair_f (a b : Int) : value_Pair.f a b = some (if pm a b = true then (2, a, b, true) else (0, 0, 0, false)) := by
  unfold value_Pair.f
  rw [gauss_b]
  split <;> rfl
theorem may_f (k a b : Int) : value_May.f k a b = some (may k a b) := by
  unfold value_May.f value_Int.f may
  rw [pair_f, Option.bind_some, Option.bind_some]
  cases pm a b <;> simp only [if_true, Bool.false_eq_true, if_false, beq_self_eq_true, Bool.true_and, Bool.and_true] <;> cases (k == 1) <;> cases (b == 0) <;> cases (k == 2) <;> rfl
theorem ref02May_f (a b : Int) : capstanref02_May.f a b = some (pm a b) := by
  unfold capstanref02_May.f pm
  split
  · split
    · split
      · congr 1; rw [Bool.eq_iff_iff, decide_eq_true_eq, decide_eq_true_eq]; omega
      · congr 1; rw [eq_comm, decide_eq_false_iff_not]; omega
    · congr 1; rw [eq_comm, decide_eq_false_iff_not]; omega
  · congr 1; rw [eq_comm, decide_eq_false_iff_not]; omega
theorem refMay_f (k a b : Int) : capstanref03_May.f k a b = some (may k a b) := by
  unfold capstanref03_May.f may
  rw [ref02May_f]
  by_cases h1 : k = 1
  · subst h1
    by_cases h3 : b = 0 <;> simp [h3]
  · by_cases h2 : k = 2 <;> simp [h1, h2]
theorem may_two {k a b : Int} (h : may k a b = true) (h1 : k ≠ 1) : k = 2 ∧ -1048576 ≤ a ∧ a ≤ 1048576 ∧ -1048576 ≤ b ∧ b ≤ 1048576 := by
  unfold may pm at h
  simp only [Bool.or_eq_true, Bool.and_eq_true, beq_iff_eq, decide_eq_true_eq] at h
  omega
theorem put3 {n : Int} (h : 0 ≤ n ∧ n ≤ 2097152) : put 3 n = (leb 3 n, 0) := by
  unfold put
  rw [if_neg (by omega), if_pos ⟨h.1, .inr (by rw [show ((3 : Int).toNat) = 3 from rfl, show (256 : Int) ^ 3 = 16777216 from by decide]; omega)⟩]; rfl
theorem vbytes_f (k a b : Int) (n : Nat) (hn : 12 ≤ n) : value_Bytes.f n k a b = some (vbytes k a b) := by
  unfold value_Bytes.f vbytes
  rw [may_f, Option.bind_some]
  by_cases h : may k a b = true
  · rw [if_pos h, if_pos h]
    by_cases h1 : k = 1
    · subst h1
      rw [if_pos rfl, if_pos rfl, signed_f _ _ hn, Option.bind_some, if_pos (by rw [leb_length]; omega)]
    · obtain ⟨rfl, _⟩ := may_two h h1
      rw [if_neg h1, if_neg h1, wrap64_id (by omega) (by omega), wrap64_id (by omega) (by omega), put_f _ _ _ hn, Option.bind_some, put3 (by omega), if_pos rfl, if_pos (by rw [leb_length]; omega), put_f _ _ _ hn, Option.bind_some, put3 (by omega), if_pos rfl,
        if_pos (by rw [leb_length, leb_length]; omega)]
  · rw [if_neg h, if_neg h]
theorem refBytes_f (k a b : Int) (ha : -9223372036854775808 ≤ a ∧ a ≤ 9223372036854775807) (n : Nat) (hn : 14 ≤ n) : capstanref03_Bytes.f n k a b = some (vbytes k a b) := by
  unfold capstanref03_Bytes.f vbytes
  rw [refMay_f, Option.bind_some]
  by_cases h : may k a b = true
  · rw [if_pos h, if_pos h]
    by_cases h1 : k = 1
    · subst h1
      rw [if_pos rfl, if_pos rfl, Option.bind_some, refSigned_f _ ha.1 ha.2 _ hn, Option.bind_some, if_pos (by rw [leb_length]; simp)]
    · obtain ⟨rfl, _⟩ := may_two h h1
      rw [if_neg h1, if_neg h1, wrap64_id (by omega) (by omega), wrap64_id (by omega) (by omega), refPut_f _ _ (by omega) _ (by omega), Option.bind_some, put3 (by omega), refPut_f _ _ (by omega) _ (by omega), Option.bind_some, put3 (by omega), Option.bind_some,
        if_pos (by rw [leb_length]; simp), Option.bind_some, if_pos (by rw [List.length_append, leb_length, leb_length]; simp)]
  · rw [if_neg h, if_neg h]
end Go.Proofs.YthmjblmdbcmjcaaDoor.M
namespace Go.Proofs.YthmjblmdbcmjcaaDoor.M
open Go.RowKit Go.Proofs.YthmjblmdbcmjcaaDoor.P Go.Proofs.YthmjblmdbcmjcaaDoorW.PrintWords Go.Proofs.YthmjblmdbcmjcaaDoorW.PrintLast Go.Proofs.YthmjblmdbcmjcaaDoorW.PrintMore

/-- Read: P3.4. -/
def vread (l : List Int) (a : Int) : Int × Int × Int × Int × Int :=
  if a < 0 ∨ a > (l.length : Int) then (0, 0, 0, 0, 2) else if (l.length : Int) - a < 1 then (0, 0, 0, 0, 10)
  else if rd l a = 1 then (if (l.length : Int) < a + 9 then (0, 0, 0, 0, 10) else (1, wrap64 (val (piece l (a + 1) 8)), 0, a + 9, 0))
  else if rd l a = 2 then (if (l.length : Int) < a + 7 then (0, 0, 0, 0, 10)
    else if pm (val (piece l (a + 1) 3) - 1048576) (val (piece l (a + 4) 3) - 1048576) = true then (2, val (piece l (a + 1) 3) - 1048576, val (piece l (a + 4) 3) - 1048576, a + 7, 0) else (0, 0, 0, 0, 30))
  else (0, 0, 0, 0, 30)
theorem piece_one {l : List Int} {a : Int} (h0 : 0 ≤ a) (h : a < l.length) : piece l a 1 = [rd l a] := by
  obtain ⟨n, rfl⟩ := Int.eq_ofNat_of_zero_le h0
  unfold piece
  rw [Int.toNat_natCast, rd_at (by omega), show ((1 : Int).toNat) = 1 from rfl, List.drop_eq_getElem_cons (by omega)]; rfl
theorem get_one {l : List Int} (hb : isB l) (a : Int) : get l a 1 = if a < 0 ∨ a > (l.length : Int) then (0, 0, 2) else if (l.length : Int) - a < 1 then (0, 0, 10) else (rd l a, a + 1, 0) := by
  unfold get
  by_cases h : a < 0 ∨ a > (l.length : Int)
  · rw [if_pos (.inr (.inr h)), if_pos h]
  rw [if_neg (by omega), if_neg h]
  by_cases h2 : (l.length : Int) - a < 1
  · rw [if_pos h2, if_pos h2]
  have hq := isB_rd hb a
  have e : val [rd l a] = rd l a := by simp [val]
  rw [if_neg h2, if_neg h2, piece_one (by omega) (by omega), e, if_neg (by omega)]
end Go.Proofs.YthmjblmdbcmjcaaDoor.M
namespace Go.Proofs.YthmjblmdbcmjcaaDoor.M
open Go.RowKit Go.Proofs.YthmjblmdbcmjcaaDoor.P Go.Proofs.YthmjblmdbcmjcaaDoorW.PrintWords Go.Proofs.YthmjblmdbcmjcaaDoorW.PrintLast Go.Proofs.YthmjblmdbcmjcaaDoorW.PrintMore

theorem max_self (a : Int) : (a == mx a 0) = decide (0 ≤ a) := by
  rw [Bool.eq_iff_iff, beq_iff_eq, decide_eq_true_eq]
  unfold mx
  omega
theorem inside_f (k a b : Int) : value_Inside.f k a b = some (inside k a b) := by
  unfold value_Inside.f inside
  rw [may_f, Option.bind_some, max_self]
  cases may k a b <;> simp
theorem zero_f (k : Int) : value_Zero.f k = some (zero k) := by
  unfold value_Zero.f zero
  rw [inside_f, Option.bind_some]
  by_cases h1 : k = 1
  · subst h1; rfl
  by_cases h2 : k = 2
  · subst h2; rfl
  by_cases h3 : k = 3
  · subst h3; rfl
  rw [if_neg (by simp [inside, may, h1, h2, h3]), if_neg (by omega)]
end Go.Proofs.YthmjblmdbcmjcaaDoor.M
namespace Go.Proofs.YthmjblmdbcmjcaaDoor.M
open Go.RowKit Go.Proofs.YthmjblmdbcmjcaaDoor.P Go.Proofs.YthmjblmdbcmjcaaDoorW.PrintWords Go.Proofs.YthmjblmdbcmjcaaDoorW.PrintLast Go.Proofs.YthmjblmdbcmjcaaDoorW.PrintMore

/-- A value that has bytes: a number's, or a pair's. -/
theorem vbytes_ok {k a b : Int} (h : (vbytes k a b).2 = 0) : (k = 1 ∧ b = 0 ∧ (vbytes k a b).1 = 1 :: leb 8 a) ∨ (k = 2 ∧ (-1048576 ≤ a ∧ a ≤ 1048576 ∧ -1048576 ≤ b ∧ b ≤ 1048576) ∧ (vbytes k a b).1 = 2 :: (leb 3 (a + 1048576) ++ leb 3 (b + 1048576))) := by
  unfold vbytes at h ⊢
  by_cases hm : may k a b = true
  · rw [if_pos hm]
    by_cases h1 : k = 1
    · subst h1
      rw [if_pos rfl]
      have hb : b = 0 := by
        unfold may at hm; simpa using hm
      exact .inl ⟨rfl, hb, rfl⟩
    · obtain ⟨h2, h3⟩ := may_two hm h1
      rw [if_neg h1]
      exact .inr ⟨h2, h3, rfl⟩
  · rw [if_neg hm] at h; cases h
end Go.Proofs.YthmjblmdbcmjcaaDoor.M
namespace Go.Proofs.YthmjblmdbcmjcaaDoor.M
open Go.RowKit Go.Proofs.YthmjblmdbcmjcaaDoor.P Go.Proofs.YthmjblmdbcmjcaaDoorW.PrintWords Go.Proofs.YthmjblmdbcmjcaaDoorW.PrintLast Go.Proofs.YthmjblmdbcmjcaaDoorW.PrintMore

def vmay (v : S73) : Bool := may v.f0 v.f1 v.f2
def vb (v : S73) : List Int := (vbytes v.f0 v.f1 v.f2).1
def vflat (l : List S73) : List Int := l.flatMap vb
/-- The first number is one of 64 bits. -/
def vok (v : S73) : Prop := -9223372036854775808 ≤ v.f1 ∧ v.f1 ≤ 9223372036854775807
theorem vmay_ok {v : S73} (h : vmay v = true) : (vbytes v.f0 v.f1 v.f2).2 = 0 := by
  unfold vmay at h
  unfold vbytes
  rw [if_pos h]
  split <;> rfl
theorem vbytes_pair {v : S73} (h : vmay v = true) : vbytes v.f0 v.f1 v.f2 = (vb v, 0) := Prod.ext rfl (vmay_ok h)
theorem vb_len {v : S73} (h : vmay v = true) : 7 ≤ (vb v).length ∧ (vb v).length ≤ 9 := by
  have l8 := leb_length 8
  have l3 := leb_length 3
  unfold vb
  rcases vbytes_ok (vmay_ok h) with ⟨_, _, e⟩ | ⟨_, _, e⟩ <;> rw [e] <;> simp [l8, l3]
theorem vflat_cons (v : S73) (l : List S73) : vflat (v :: l) = vb v ++ vflat l := rfl
theorem vflat_len {l : List S73} (h : ∀ v ∈ l, vmay v = true) : 7 * l.length ≤ (vflat l).length ∧ (vflat l).length ≤ 9 * l.length := by
  induction l with
  | nil => simp [vflat]
  | cons v l ih =>
    have h1 := vb_len (h v (by simp))
    have h2 := ih (fun u hu => h u (by simp [hu]))
    rw [vflat_cons, List.length_append, List.length_cons]
    omega
theorem rdT_at {l : List S73} {i : Nat} (h : i < l.length) : rd_T73 l (i : Int) = l[i] := by simp [rd_T73, List.getD, List.getElem?_eq_getElem h]
/-- d values more. -/
def pread (l : List Int) : Nat → Int → List S73 → List S73 × Int × Int
  | 0, a, acc => (acc, a, 0)
  | d + 1, a, acc => if (vread l a).2.2.2.2 = 0 then pread l d (vread l a).2.2.2.1 (acc ++ [⟨(vread l a).1, (vread l a).2.1, (vread l a).2.2.1⟩]) else ([], 0, (vread l a).2.2.2.2)
end Go.Proofs.YthmjblmdbcmjcaaDoor.M
namespace Go.Proofs.YthmjblmdbcmjcaaDoor.M
open Go.RowKit Go.Proofs.YthmjblmdbcmjcaaDoor.P Go.Proofs.YthmjblmdbcmjcaaDoorW.PrintWords Go.Proofs.YthmjblmdbcmjcaaDoorW.PrintLast Go.Proofs.YthmjblmdbcmjcaaDoorW.PrintMore

theorem odd_f (v : S73) : pool_May_1.f v.f0 v.f1 v.f2 = some (!vmay v) := by
  unfold pool_May_1.f
  rw [may_f, Option.bind_some]; rfl
theorem idxf_l0 (l : List S73) (hl : l.length ≤ 140737488355328) (d : Nat) : ∀ (k i : Nat), i + d = l.length → d < k → ∃ r, slices_IndexFunc_api_Value_api_Value.l0 k l (l.length : Int) i = some r ∧ decide (r ≥ 0) = !(l.drop i).all vmay := by
  induction d with
  | zero =>
    intro k i hi hk
    obtain ⟨k, rfl⟩ : ∃ n, k = n + 1 := ⟨k - 1, by omega⟩
    simp only [slices_IndexFunc_api_Value_api_Value.l0]
    rw [if_neg (by omega)]
    exact ⟨-1, rfl, by rw [List.drop_eq_nil_of_le (by omega)]; rfl⟩
  | succ d ih =>
    intro k i hi hk
    obtain ⟨k, rfl⟩ : ∃ n, k = n + 1 := ⟨k - 1, by omega⟩
    simp only [slices_IndexFunc_api_Value_api_Value.l0]
    rw [if_pos (by omega), if_pos (by omega), if_pos (by omega), rdT_at (by omega), odd_f, Option.bind_some, List.drop_eq_getElem_cons (by omega : i < l.length), List.all_cons]
    by_cases h : vmay l[i] = true
    · rw [h, if_neg (by decide), wrap64_id (by omega) (by omega)]
      exact ih k (i + 1) (by omega) (by omega)
    · rw [Bool.not_eq_true] at h
      rw [h, if_pos (by decide)]
      exact ⟨(i : Int), rfl, by rw [decide_eq_true (by omega)]; rfl⟩
theorem contf_f (l : List S73) (hl : l.length ≤ 140737488355328) (k : Nat) (hk : l.length < k) : slices_ContainsFunc_api_Value_api_Value.f k l = some (!l.all vmay) := by
  obtain ⟨r, h1, h2⟩ := idxf_l0 l hl l.length k 0 (by omega) hk
  unfold slices_ContainsFunc_api_Value_api_Value.f slices_IndexFunc_api_Value_api_Value.f
  rw [show slices_IndexFunc_api_Value_api_Value.l0 k l (l.length : Int) 0 = some r from h1, Option.bind_some, h2]; rfl
end Go.Proofs.YthmjblmdbcmjcaaDoor.M
namespace Go.Proofs.YthmjblmdbcmjcaaDoor.M
open Go.RowKit Go.Proofs.YthmjblmdbcmjcaaDoor.P Go.Proofs.YthmjblmdbcmjcaaDoorW.PrintWords Go.Proofs.YthmjblmdbcmjcaaDoorW.PrintLast Go.Proofs.YthmjblmdbcmjcaaDoorW.PrintMore

theorem same_l0 (x : List S73) (hx : x.length ≤ 100000) (d : Nat) : ∀ (k i : Nat), i + d = x.length → d < k → capstanref03_Same.l0 k x x i = some true := by
  induction d with
  | zero =>
    intro k i hi hk
    obtain ⟨k, rfl⟩ : ∃ n, k = n + 1 := ⟨k - 1, by omega⟩
    simp only [capstanref03_Same.l0]
    rw [if_neg (by omega)]
  | succ d ih =>
    intro k i hi hk
    obtain ⟨k, rfl⟩ : ∃ n, k = n + 1 := ⟨k - 1, by omega⟩
    simp only [capstanref03_Same.l0]
    rw [if_pos (by omega), if_pos (by omega), if_pos (by omega), if_neg (by simp), wrap64_id (by omega) (by omega)]
    exact ih k (i + 1) (by omega) (by omega)
theorem same_f (x : List S73) (hx : x.length ≤ 100000) (k : Nat) (hk : x.length < k) : capstanref03_Same.f k x x = some true := by
  have h := same_l0 x hx x.length k 0 (by omega) hk
  unfold capstanref03_Same.f
  simpa using h
end Go.Proofs.YthmjblmdbcmjcaaDoor.M
namespace Go.Proofs.YthmjblmdbcmjcaaDoor.M
open Go.RowKit Go.Proofs.YthmjblmdbcmjcaaDoor.P Go.Proofs.YthmjblmdbcmjcaaDoorW.PrintWords Go.Proofs.YthmjblmdbcmjcaaDoorW.PrintLast Go.Proofs.YthmjblmdbcmjcaaDoorW.PrintMore

def pmay (l : List S73) : Bool := decide (l.length ≤ 32) && l.all vmay
def pbytes (l : List S73) : List Int × Int := if pmay l = true then ((l.length : Int) :: vflat l, 0) else ([], 60)
theorem pmay_iff {l : List S73} : pmay l = true ↔ l.length ≤ 32 ∧ ∀ v ∈ l, vmay v = true := by
  unfold pmay
  rw [Bool.and_eq_true, decide_eq_true_eq, List.all_eq_true]
theorem pmay_f (l : List S73) (k : Nat) (hk : 40 ≤ k) : pool_May.f k l = some (pmay l) := by
  unfold pool_May.f pmay
  by_cases h : l.length ≤ 32
  · rw [if_pos (by omega), contf_f l (by omega) k (by omega), Option.bind_some, Bool.not_not, decide_eq_true h, Bool.true_and]
  · rw [if_neg (by omega), decide_eq_false h, Bool.false_and]
theorem pbytes_l0 (l : List S73) (hl : l.length ≤ 32) (hm : ∀ v ∈ l, vmay v = true) (d : Nat) : ∀ (k i : Nat) (acc : List Int), i + d = l.length → d + 20 ≤ k → acc.length ≤ 1000 * (i + 1) → pool_Bytes.l0 k acc l (l.length : Int) i = some (acc ++ vflat (l.drop i), 0) := by
  induction d with
  | zero =>
    intro k i acc hi hk ha
    obtain ⟨k, rfl⟩ : ∃ n, k = n + 1 := ⟨k - 1, by omega⟩
    simp only [pool_Bytes.l0]
    rw [if_neg (by omega), List.drop_eq_nil_of_le (by omega)]
    simp [vflat]
  | succ d ih =>
    intro k i acc hi hk ha
    obtain ⟨k, rfl⟩ : ∃ n, k = n + 1 := ⟨k - 1, by omega⟩
    have hv := hm l[i] (List.getElem_mem (by omega))
    have hn := vb_len hv
    simp only [pool_Bytes.l0]
    rw [if_pos (by omega), if_pos (by omega), if_pos (by omega), rdT_at (by omega), vbytes_f _ _ _ _ (by omega), Option.bind_some, vbytes_pair hv, if_pos rfl]
    dsimp only
    rw [if_pos (by omega), wrap64_id (by omega) (by omega)]
    rw [show ((i : Int) + 1) = ((i + 1 : Nat) : Int) by omega, ih k (i + 1) (acc ++ vb l[i]) (by omega) (by omega) (by rw [List.length_append]; omega), List.drop_eq_getElem_cons (by omega : i < l.length), vflat_cons, List.append_assoc]
theorem pbytes_f (l : List S73) (k : Nat) (hk : 80 ≤ k) : pool_Bytes.f k l = some (pbytes l) := by
  unfold pool_Bytes.f pbytes
  rw [pmay_f l k (by omega), Option.bind_some]
  by_cases h : pmay l = true
  · obtain ⟨h1, h2⟩ := pmay_iff.1 h
    rw [if_pos h, if_pos h, show ((l.length : Int)) % 256 = l.length by omega]
    have := pbytes_l0 l h1 h2 l.length k 0 [(l.length : Int)] (by omega) (by omega) (by simp)
    simpa using this
  · rw [if_neg h, if_neg h]
end Go.Proofs.YthmjblmdbcmjcaaDoor.M
namespace Go.Proofs.YthmjblmdbcmjcaaDoor.M
open Go.RowKit Go.Proofs.YthmjblmdbcmjcaaDoor.P Go.Proofs.YthmjblmdbcmjcaaDoorW.PrintWords Go.Proofs.YthmjblmdbcmjcaaDoorW.PrintLast Go.Proofs.YthmjblmdbcmjcaaDoorW.PrintMore

theorem refpmay_l0 (l : List S73) (hl : l.length ≤ 100000) (d : Nat) : ∀ (k i : Nat), i + d = l.length → 2 * d + 2 ≤ k → (∀ v ∈ l.take i, vmay v = true) → capstanref06_May.l0 k l i = some (pmay l) := by
  induction d with
  | zero =>
    intro k i hi hk hm
    obtain ⟨k, rfl⟩ : ∃ n, k = n + 2 := ⟨k - 2, by omega⟩
    simp only [capstanref06_May.l0, capstanref06_May.j1]
    rw [if_neg (by omega), if_neg (by decide)]
    rw [List.take_of_length_le (by omega)] at hm
    unfold pmay
    rw [List.all_eq_true.2 hm, Bool.and_true]
    congr 2
    exact propext ⟨fun h => by omega, fun h => by omega⟩
  | succ d ih =>
    intro k i hi hk hm
    obtain ⟨k, rfl⟩ : ∃ n, k = n + 2 := ⟨k - 2, by omega⟩
    simp only [capstanref06_May.l0, capstanref06_May.j1]
    rw [if_pos (by omega)]
    by_cases h : i ≤ 32
    · rw [decide_eq_true (show (i : Int) ≤ 32 by omega), if_pos rfl, if_pos (by omega), if_pos (by omega), rdT_at (by omega), refMay_f, Option.bind_some]
      by_cases hv : vmay l[i] = true
      · rw [show may (l[i]).f0 (l[i]).f1 (l[i]).f2 = true from hv, if_pos rfl, wrap64_id (by omega) (by omega)]
        refine ih k (i + 1) (by omega) (by omega) (fun v hvm => ?_)
        rw [List.take_succ_eq_append_getElem (by omega), List.mem_append] at hvm
        rcases hvm with h1 | h1
        · exact hm v h1
        · rw [List.mem_singleton] at h1
          rw [h1]; exact hv
      · rw [if_neg (show ¬ may (l[i]).f0 (l[i]).f1 (l[i]).f2 = true from hv)]
        congr 1
        rw [eq_comm, ← Bool.not_eq_true, pmay_iff]
        exact fun c => hv (c.2 _ (List.getElem_mem (by omega)))
    · rw [decide_eq_false (show ¬ (i : Int) ≤ 32 by omega), if_neg (by decide)]
      congr 1
      rw [decide_eq_false (by omega), eq_comm, ← Bool.not_eq_true, pmay_iff]
      exact fun c => by have := c.1; omega
theorem refpmay_f (l : List S73) (hl : l.length ≤ 100000) (k : Nat) (hk : 2 * l.length + 2 ≤ k) : capstanref06_May.f k l = some (pmay l) :=
  refpmay_l0 l hl l.length k 0 (by omega) hk (fun v h => by simp at h)
theorem refpbytes_l0 (l : List S73) (hl : l.length ≤ 32) (hm : ∀ v ∈ l, vmay v = true ∧ vok v) (d : Nat) : ∀ (k i : Nat) (acc : List Int), i + d = l.length → d + 20 ≤ k → acc.length ≤ 1000 * (i + 1) → capstanref06_Bytes.l0 k l acc i = some (acc ++ vflat (l.drop i), 0) := by
  induction d with
  | zero =>
    intro k i acc hi hk ha
    obtain ⟨k, rfl⟩ : ∃ n, k = n + 1 := ⟨k - 1, by omega⟩
    simp only [capstanref06_Bytes.l0]
    rw [if_neg (by omega), List.drop_eq_nil_of_le (by omega)]
    simp [vflat]
  | succ d ih =>
    intro k i acc hi hk ha
    obtain ⟨k, rfl⟩ : ∃ n, k = n + 1 := ⟨k - 1, by omega⟩
    have hv := hm l[i] (List.getElem_mem (by omega))
    have hn := vb_len hv.1
    simp only [capstanref06_Bytes.l0]
    rw [if_pos (by omega), if_pos (by omega), rdT_at (by omega), refBytes_f _ _ _ hv.2 _ (by omega), Option.bind_some, vbytes_pair hv.1]
    dsimp only
    rw [if_pos (by omega), wrap64_id (by omega) (by omega)]
    rw [show ((i : Int) + 1) = ((i + 1 : Nat) : Int) by omega, ih k (i + 1) (acc ++ vb l[i]) (by omega) (by omega) (by rw [List.length_append]; omega), List.drop_eq_getElem_cons (by omega : i < l.length), vflat_cons, List.append_assoc]
theorem refpbytes_f (l : List S73) (ho : ∀ v ∈ l, vok v) (hl : l.length ≤ 1000) (k : Nat) (hk : 2100 ≤ k) : capstanref06_Bytes.f k l = some (pbytes l) := by
  unfold capstanref06_Bytes.f pbytes
  rw [refpmay_f l (by omega) k (by omega), Option.bind_some]
  by_cases h : pmay l = true
  · obtain ⟨h1, h2⟩ := pmay_iff.1 h
    rw [if_pos h, if_pos h, show ((l.length : Int)) % 256 = l.length by omega]
    have := refpbytes_l0 l h1 (fun v hv => ⟨h2 v hv, ho v hv⟩) l.length k 0 [(l.length : Int)] (by omega) (by omega) (by simp)
    simpa using this
  · rw [if_neg h, if_neg h]
theorem pbytes_length (l : List S73) : (pbytes l).1.length ≤ 300 := by
  unfold pbytes
  by_cases hm : pmay l = true
  · obtain ⟨h1, h2⟩ := pmay_iff.1 hm
    have := vflat_len h2
    rw [if_pos hm]
    simp only [List.length_cons]
    omega
  · rw [if_neg hm]; simp
end Go.Proofs.YthmjblmdbcmjcaaDoor.M
namespace Go.Proofs.YthmjblmdbcmjcaaDoor.M
open Go.RowKit Go.Proofs.YthmjblmdbcmjcaaDoor.P Go.Proofs.YthmjblmdbcmjcaaDoorW.PrintWords Go.Proofs.YthmjblmdbcmjcaaDoorW.PrintLast Go.Proofs.YthmjblmdbcmjcaaDoorW.PrintMore

theorem op_up {α : Type} {f : Nat → Option α} (hm : ∀ k, LeO (f k) (f (k + 1))) {k0 : Nat} {r : α} (h : f k0 = some r) (k : Nat) (hk : k0 ≤ k) : f k = some r := by
  obtain ⟨d, rfl⟩ := Nat.exists_eq_add_of_le hk
  clear hk
  induction d with
  | zero => exact h
  | succ d ih => exact hm _ r ih
def bnd (a : Int) : Int × Int := (op_Bounds.f 5 a).getD (0, 0)
theorem bnd_all : ∀ n : Fin 256, op_Bounds.f 5 ((n : Nat) : Int) = some (bnd ((n : Nat) : Int)) ∧ decide ((bnd ((n : Nat) : Int)).1 ≤ (bnd ((n : Nat) : Int)).2) = decide ((n : Nat) < 33) ∧ ((n : Nat) < 33 → 0 ≤ (bnd ((n : Nat) : Int)).1 ∧ (bnd ((n : Nat) : Int)).2 ≤ 1024) ∧ (¬ (n : Nat) < 33 → bnd ((n : Nat) : Int) = (0, -1)) := by decide +kernel
theorem bnd_f (n : Fin 256) (k : Nat) (hk : 5 ≤ k) : op_Bounds.f k ((n : Nat) : Int) = some (bnd ((n : Nat) : Int)) := op_up (fun k => op_Bounds.mono _ k) (bnd_all n).1 k hk
theorem opmay_f (n : Fin 256) (a b : Int) (k : Nat) (hk : 5 ≤ k) : op_May.f k ((n : Nat) : Int) a b = some (decide ((bnd ((n : Nat) : Int)).1 ≤ a) && (decide (a ≤ (bnd ((n : Nat) : Int)).2) && b == 0)) := by
  unfold op_May.f
  rw [bnd_f n k hk, Option.bind_some]
  by_cases h1 : (bnd ((n : Nat) : Int)).1 ≤ a
  · rw [if_pos h1, decide_eq_true h1, Bool.true_and]
    by_cases h2 : a ≤ (bnd ((n : Nat) : Int)).2
    · rw [if_pos h2, decide_eq_true h2, Bool.true_and]
    · rw [if_neg h2, decide_eq_false h2, Bool.false_and]
  · rw [if_neg h1, decide_eq_false h1, Bool.false_and]
end Go.Proofs.YthmjblmdbcmjcaaDoor.M
namespace Go.Proofs.YthmjblmdbcmjcaaDoor.M
open Go.RowKit Go.Proofs.YthmjblmdbcmjcaaDoor.P Go.Proofs.YthmjblmdbcmjcaaDoorW.PrintWords Go.Proofs.YthmjblmdbcmjcaaDoorW.PrintLast Go.Proofs.YthmjblmdbcmjcaaDoorW.PrintMore

theorem up {α : Type} {f : Nat → Option α} (hm : ∀ k, LeO (f k) (f (k + 1))) {k0 : Nat} {r : α} (h : f k0 = some r) (k : Nat) (hk : k0 ≤ k) : f k = some r := by
  obtain ⟨m, rfl⟩ : ∃ m, k = k0 + m := ⟨k - k0, by omega⟩
  clear hk
  induction m with
  | zero => exact h
  | succ m ih => exact hm _ _ ih
/-- No module that is too long to be told. -/
structure Small (ms : List S47) : Prop where
  len : ms.length ≤ 40
  code : ∀ j : Int, 0 ≤ j → j < (ms.length : Int) → (rd_T47 ms j).f7.length ≤ 100000
end Go.Proofs.YthmjblmdbcmjcaaDoor.M
namespace Go.Proofs.YthmjblmdbcmjcaaDoor.M
open Go.RowKit Go.Proofs.YthmjblmdbcmjcaaDoor.P Go.Proofs.YthmjblmdbcmjcaaDoorW.PrintWords Go.Proofs.YthmjblmdbcmjcaaDoorW.PrintLast Go.Proofs.YthmjblmdbcmjcaaDoorW.PrintMore

section
variable {l0 l1 : List S73} {ms : List S47} {a3 : Int}
theorem great_l0 (hn : ms.length ≤ 40) : ∀ m i : Nat, i + m = ms.length → capstanlaw08_Great.l0 (m + 1) (i : Int) l0 l1 ms a3 = some true ∨ (capstanlaw08_Great.l0 (m + 1) (i : Int) l0 l1 ms a3 = some false ∧ ∀ j : Int, (i : Int) ≤ j → j < (ms.length : Int) → (rd_T47 ms j).f7.length ≤ 300) := by
  intro m
  induction m with
  | zero =>
    intro i hi
    rw [capstanlaw08_Great.l0, if_neg (by omega)]
    exact .inr ⟨rfl, fun j h1 h2 => by omega⟩
  | succ m ih =>
    intro i hi
    have hw : wrap64 ((i : Int) + 1) = ((i + 1 : Nat) : Int) := by unfold wrap64; omega
    rw [capstanlaw08_Great.l0, if_pos (by omega), if_pos (by omega), hw]
    obtain ⟨b, hb⟩ : ∃ b, capstanlaw07_Great.f (rd_T47 ms i).f0 (rd_T47 ms i).f1 (rd_T47 ms i).f2 (rd_T47 ms i).f3 (rd_T47 ms i).f4 (rd_T47 ms i).f5 (rd_T47 ms i).f6 (rd_T47 ms i).f7 = some b := by
      unfold capstanlaw07_Great.f
      split
      · exact ⟨_, rfl⟩
      · exact ⟨_, rfl⟩
    rw [hb, Option.bind_some]
    cases b
    · rw [if_neg (by decide)]
      by_cases hc : ((rd_T47 ms i).f7.length : Int) > 300
      · rw [if_pos hc]; exact .inl rfl
      · rw [if_neg hc]
        rcases ih (i + 1) (by omega) with h | ⟨h, h2⟩
        · exact .inl h
        · refine .inr ⟨h, fun j h3 h4 => ?_⟩
          by_cases e : j = (i : Int)
          · subst e; omega
          · exact h2 j (by omega) h4
    · rw [if_pos rfl]; exact .inl rfl
theorem great_f : capstanlaw08_Great.f 60 l0 l1 ms a3 = some true ∨ (capstanlaw08_Great.f 60 l0 l1 ms a3 = some false ∧ Small ms ∧ l0.length ≤ 100 ∧ l1.length ≤ 100 ∧ ∀ j : Int, 0 ≤ j → j < (ms.length : Int) → (rd_T47 ms j).f7.length ≤ 300) := by
  unfold capstanlaw08_Great.f
  have ht : capstanlaw08_Great.j0 60 true l0 l1 ms a3 = some true := by rw [capstanlaw08_Great.j0, if_pos rfl]
  by_cases h0 : (l0.length : Int) > 100
  · rw [if_pos h0]; exact .inl ht
  · rw [if_neg h0]
    by_cases h1 : (l1.length : Int) > 100
    · rw [if_pos h1]; exact .inl ht
    · rw [if_neg h1]
      by_cases h2 : (ms.length : Int) > 40
      · rw [decide_eq_true h2]; exact .inl ht
      · rw [decide_eq_false h2, capstanlaw08_Great.j0, if_neg (by decide)]
        have hu : ∀ r, capstanlaw08_Great.l0 (ms.length + 1) ((0 : Nat) : Int) l0 l1 ms a3 = some r → capstanlaw08_Great.l0 59 0 l0 l1 ms a3 = some r := fun r h =>
          up (f := fun k => capstanlaw08_Great.l0 k 0 l0 l1 ms a3) (fun k => (capstanlaw08_Great.mono_l k).2 _ _ _ _ _) h 59 (by omega)
        rcases great_l0 (l0 := l0) (l1 := l1) (a3 := a3) (show ms.length ≤ 40 by omega) ms.length 0 (by omega) with h | ⟨h, h3⟩
        · exact .inl (hu _ h)
        · exact .inr ⟨hu _ h, ⟨by omega, fun j h4 h5 => by have := h3 j h4 h5; omega⟩, by omega, by omega, fun j h4 h5 => h3 j h4 h5⟩
end
end Go.Proofs.YthmjblmdbcmjcaaDoor.M
namespace Go.Proofs.YthmjblmdbcmjcaaDoor.M
open Go.RowKit Go.Proofs.YthmjblmdbcmjcaaDoor.P Go.Proofs.YthmjblmdbcmjcaaDoorW.PrintWords Go.Proofs.YthmjblmdbcmjcaaDoorW.PrintLast Go.Proofs.YthmjblmdbcmjcaaDoorW.PrintMore

variable {l0 l1 : List S73} {ms : List S47} {a3 : Int}
/-- The kinds of a module's methods are few. -/
def Few (ms : List S47) : Prop := ∀ j : Nat, j < ms.length → (rd_T47 ms (j : Int)).f0.length ≤ 100 ∧ (rd_T47 ms (j : Int)).f1.length ≤ 100
theorem great_few0 (hn : ms.length ≤ 40) : ∀ m i : Nat, i + m = ms.length → capstanlaw08_Great.l0 (m + 1) (i : Int) l0 l1 ms a3 = some false → ∀ j : Nat, i ≤ j → j < ms.length → (rd_T47 ms (j : Int)).f0.length ≤ 100 ∧ (rd_T47 ms (j : Int)).f1.length ≤ 100 := by
  intro m
  induction m with
  | zero => intro i hi _ j h1 h2; omega
  | succ m ih =>
    intro i hi h j h1 h2
    have hw : wrap64 ((i : Int) + 1) = ((i + 1 : Nat) : Int) := by unfold wrap64; omega
    rw [capstanlaw08_Great.l0, if_pos (by omega), if_pos (by omega), hw] at h
    have h7 : (rd_T47 ms (i : Int)).f0.length ≤ 100 ∧ (rd_T47 ms (i : Int)).f1.length ≤ 100 ∧ capstanlaw08_Great.l0 (m + 1) ((i + 1 : Nat) : Int) l0 l1 ms a3 = some false := by
      unfold capstanlaw07_Great.f at h
      by_cases c0 : ((rd_T47 ms (i : Int)).f0.length : Int) > 100
      · rw [if_pos c0, Option.bind_some, if_pos rfl] at h; cases h
      · rw [if_neg c0, Option.bind_some] at h
        by_cases c1 : ((rd_T47 ms (i : Int)).f1.length : Int) > 100
        · rw [decide_eq_true c1, if_pos rfl] at h; cases h
        · rw [decide_eq_false c1, if_neg (by decide)] at h
          by_cases c2 : ((rd_T47 ms (i : Int)).f7.length : Int) > 300
          · rw [if_pos c2] at h; cases h
          · rw [if_neg c2] at h
            exact ⟨by omega, by omega, h⟩
    by_cases e : j = i
    · subst e; exact ⟨h7.1, h7.2.1⟩
    · exact ih (i + 1) (by omega) h7.2.2 j (by omega) h2
theorem great_few (hn : ms.length ≤ 40) (h : capstanlaw08_Great.f 60 l0 l1 ms a3 = some false) : Few ms := by
  unfold capstanlaw08_Great.f at h
  have ht : capstanlaw08_Great.j0 60 true l0 l1 ms a3 = some true := by rw [capstanlaw08_Great.j0, if_pos rfl]
  by_cases h0 : (l0.length : Int) > 100
  · rw [if_pos h0, ht] at h; cases h
  · rw [if_neg h0] at h
    by_cases h1 : (l1.length : Int) > 100
    · rw [if_pos h1, ht] at h; cases h
    · rw [if_neg h1, decide_eq_false (by omega), capstanlaw08_Great.j0, if_neg (by decide)] at h
      have h3 : capstanlaw08_Great.l0 (ms.length + 1) ((0 : Nat) : Int) l0 l1 ms a3 = some false := by
        rcases great_l0 (l0 := l0) (l1 := l1) (a3 := a3) hn ms.length 0 (by omega) with h4 | ⟨h4, _⟩
        · have := up (f := fun k => capstanlaw08_Great.l0 k 0 l0 l1 ms a3) (fun k => (capstanlaw08_Great.mono_l k).2 _ _ _ _ _) h4 59 (by omega)
          rw [h] at this; cases this
        · exact h4
      exact fun j hj => great_few0 hn ms.length 0 (by omega) h3 j (Nat.zero_le _) hj
theorem copy_l0 (hs : Small ms) (hf : Few ms) (t0 t1 : List S73) (a : Int) : ∀ q i : Nat, i + q = ms.length → ∀ k, q + 1 ≤ k → capstanref08_Copy.l0 k (i : Int) l0 l1 ms a3 t0 t1 (ms.take i) a = some (t0, t1, ms, a) := by
  have hlen := hs.len
  intro q
  induction q with
  | zero =>
    intro i hi k hk
    obtain ⟨k, rfl⟩ : ∃ k', k = k' + 1 := ⟨k - 1, by omega⟩
    rw [capstanref08_Copy.l0, if_neg (by omega), List.take_of_length_le (by omega)]
  | succ q ih =>
    intro i hi k hk
    obtain ⟨k, rfl⟩ : ∃ k', k = k' + 1 := ⟨k - 1, by omega⟩
    have hw : wrap64 ((i : Int) + 1) = ((i + 1 : Nat) : Int) := by unfold wrap64; omega
    have hil : i < ms.length := by omega
    have hr : rd_T47 ms (i : Int) = ms[i] := by simp [rd_T47, hil]
    obtain ⟨f0, f1⟩ := hf i hil
    have hc := hs.code i (by omega) (by omega)
    rw [capstanref08_Copy.l0, if_pos (by omega), if_pos (by omega), Option.bind_some, if_pos (by rw [List.length_nil]; omega), Option.bind_some, if_pos (by rw [List.length_nil]; omega), capstanref05_Copy.f, if_pos (by rw [List.length_nil]; omega), Option.bind_some, if_pos (by rw [List.length_take]; omega), hw, List.nil_append, List.nil_append, List.nil_append, hr]
    have ht : ms.take i ++ [(⟨ms[i].f0, ms[i].f1, ms[i].f2, ms[i].f3, ms[i].f4, ms[i].f5, ms[i].f6, ms[i].f7⟩ : S47)] = ms.take (i + 1) := (List.take_succ_eq_append_getElem hil).symm
    rw [ht]
    exact ih (i + 1) (by omega) k (by omega)
theorem copy8_f (hs : Small ms) (hf : Few ms) (h0 : l0.length ≤ 100) (h1 : l1.length ≤ 100) (k : Nat) (hk : 41 ≤ k) : capstanref08_Copy.f k l0 l1 ms a3 = some (l0, l1, ms, a3) := by
  have hlen := hs.len
  unfold capstanref08_Copy.f capstanref03_Copy.f
  rw [if_pos (by rw [List.length_nil]; omega), Option.bind_some, if_pos (by rw [List.length_nil]; omega), Option.bind_some, List.nil_append, List.nil_append]
  exact copy_l0 hs hf l0 l1 a3 ms.length 0 (Nat.zero_add _) k (by omega)
end Go.Proofs.YthmjblmdbcmjcaaDoor.M
