/- Plain arithmetic. -/
import Derived.Test.YthmjblmdbcmjcaaDoorB4
import Derived.Test.YthmjblmdbcmjcaaDoorB5
import Derived.Test.YthmjblmdbcmjcaaDoorB6
import Derived.Test.YthmjblmdbcmjcaaDoorB7
import Derived.Test.YthmjblmdbcmjcaaDoorB10
import Derived.Test.YthmjblmdbcmjcaaDoorB12
import Derived.Test.YthmjblmdbcmjcaaDoorB13
import Derived.Test.YthmjblmdbcmjcaaDoorB14
import Derived.Test.YthmjblmdbcmjcaaDoorB15
import Derived.Test.YthmjblmdbcmjcaaDoorWMore
import Derived.Laws.BitsLemmas
import Derived.Lib.Bytes
namespace Go.Proofs.YthmjblmdbcmjcaaDoor.M
open Go.RowKit Go.Proofs.YthmjblmdbcmjcaaDoorW.PrintWords Go.Proofs.YthmjblmdbcmjcaaDoorW.PrintMore
theorem wf_i64 {x : Int} (h : (Lit.int .i64 x).wf = true) : -9223372036854775808 ≤ x ∧ x ≤ 9223372036854775807 := by
  simp [Lit.wf, IntKind.min, IntKind.max, IntKind.bits, IntKind.signed] at h; exact h
theorem wf_u8 {x : Int} (h : (Lit.int .u8 x).wf = true) : 0 ≤ x ∧ x ≤ 255 := by
  simp [Lit.wf, IntKind.min, IntKind.max, IntKind.bits, IntKind.signed] at h; omega
def isB (l : List Int) : Prop := ∀ b ∈ l, 0 ≤ b ∧ b ≤ 255
theorem isB_of {l : List Int} (h : ∀ x ∈ l, (Lit.int .u8 x).wf = true) : isB l := fun b hb => wf_u8 (h b hb)
theorem isB_nil : isB [] := fun _ h => by cases h
theorem isB_cons {b : Int} {l : List Int} : isB (b :: l) ↔ (0 ≤ b ∧ b ≤ 255) ∧ isB l := by simp [isB]
theorem isB_append {a b : List Int} : isB (a ++ b) ↔ isB a ∧ isB b := by
  constructor
  · exact fun h => ⟨fun x hx => h x (by simp [hx]), fun x hx => h x (by simp [hx])⟩
  · rintro ⟨h1, h2⟩ x hx
    rcases List.mem_append.1 hx with h | h
    · exact h1 x h
    · exact h2 x h
theorem isB_sub {a b : List Int} (h : isB b) (hs : ∀ x ∈ a, x ∈ b) : isB a := fun x hx => h x (hs x hx)
theorem isB_take {a : List Int} (n : Nat) (h : isB a) : isB (a.take n) := isB_sub h fun _ hx => List.mem_of_mem_take hx
theorem isB_drop {a : List Int} (n : Nat) (h : isB a) : isB (a.drop n) := isB_sub h fun _ hx => List.mem_of_mem_drop hx
theorem wrap64_id {x : Int} (h0 : -9223372036854775808 ≤ x) (h1 : x ≤ 9223372036854775807) : wrap64 x = x := by unfold wrap64; omega
theorem u64_id {x : Int} (h0 : 0 ≤ x) (h1 : x < 18446744073709551616) : IntKind.u64.wrap x = x := by
  simp [IntKind.wrap, IntKind.bits, IntKind.signed]; omega
theorem i64_wrap (x : Int) : IntKind.i64.wrap x = wrap64 x := by rw [IntKind.wrap_i64]; unfold wrap64; rfl
def leb : Nat → Int → List Int
  | 0, _ => []
  | w + 1, x => (x % 256) :: leb w (x / 256)
def val : List Int → Int
  | [] => 0
  | b :: l => b + 256 * val l
theorem leb_length (w : Nat) : ∀ x, (leb w x).length = w := by
  induction w with
  | zero => intro x; rfl
  | succ w ih => intro x; simp [leb, ih]
theorem leb_isB (w : Nat) : ∀ x, isB (leb w x) := by
  induction w with
  | zero => intro x; exact isB_nil
  | succ w ih => intro x; rw [leb, isB_cons]; exact ⟨by omega, ih _⟩
theorem p256 (w : Nat) : (0 : Int) < 256 ^ w := Int.pow_pos (by decide)
theorem val_bound {l : List Int} (h : isB l) : 0 ≤ val l ∧ val l < 256 ^ l.length := by
  induction l with
  | nil => simp [val]
  | cons b l ih =>
    rw [isB_cons] at h
    obtain ⟨h1, h2⟩ := ih h.2
    simp only [val, List.length_cons, Int.pow_succ]
    omega
theorem val_leb (w : Nat) : ∀ x : Int, 0 ≤ x → x < 256 ^ w → val (leb w x) = x := by
  induction w with
  | zero => intro x h0 h1; simp [leb, val] at *; omega
  | succ w ih =>
    intro x h0 h1
    rw [Int.pow_succ] at h1
    rw [leb, val, ih (x / 256) (by omega) (by omega)]
    omega
theorem leb_val {l : List Int} (h : isB l) : leb l.length (val l) = l := by
  induction l with
  | nil => rfl
  | cons b l ih =>
    rw [isB_cons] at h
    have hb := val_bound h.2
    simp only [List.length_cons, leb, val]
    rw [show (b + 256 * val l) % 256 = b by omega, show (b + 256 * val l) / 256 = val l by omega, ih h.2]
theorem leb_snoc (w : Nat) : ∀ x : Int, leb (w + 1) x = leb w x ++ [x / 256 ^ w % 256] := by
  induction w with
  | zero => intro x; simp [leb]
  | succ w ih =>
    intro x
    rw [leb, ih (x / 256), leb]
    simp only [List.cons_append, Int.pow_succ]
    rw [Int.mul_comm, ← Int.ediv_ediv_of_nonneg (by decide)]
theorem val_append (a : List Int) : ∀ b : List Int, val (a ++ b) = val a + 256 ^ a.length * val b := by
  induction a with
  | nil => intro b; simp [val]
  | cons x a ih =>
    intro b
    simp only [List.cons_append, val, ih, List.length_cons, Int.pow_succ]
    rw [Int.mul_add, ← Int.mul_assoc, Int.mul_comm 256 (256 ^ a.length)]
    omega
theorem val_snoc (a : List Int) (b : Int) : val (a ++ [b]) = val a + 256 ^ a.length * b := by rw [val_append]; simp [val]
theorem pow8 (i : Nat) : (2 : Int) ^ (8 * i) = 256 ^ i := by rw [Int.pow_mul]; rfl
theorem set_leb (i d : Nat) (x v : Int) : (leb i x ++ List.replicate (d + 1) (0 : Int)).set i v = leb i x ++ [v] ++ List.replicate d 0 := by
  rw [List.set_append_right _ _ (by rw [leb_length]; exact Nat.le_refl _), leb_length, Nat.sub_self, List.replicate_succ, List.set_cons_zero]
  simp
theorem rd_at {l : List Int} {i : Nat} (h : i < l.length) : rd l (i : Int) = l[i] := by simp [rd, List.getD, List.getElem?_eq_getElem h]
theorem take_succ_rd {l : List Int} {i : Nat} (h : i < l.length) : l.take (i + 1) = l.take i ++ [rd l (i : Int)] := by rw [rd_at h, List.take_succ_eq_append_getElem h]
theorem isB_rd {l : List Int} (hb : isB l) (i : Int) : 0 ≤ rd l i ∧ rd l i ≤ 255 := by
  unfold rd
  rw [List.getD_eq_getElem?_getD]
  rcases Nat.lt_or_ge i.toNat l.length with h | h
  · rw [List.getElem?_eq_getElem h]; exact hb _ (List.getElem_mem h)
  · rw [List.getElem?_eq_none h]; simp
end Go.Proofs.YthmjblmdbcmjcaaDoor.M
namespace Go.Proofs.YthmjblmdbcmjcaaDoor.M
open Go.RowKit Go.Proofs.YthmjblmdbcmjcaaDoor.B Go.Proofs.YthmjblmdbcmjcaaDoorW.PrintWords Go.Proofs.YthmjblmdbcmjcaaDoorW.PrintLast Go.Proofs.YthmjblmdbcmjcaaDoorW.PrintMore
theorem shr_leb (x : Int) (i : Nat) (h : i ≤ 8) (K : IntKind) (hK : K.bits = 64) : shr K x (8 * (i : Int)) = x / 256 ^ i := by
  unfold shr
  rw [hK, show (8 * (i : Int)).toNat = 8 * i by omega, Nat.min_eq_left (by omega), pow8]
theorem spread_i64_l0 (x : Int) (d : Nat) : ∀ (k i : Nat), i + d ≤ 8 → d < k → octet_spread_int64.l0 k x (leb i x ++ List.replicate d 0) ((i : Int) + d) i = some (leb (i + d) x) := by
  induction d with
  | zero =>
    intro k i hi hk
    obtain ⟨k, rfl⟩ : ∃ m, k = m + 1 := ⟨k - 1, by omega⟩
    simp only [octet_spread_int64.l0]
    rw [if_neg (by omega)]
    simp
  | succ d ih =>
    intro k i hi hk
    obtain ⟨k, rfl⟩ : ∃ m, k = m + 1 := ⟨k - 1, by omega⟩
    have hl : (leb i x ++ List.replicate (d + 1) (0 : Int)).length = i + (d + 1) := by rw [List.length_append, leb_length, List.length_replicate]
    simp only [octet_spread_int64.l0]
    rw [if_pos (by omega), wrap64_id (x := 8 * (i : Int)) (by omega) (by omega), if_pos (by omega), if_pos (by omega), if_pos (by rw [hl]; omega), shr_leb x i (by omega) .i64 rfl, show ((i : Int)).toNat = i by omega, set_leb, ← leb_snoc,
      wrap64_id (x := (i : Int) + 1) (by omega) (by omega)]
    have := ih k (i + 1) (by omega) (by omega)
    rw [show ((i : Int) + 1) = ((i + 1 : Nat) : Int) by omega, show ((i : Int) + (d + 1 : Nat)) = ((i + 1 : Nat) : Int) + d by omega, this]
    congr 2; omega
theorem spread_i64 (x : Int) (w : Nat) (hw : w ≤ 8) (k : Nat) (hk : w < k) : octet_spread_int64.f k x w = some (leb w x) := by
  have := spread_i64_l0 x w k 0 (by omega) hk
  simp only [octet_spread_int64.f]
  rw [if_pos (by omega), if_pos (by omega), Option.bind_some, List.length_replicate, show ((w : Int)).toNat = w by omega]
  simpa [leb] using this
def put (w n : Int) : List Int × Int := if w < 1 ∨ w > 8 then ([], 2) else if 0 ≤ n ∧ (w = 8 ∨ n < 256 ^ w.toNat) then (leb w.toNat n, 0) else ([], 11)
theorem fits_f {w : Nat} (h1 : 1 ≤ w) (h8 : w ≤ 8) (n : Int) : octet_fits.f w n = some (decide (0 ≤ n ∧ ((w : Int) = 8 ∨ n < 256 ^ w))) := by
  unfold octet_fits.f
  by_cases h0 : n ≥ 0
  · rw [if_pos h0]
    by_cases hw : (w : Int) = 8
    · rw [if_pos hw]; simp; omega
    · rw [if_neg hw, wrap64_id (x := 8 * (w : Int)) (by omega) (by omega), if_pos (by omega), shr_leb n w h8 .i64 rfl]
      congr 1
      have hp := p256 w
      rw [Bool.eq_iff_iff]
      simp only [beq_iff_eq, decide_eq_true_eq]
      constructor
      · intro h
        refine ⟨h0, .inr ?_⟩
        rcases Int.lt_or_le n (256 ^ w) with h2 | h2
        · exact h2
        · have := Int.le_ediv_of_mul_le hp (show 1 * (256 : Int) ^ w ≤ n by omega)
          omega
      · rintro ⟨_, h | h⟩
        · omega
        · exact Int.ediv_eq_zero_of_lt h0 h
  · rw [if_neg h0]; simp; omega
theorem put_f (w n : Int) (k : Nat) (hk : 12 ≤ k) : octet_Put.f k w n = some (put w n) := by
  obtain ⟨k, rfl⟩ : ∃ m, k = m + 1 := ⟨k - 1, by omega⟩
  unfold octet_Put.f put
  by_cases h1 : w < 1
  · rw [if_pos h1, if_pos (.inl h1)]; simp [octet_Put.j0]
  by_cases h2 : w > 8
  · rw [if_neg h1, if_pos (.inr h2)]; simp [octet_Put.j0, h2]
  rw [if_neg h1, if_neg (by omega)]
  obtain ⟨v, rfl⟩ := Int.eq_ofNat_of_zero_le (show 0 ≤ w by omega)
  simp only [octet_Put.j0]
  rw [if_neg (by simp; omega), fits_f (by omega) (by omega), Option.bind_some, Int.toNat_natCast]
  by_cases h3 : 0 ≤ n ∧ ((v : Int) = 8 ∨ n < 256 ^ v)
  · rw [if_pos (decide_eq_true h3), if_pos h3, spread_i64 n v (by omega) k (by omega), Option.bind_some]
  · rw [if_neg (by rw [decide_eq_true_eq]; exact h3), if_neg h3]
theorem signed_f (n : Int) (k : Nat) (hk : 12 ≤ k) : octet_Signed.f k n = some (leb 8 n) := by
  unfold octet_Signed.f
  have := spread_i64 n 8 (by omega) k (by omega)
  rw [show ((8 : Nat) : Int) = 8 from rfl] at this
  rw [this, Option.bind_some]
def row (l : List Int) : List Int × Int := if (l.length : Int) > 65535 then ([], 3) else (leb 2 l.length ++ l, 0)
end Go.Proofs.YthmjblmdbcmjcaaDoor.M
namespace Go.Proofs.YthmjblmdbcmjcaaDoor.M
open Go.RowKit Go.Proofs.YthmjblmdbcmjcaaDoor.B Go.Proofs.YthmjblmdbcmjcaaDoorW.PrintWords Go.Proofs.YthmjblmdbcmjcaaDoorW.PrintLast Go.Proofs.YthmjblmdbcmjcaaDoorW.PrintMore
theorem ofInt_wrap (K : IntKind) (hK : K = .u64 ∨ K = .i64) (z : Int) : BitVec.ofInt K.bits (K.wrap z) = BitVec.ofInt K.bits z := by
  apply BitVec.eq_of_toNat_eq
  rw [BitVec.toNat_ofInt, BitVec.toNat_ofInt]
  rcases hK with rfl | rfl
  · simp [IntKind.wrap, IntKind.bits, IntKind.signed]
  · rw [IntKind.wrap_i64]; simp only [IntKind.bits]; omega
theorem or_wrap (K : IntKind) (hK : K = .u64 ∨ K = .i64) (i : Nat) (hi : i ≤ 7) (x b : Int) (h0 : 0 ≤ x) (h1 : x < 256 ^ i) (hb : 0 ≤ b ∧ b ≤ 255) :
    Go.bits .or K (K.wrap x) (K.wrap (b * 256 ^ i)) = K.wrap (x + 256 ^ i * b) := by
  have h64 : K.bits = 64 := by rcases hK with rfl | rfl <;> rfl
  obtain ⟨a, rfl⟩ := Int.eq_ofNat_of_zero_le h0
  obtain ⟨c, rfl⟩ := Int.eq_ofNat_of_zero_le hb.1
  have hx : a < 2 ^ (8 * i) := by
    have : (a : Int) < 2 ^ (8 * i) := by rw [pow8]; exact h1
    exact_mod_cast this
  have hc : c < 2 ^ 8 := by omega
  have hp : 2 ^ (8 * i) * c + a < 2 ^ 64 := by
    have h2 : 2 ^ (8 * i) * c + a < 2 ^ (8 * i) * (c + 1) := by rw [Nat.mul_add]; omega
    have h3 : 2 ^ (8 * i) * (c + 1) ≤ 2 ^ (8 * i) * 2 ^ 8 := Nat.mul_le_mul_left _ hc
    have h4 : 2 ^ (8 * i) * 2 ^ 8 ≤ 2 ^ 64 := by rw [← Nat.pow_add]; exact Nat.pow_le_pow_right (by decide) (by omega)
    omega
  have e : ((c : Int) * 256 ^ i) = ((2 ^ (8 * i) * c : Nat) : Int) := by rw [← pow8]; simp [Int.mul_comm]
  have e2 : ((a : Int) + 256 ^ i * c) = ((2 ^ (8 * i) * c + a : Nat) : Int) := by rw [← pow8]; simp [Int.add_comm]
  rw [e, e2]
  unfold Go.bits
  simp only [ofInt_wrap K hK, BitVec.ofInt_natCast, BitVec.toNat_or, BitVec.toNat_ofNat]
  rw [h64, Nat.mod_eq_of_lt (by omega : a < 2 ^ 64), Nat.mod_eq_of_lt (by omega : 2 ^ (8 * i) * c < 2 ^ 64), Nat.or_comm, ← Nat.two_pow_add_eq_or_of_lt hx c]
theorem shl_eq (K : IntKind) (hK : K = .u64 ∨ K = .i64) (x : Int) (i : Nat) (h : i ≤ 8) : shl K x (8 * (i : Int)) = K.wrap (x * 256 ^ i) := by
  unfold shl
  rw [show K.bits = 64 by rcases hK with rfl | rfl <;> rfl, show (8 * (i : Int)).toNat = 8 * i by omega, Nat.min_eq_left (by omega), pow8]
theorem gather_u64_l0 (l : List Int) (hl : isB l) (h8 : l.length ≤ 8) (d : Nat) : ∀ (k i : Nat), i + d = l.length → d < k →
    octet_gather_uint64.l0 k (IntKind.u64.wrap (val (l.take i))) l (l.length : Int) i = some (IntKind.u64.wrap (val l)) := by
  induction d with
  | zero =>
    intro k i hi hk
    obtain ⟨k, rfl⟩ : ∃ m, k = m + 1 := ⟨k - 1, by omega⟩
    simp only [octet_gather_uint64.l0]
    rw [if_neg (by omega), List.take_of_length_le (by omega)]
  | succ d ih =>
    intro k i hi hk
    obtain ⟨k, rfl⟩ : ∃ m, k = m + 1 := ⟨k - 1, by omega⟩
    have hb := isB_rd hl (i : Int)
    have hv := val_bound (isB_take i hl)
    rw [List.length_take, Nat.min_eq_left (by omega)] at hv
    simp only [octet_gather_uint64.l0]
    rw [if_pos (by omega), if_pos (by omega), if_pos (by omega), wrap64_id (x := 8 * (i : Int)) (by omega) (by omega), if_pos (by omega), wrap64_id (x := (i : Int) + 1) (by omega) (by omega), shl_eq _ (.inl rfl) _ i (by omega),
      u64_id (x := rd l i) (by omega) (by omega), or_wrap _ (.inl rfl) i (by omega) _ _ hv.1 hv.2 hb]
    have hs := val_snoc (l.take i) (rd l (i : Int))
    rw [List.length_take, Nat.min_eq_left (by omega), ← take_succ_rd (by omega)] at hs
    rw [← hs]
    exact ih k (i + 1) (by omega) (by omega)
theorem gather_i64_l0 (l : List Int) (hl : isB l) (h8 : l.length ≤ 8) (d : Nat) : ∀ (k i : Nat), i + d = l.length → d < k →
    octet_gather_int64.l0 k (IntKind.i64.wrap (val (l.take i))) l (l.length : Int) i = some (IntKind.i64.wrap (val l)) := by
  induction d with
  | zero =>
    intro k i hi hk
    obtain ⟨k, rfl⟩ : ∃ m, k = m + 1 := ⟨k - 1, by omega⟩
    simp only [octet_gather_int64.l0]
    rw [if_neg (by omega), List.take_of_length_le (by omega)]
  | succ d ih =>
    intro k i hi hk
    obtain ⟨k, rfl⟩ : ∃ m, k = m + 1 := ⟨k - 1, by omega⟩
    have hb := isB_rd hl (i : Int)
    have hv := val_bound (isB_take i hl)
    rw [List.length_take, Nat.min_eq_left (by omega)] at hv
    simp only [octet_gather_int64.l0]
    rw [if_pos (by omega), if_pos (by omega), if_pos (by omega), wrap64_id (x := 8 * (i : Int)) (by omega) (by omega), if_pos (by omega), wrap64_id (x := (i : Int) + 1) (by omega) (by omega), shl_eq _ (.inr rfl) _ i (by omega),
      wrap64_id (x := rd l i) (by omega) (by omega), or_wrap _ (.inr rfl) i (by omega) _ _ hv.1 hv.2 hb]
    have hs := val_snoc (l.take i) (rd l (i : Int))
    rw [List.length_take, Nat.min_eq_left (by omega), ← take_succ_rd (by omega)] at hs
    rw [← hs]
    exact ih k (i + 1) (by omega) (by omega)
theorem pow_le8 {n : Nat} (h : n ≤ 8) : (256 : Int) ^ n ≤ 18446744073709551616 := by
  have h2 : (256 : Nat) ^ n ≤ 256 ^ 8 := Nat.pow_le_pow_right (by decide) h
  have : ((256 ^ n : Nat) : Int) ≤ ((256 ^ 8 : Nat) : Int) := Int.ofNat_le.2 h2
  simpa using this
theorem gather_u64 (l : List Int) (hl : isB l) (h8 : l.length ≤ 8) (k : Nat) (hk : l.length < k) : octet_gather_uint64.f k l = some (val l) := by
  have h := gather_u64_l0 l hl h8 l.length k 0 (by omega) hk
  have hv := val_bound hl
  have hp := pow_le8 h8
  rw [u64_id hv.1 (by omega)] at h
  unfold octet_gather_uint64.f
  rw [← h]; rfl
theorem gather_i64 (l : List Int) (hl : isB l) (h8 : l.length ≤ 8) (k : Nat) (hk : l.length < k) : octet_gather_int64.f k l = some (wrap64 (val l)) := by
  have h := gather_i64_l0 l hl h8 l.length k 0 (by omega) hk
  rw [i64_wrap (val l)] at h
  unfold octet_gather_int64.f
  rw [← h]; rfl
def piece (l : List Int) (a n : Int) : List Int := (l.drop a.toNat).take n.toNat
theorem piece_length {l : List Int} {a n : Int} (h0 : 0 ≤ a) (hn : 0 ≤ n) (h : a + n ≤ l.length) : (piece l a n).length = n.toNat := by
  unfold piece; rw [List.length_take, List.length_drop]; omega
theorem piece_isB {l : List Int} (a n : Int) (h : isB l) : isB (piece l a n) := isB_take _ (isB_drop _ h)
theorem td_piece (l : List Int) (a n : Int) (h0 : 0 ≤ a) (hn : 0 ≤ n) : (l.take (a + n).toNat).drop a.toNat = piece l a n := by
  unfold piece
  rw [List.drop_take]
  congr 1; omega
theorem cut_f (l : List Int) (a n : Int) (h0 : 0 ≤ n) (h1 : n ≤ 9223372036854775807) :
    octet_cut.f l a n = some (if a < 0 ∨ a > (l.length : Int) then ([], 2) else if (l.length : Int) - a < n then ([], 10) else (piece l a n, 0)) := by
  unfold octet_cut.f
  rw [if_pos h0, if_pos h1]
  by_cases h : a < 0
  · rw [if_pos h, if_pos (.inl h)]
  by_cases h2 : a > (l.length : Int)
  · rw [if_neg h, if_pos h2, if_pos (.inr h2)]
  rw [if_neg h, if_neg h2, if_neg (by omega : ¬(a < 0 ∨ a > (l.length : Int)))]
  split
  · rfl
  · rw [td_piece _ _ _ (by omega) h0]
def get (l : List Int) (a w : Int) : Int × Int × Int :=
  if w < 1 ∨ w > 8 ∨ a < 0 ∨ a > (l.length : Int) then (0, 0, 2) else if (l.length : Int) - a < w then (0, 0, 10)
  else if val (piece l a w) > 9223372036854775807 then (0, 0, 11) else (val (piece l a w), a + w, 0)
theorem get_f (l : List Int) (hb : isB l) (hl : l.length ≤ 140737488355328) (a w : Int) (k : Nat) (hk : 12 ≤ k) : octet_Get.f k l a w = some (get l a w) := by
  unfold octet_Get.f get
  by_cases h1 : w < 1
  · rw [if_pos h1, if_pos (.inl h1)]
  by_cases h2 : w > 8
  · rw [if_neg h1, if_pos h2, if_pos (.inr (.inl h2))]
  rw [if_neg h1, if_neg h2, cut_f l a w (by omega) (by omega), Option.bind_some]
  by_cases h3 : a < 0 ∨ a > (l.length : Int)
  · rw [if_pos h3, if_pos (.inr (.inr h3)), gather_u64 [] isB_nil (by simp) k (by simp; omega), Option.bind_some]; rfl
  rw [if_neg h3, if_neg (by omega : ¬(w < 1 ∨ w > 8 ∨ a < 0 ∨ a > (l.length : Int)))]
  by_cases h4 : (l.length : Int) - a < w
  · rw [if_pos h4, if_pos h4, gather_u64 [] isB_nil (by simp) k (by simp; omega), Option.bind_some]; rfl
  rw [if_neg h4, if_neg h4]
  have hp := piece_isB a w hb
  have hn := piece_length (l := l) (a := a) (n := w) (by omega) (by omega) (by omega)
  have hv := val_bound hp
  rw [gather_u64 _ hp (by omega) k (by omega), Option.bind_some]
  dsimp only
  split
  · rfl
  · rw [if_pos rfl, i64_wrap, wrap64_id (by omega) (by omega), wrap64_id (by omega) (by omega)]
def getSigned (l : List Int) (a : Int) : Int × Int × Int :=
  if a < 0 ∨ a > (l.length : Int) then (0, 0, 2) else if (l.length : Int) - a < 8 then (0, 0, 10) else (wrap64 (val (piece l a 8)), a + 8, 0)
theorem getSigned_f (l : List Int) (hb : isB l) (hl : l.length ≤ 140737488355328) (a : Int) (k : Nat) (hk : 12 ≤ k) : octet_GetSigned.f k l a = some (getSigned l a) := by
  unfold octet_GetSigned.f getSigned
  rw [cut_f l a 8 (by omega) (by omega), Option.bind_some]
  by_cases h3 : a < 0 ∨ a > (l.length : Int)
  · rw [if_pos h3, if_pos h3]; rfl
  rw [if_neg h3, if_neg h3]
  by_cases h4 : (l.length : Int) - a < 8
  · rw [if_pos h4, if_pos h4]; rfl
  rw [if_neg h4, if_neg h4]
  have hp := piece_isB a 8 hb
  have hn := piece_length (l := l) (a := a) (n := 8) (by omega) (by omega) (by omega)
  dsimp only
  rw [if_pos rfl, gather_i64 _ hp (by omega) k (by omega), Option.bind_some, wrap64_id (x := a + 8) (by omega) (by omega)]
end Go.Proofs.YthmjblmdbcmjcaaDoor.M
namespace Go.Proofs.YthmjblmdbcmjcaaDoor.M
open Go.RowKit Go.Proofs.YthmjblmdbcmjcaaDoorW.PrintWords Go.Proofs.YthmjblmdbcmjcaaDoorW.PrintMore
end Go.Proofs.YthmjblmdbcmjcaaDoor.M
namespace Go.Proofs.YthmjblmdbcmjcaaDoor.M
open Go.RowKit Go.Proofs.YthmjblmdbcmjcaaDoor.B Go.Proofs.YthmjblmdbcmjcaaDoorW.PrintWords Go.Proofs.YthmjblmdbcmjcaaDoorW.PrintLast Go.Proofs.YthmjblmdbcmjcaaDoorW.PrintMore
def pm (a b : Int) : Bool := decide (-1048576 ≤ a ∧ a ≤ 1048576 ∧ -1048576 ≤ b ∧ b ≤ 1048576)
def may (k a b : Int) : Bool := (k == 1 && b == 0) || (k == 2 && pm a b)
def inside (k a b : Int) : Bool := may k a b || (k == 3 && (decide (0 ≤ a) && b == 0))
def zero (k : Int) : Int × Int × Int × Bool := if k = 1 ∨ k = 2 ∨ k = 3 then (k, 0, 0, true) else (0, 0, 0, false)
def vbytes (k a b : Int) : List Int × Int := if may k a b = true then (if k = 1 then ([1] ++ leb 8 a, 0) else ([2] ++ leb 3 (a + 1048576) ++ leb 3 (b + 1048576), 0)) else ([], 30)
theorem gauss_b (a b : Int) : gauss_May.b a b = pm a b := by
  unfold gauss_May.b pm
  rw [Bool.eq_iff_iff]
  simp only [Bool.and_eq_true, decide_eq_true_eq]
  omega
theorem pair_f (a b : Int) : value_Pair.f a b = some (if pm a b = true then (2, a, b, true) else (0, 0, 0, false)) := by
  unfold value_Pair.f
  rw [gauss_b]
  split <;> rfl
theorem may_f (k a b : Int) : value_May.f k a b = some (may k a b) := by
  unfold value_May.f value_Int.f may
  rw [pair_f, Option.bind_some, Option.bind_some]
  cases pm a b <;> simp only [if_true, Bool.false_eq_true, if_false, beq_self_eq_true, Bool.true_and, Bool.and_true] <;> cases (k == 1) <;> cases (b == 0) <;> cases (k == 2) <;> rfl
theorem may_two {k a b : Int} (h : may k a b = true) (h1 : k ≠ 1) : k = 2 ∧ -1048576 ≤ a ∧ a ≤ 1048576 ∧ -1048576 ≤ b ∧ b ≤ 1048576 := by
  unfold may pm at h
  simp only [Bool.or_eq_true, Bool.and_eq_true, beq_iff_eq, decide_eq_true_eq] at h
  omega
theorem put3 {n : Int} (h : 0 ≤ n ∧ n ≤ 2097152) : put 3 n = (leb 3 n, 0) := by
  unfold put
  rw [if_neg (by omega), if_pos ⟨h.1, .inr (by rw [show ((3 : Int).toNat) = 3 from rfl, show (256 : Int) ^ 3 = 16777216 from by decide]; omega)⟩]; rfl
theorem vbytes_f (k a b : Int) (n : Nat) (hn : 12 ≤ n) : value_Bytes.f n k a b = some (vbytes k a b) := by
  unfold value_Bytes.f vbytes
  rw [may_f, Option.bind_some]
  by_cases h : may k a b = true
  · rw [if_pos h, if_pos h]
    by_cases h1 : k = 1
    · subst h1
      rw [if_pos rfl, if_pos rfl, signed_f _ _ hn, Option.bind_some, if_pos (by rw [leb_length]; omega)]
    · obtain ⟨rfl, _⟩ := may_two h h1
      rw [if_neg h1, if_neg h1, wrap64_id (by omega) (by omega), wrap64_id (by omega) (by omega), put_f _ _ _ hn, Option.bind_some, put3 (by omega), if_pos rfl, if_pos (by rw [leb_length]; omega), put_f _ _ _ hn, Option.bind_some, put3 (by omega), if_pos rfl,
        if_pos (by rw [leb_length, leb_length]; omega)]
  · rw [if_neg h, if_neg h]
end Go.Proofs.YthmjblmdbcmjcaaDoor.M
namespace Go.Proofs.YthmjblmdbcmjcaaDoor.M
open Go.RowKit Go.Proofs.YthmjblmdbcmjcaaDoor.B Go.Proofs.YthmjblmdbcmjcaaDoorW.PrintWords Go.Proofs.YthmjblmdbcmjcaaDoorW.PrintLast Go.Proofs.YthmjblmdbcmjcaaDoorW.PrintMore
def vread (l : List Int) (a : Int) : Int × Int × Int × Int × Int :=
  if a < 0 ∨ a > (l.length : Int) then (0, 0, 0, 0, 2) else if (l.length : Int) - a < 1 then (0, 0, 0, 0, 10)
  else if rd l a = 1 then (if (l.length : Int) < a + 9 then (0, 0, 0, 0, 10) else (1, wrap64 (val (piece l (a + 1) 8)), 0, a + 9, 0))
  else if rd l a = 2 then (if (l.length : Int) < a + 7 then (0, 0, 0, 0, 10)
    else if pm (val (piece l (a + 1) 3) - 1048576) (val (piece l (a + 4) 3) - 1048576) = true then (2, val (piece l (a + 1) 3) - 1048576, val (piece l (a + 4) 3) - 1048576, a + 7, 0) else (0, 0, 0, 0, 30))
  else (0, 0, 0, 0, 30)
theorem piece_one {l : List Int} {a : Int} (h0 : 0 ≤ a) (h : a < l.length) : piece l a 1 = [rd l a] := by
  obtain ⟨n, rfl⟩ := Int.eq_ofNat_of_zero_le h0
  unfold piece
  rw [Int.toNat_natCast, rd_at (by omega), show ((1 : Int).toNat) = 1 from rfl, List.drop_eq_getElem_cons (by omega)]; rfl
theorem get_one {l : List Int} (hb : isB l) (a : Int) : get l a 1 = if a < 0 ∨ a > (l.length : Int) then (0, 0, 2) else if (l.length : Int) - a < 1 then (0, 0, 10) else (rd l a, a + 1, 0) := by
  unfold get
  by_cases h : a < 0 ∨ a > (l.length : Int)
  · rw [if_pos (.inr (.inr h)), if_pos h]
  rw [if_neg (by omega), if_neg h]
  by_cases h2 : (l.length : Int) - a < 1
  · rw [if_pos h2, if_pos h2]
  have hq := isB_rd hb a
  have e : val [rd l a] = rd l a := by simp [val]
  rw [if_neg h2, if_neg h2, piece_one (by omega) (by omega), e, if_neg (by omega)]
theorem get_three {l : List Int} (hb : isB l) {a : Int} (h0 : 0 ≤ a) (h : a + 3 ≤ l.length) : get l a 3 = (val (piece l a 3), a + 3, 0) ∧ 0 ≤ val (piece l a 3) ∧ val (piece l a 3) < 16777216 := by
  have hn := piece_length (l := l) (a := a) (n := 3) (by omega) (by omega) (by omega)
  have hv := val_bound (piece_isB a 3 hb)
  rw [hn, show ((3 : Int).toNat) = 3 from rfl, show (256 : Int) ^ 3 = 16777216 from by decide] at hv
  unfold get
  rw [if_neg (by omega), if_neg (by omega), if_neg (by omega)]
  exact ⟨rfl, hv⟩
theorem vread_f (l : List Int) (hb : isB l) (hl : l.length ≤ 140737488355327) (a : Int) (k : Nat) (hk : 20 ≤ k) : value_Read.f k l a = some (vread l a) := by
  obtain ⟨k, rfl⟩ : ∃ m, k = m + 1 := ⟨k - 1, by omega⟩
  unfold value_Read.f vread
  rw [get_f l hb (by omega) a 1 _ (by omega), Option.bind_some, get_one hb]
  by_cases h1 : a < 0 ∨ a > (l.length : Int)
  · rw [if_pos h1, if_pos h1]; rfl
  rw [if_neg h1, if_neg h1]
  by_cases h2 : (l.length : Int) - a < 1
  · rw [if_pos h2, if_pos h2]; rfl
  rw [if_neg h2, if_neg h2]
  have hq := isB_rd hb a
  have gl : (gl0.length : Int) = 3 := rfl
  dsimp only
  rw [if_pos rfl]
  by_cases h3 : rd l a ≥ 3
  · rw [if_pos h3, if_neg (by omega), if_neg (by omega)]
    simp [value_Read.j0]
  rw [if_neg h3, if_pos (by omega), if_pos (by omega)]
  by_cases h4 : rd l a = 1
  · have e : rd gl0 1 = 8 := rfl
    rw [h4, if_pos rfl, e]
    simp only [value_Read.j0]
    rw [if_neg (by decide), if_pos (by omega), if_pos (by omega), e, wrap64_id (x := a + 1 + 8) (by omega) (by omega)]
    by_cases h5 : (l.length : Int) < a + 9
    · rw [if_pos (by omega), if_pos h5]
    · rw [if_neg (by omega), if_neg h5, if_pos (by decide), getSigned_f l hb (by omega) _ _ (by omega), Option.bind_some]
      unfold getSigned value_Int.f
      rw [if_neg (by omega), if_neg (by omega), Option.bind_some, show a + 1 + 8 = a + 9 by omega]
  rw [if_neg h4]
  by_cases h5 : rd l a = 2
  · have e : rd gl0 2 = 6 := rfl
    rw [h5, if_pos rfl, e]
    simp only [value_Read.j0]
    rw [if_neg (by decide), if_pos (by omega), if_pos (by omega), e, wrap64_id (x := a + 1 + 6) (by omega) (by omega)]
    by_cases h6 : (l.length : Int) < a + 7
    · rw [if_pos (by omega), if_pos h6]
    · obtain ⟨g1, b1, c1⟩ := get_three hb (a := a + 1) (by omega) (by omega)
      obtain ⟨g2, b2, c2⟩ := get_three hb (a := a + 4) (by omega) (by omega)
      rw [if_neg (by omega), if_neg h6, if_neg (by decide), get_f l hb (by omega) _ _ _ (by omega), Option.bind_some, g1]
      dsimp only
      rw [show a + 1 + 3 = a + 4 by omega, get_f l hb (by omega) _ _ _ (by omega), Option.bind_some, g2]
      dsimp only
      rw [wrap64_id (by omega) (by omega), wrap64_id (by omega) (by omega), pair_f, Option.bind_some, show a + 1 + 6 = a + 7 by omega]
      by_cases h7 : pm (val (piece l (a + 1) 3) - 1048576) (val (piece l (a + 4) 3) - 1048576) = true
      · rw [if_pos h7, if_pos rfl, if_pos h7]
      · rw [if_neg h7, if_neg (by simp), if_neg h7]
  · have h6 : rd l a = 0 := by omega
    have e : rd gl0 0 = 0 := rfl
    rw [h6, if_neg (by omega), e]
    simp [value_Read.j0]
end Go.Proofs.YthmjblmdbcmjcaaDoor.M
namespace Go.Proofs.YthmjblmdbcmjcaaDoor.M
open Go.RowKit Go.Proofs.YthmjblmdbcmjcaaDoor.B Go.Proofs.YthmjblmdbcmjcaaDoorW.PrintWords Go.Proofs.YthmjblmdbcmjcaaDoorW.PrintLast Go.Proofs.YthmjblmdbcmjcaaDoorW.PrintMore
theorem max_self (a : Int) : (a == mx a 0) = decide (0 ≤ a) := by
  rw [Bool.eq_iff_iff, beq_iff_eq, decide_eq_true_eq]
  unfold mx
  omega
theorem inside_f (k a b : Int) : value_Inside.f k a b = some (inside k a b) := by
  unfold value_Inside.f inside
  rw [may_f, Option.bind_some, max_self]
  cases may k a b <;> simp
theorem zero_f (k : Int) : value_Zero.f k = some (zero k) := by
  unfold value_Zero.f zero
  rw [inside_f, Option.bind_some]
  by_cases h1 : k = 1
  · subst h1; rfl
  by_cases h2 : k = 2
  · subst h2; rfl
  by_cases h3 : k = 3
  · subst h3; rfl
  rw [if_neg (by simp [inside, may, h1, h2, h3]), if_neg (by omega)]
end Go.Proofs.YthmjblmdbcmjcaaDoor.M
namespace Go.Proofs.YthmjblmdbcmjcaaDoor.M
open Go.RowKit Go.Proofs.YthmjblmdbcmjcaaDoor.B Go.Proofs.YthmjblmdbcmjcaaDoorW.PrintWords Go.Proofs.YthmjblmdbcmjcaaDoorW.PrintLast Go.Proofs.YthmjblmdbcmjcaaDoorW.PrintMore
theorem val_leb8' (n : Int) (h : -9223372036854775808 ≤ n ∧ n ≤ 9223372036854775807) : wrap64 (val (leb 8 n)) = n := by
  simp only [leb, val]
  unfold wrap64
  omega
theorem val_leb3 (n : Int) (h : 0 ≤ n ∧ n < 16777216) : val (leb 3 n) = n := by
  simp only [leb, val]
  omega
theorem vbytes_ok {k a b : Int} (h : (vbytes k a b).2 = 0) : (k = 1 ∧ b = 0 ∧ (vbytes k a b).1 = 1 :: leb 8 a) ∨ (k = 2 ∧ (-1048576 ≤ a ∧ a ≤ 1048576 ∧ -1048576 ≤ b ∧ b ≤ 1048576) ∧ (vbytes k a b).1 = 2 :: (leb 3 (a + 1048576) ++ leb 3 (b + 1048576))) := by
  unfold vbytes at h ⊢
  by_cases hm : may k a b = true
  · rw [if_pos hm]
    by_cases h1 : k = 1
    · subst h1
      rw [if_pos rfl]
      have hb : b = 0 := by
        unfold may at hm; simpa using hm
      exact .inl ⟨rfl, hb, rfl⟩
    · obtain ⟨h2, h3⟩ := may_two hm h1
      rw [if_neg h1]
      exact .inr ⟨h2, h3, rfl⟩
  · rw [if_neg hm] at h; cases h
theorem vbytes_isB (k a b : Int) : isB (vbytes k a b).1 := by
  unfold vbytes
  split
  · split
    · exact isB_append.2 ⟨isB_cons.2 ⟨by omega, isB_nil⟩, leb_isB _ _⟩
    · exact isB_append.2 ⟨isB_append.2 ⟨isB_cons.2 ⟨by omega, isB_nil⟩, leb_isB _ _⟩, leb_isB _ _⟩
  · exact isB_nil
theorem piece_mid (a b c d : List Int) (n m : Int) (hn : n = a.length + b.length) (hm : m = c.length) : piece (a ++ (b ++ (c ++ d))) n m = c := by
  subst hn
  subst hm
  unfold piece
  rw [show ((a.length : Int) + b.length).toNat = (a ++ b).length by simp; omega, Int.toNat_natCast, ← List.append_assoc, List.drop_left, List.take_left]
theorem rd_mid (a c : List Int) (x : Int) : rd (a ++ x :: c) (a.length : Int) = x := by
  rw [rd_at (by simp), List.getElem_append_right (by omega)]; simp
theorem vread_put {k a b : Int} (ha : -9223372036854775808 ≤ a ∧ a ≤ 9223372036854775807) (h : (vbytes k a b).2 = 0) (x y : List Int) : vread (x ++ (vbytes k a b).1 ++ y) x.length = (k, a, b, (x.length : Int) + (vbytes k a b).1.length, 0) := by
  have l8 := leb_length 8
  have l3 := leb_length 3
  rcases vbytes_ok h with ⟨rfl, rfl, e⟩ | ⟨rfl, hr, e⟩
  · rw [e]
    have hp := piece_mid x [1] (leb 8 a) y ((x.length : Int) + 1) 8 (by simp) (by simp [l8])
    have hrd := rd_mid x (leb 8 a ++ y) 1
    have e1 : x ++ 1 :: leb 8 a ++ y = x ++ 1 :: (leb 8 a ++ y) := by simp
    have e2 : [1] ++ (leb 8 a ++ y) = 1 :: (leb 8 a ++ y) := rfl
    rw [e2] at hp
    have hL : (x ++ 1 :: (leb 8 a ++ y)).length = x.length + 9 + y.length := by simp [l8]; omega
    have hc : ((1 :: leb 8 a).length : Int) = 9 := by simp [l8]
    rw [e1, hc]
    unfold vread
    rw [if_neg (by omega), if_neg (by omega), hrd, if_pos rfl, if_neg (by omega), hp, val_leb8' a ha]
  · rw [e]
    have hp := piece_mid x [2] (leb 3 (a + 1048576)) (leb 3 (b + 1048576) ++ y) ((x.length : Int) + 1) 3 (by simp) (by simp [l3])
    have hq := piece_mid x (2 :: leb 3 (a + 1048576)) (leb 3 (b + 1048576)) y ((x.length : Int) + 4) 3 (by simp [l3] <;> omega) (by simp [l3])
    have hrd := rd_mid x (leb 3 (a + 1048576) ++ (leb 3 (b + 1048576) ++ y)) 2
    have e1 : x ++ 2 :: (leb 3 (a + 1048576) ++ leb 3 (b + 1048576)) ++ y = x ++ 2 :: (leb 3 (a + 1048576) ++ (leb 3 (b + 1048576) ++ y)) := by simp
    have e2 : [2] ++ (leb 3 (a + 1048576) ++ (leb 3 (b + 1048576) ++ y)) = 2 :: (leb 3 (a + 1048576) ++ (leb 3 (b + 1048576) ++ y)) := rfl
    have e3 : 2 :: leb 3 (a + 1048576) ++ (leb 3 (b + 1048576) ++ y) = 2 :: (leb 3 (a + 1048576) ++ (leb 3 (b + 1048576) ++ y)) := rfl
    rw [e2] at hp
    rw [e3] at hq
    have hL : (x ++ 2 :: (leb 3 (a + 1048576) ++ (leb 3 (b + 1048576) ++ y))).length = x.length + 7 + y.length := by simp [l3]; omega
    have hc : ((2 :: (leb 3 (a + 1048576) ++ leb 3 (b + 1048576))).length : Int) = 7 := by simp [l3]
    rw [e1, hc]
    unfold vread
    rw [if_neg (by omega), if_neg (by omega), hrd, if_neg (by omega), if_pos rfl, if_neg (by omega), hp, hq, val_leb3 _ (by omega), val_leb3 _ (by omega), show a + 1048576 - 1048576 = a by omega, show b + 1048576 - 1048576 = b by omega,
      if_pos (by unfold pm; rw [decide_eq_true_eq]; omega)]
theorem leb_wrap8 (x : Int) : leb 8 (wrap64 x) = leb 8 x := by
  simp only [leb, List.cons.injEq, and_true]
  unfold wrap64
  omega
theorem leb_pc {l : List Int} (hb : isB l) {a w : Int} (h0 : 0 ≤ a) (hw : 0 ≤ w) (h : a + w ≤ l.length) : leb w.toNat (val (piece l a w)) = piece l a w := by
  have hn := piece_length h0 hw h
  have := leb_val (piece_isB a w hb)
  rwa [hn] at this
theorem piece_join (l : List Int) (a m n : Int) (h0 : 0 ≤ a) (hm : 0 ≤ m) (hn : 0 ≤ n) : piece l a m ++ piece l (a + m) n = piece l a (m + n) := by
  unfold piece
  rw [show (a + m).toNat = a.toNat + m.toNat by omega, show (m + n).toNat = m.toNat + n.toNat by omega, List.take_add, List.drop_drop]
theorem vread_back {l : List Int} (hb : isB l) (a : Int) :
    ((vread l a).2.2.2.2 ≠ 0 ∧ (vread l a).1 = 0 ∧ (vread l a).2.1 = 0 ∧ (vread l a).2.2.1 = 0 ∧ (vread l a).2.2.2.1 = 0) ∨
    ((vread l a).2.2.2.2 = 0 ∧ may (vread l a).1 (vread l a).2.1 (vread l a).2.2.1 = true ∧ 0 ≤ a ∧ (vread l a).2.2.2.1 ≤ l.length ∧ a ≤ (vread l a).2.2.2.1 ∧
      vbytes (vread l a).1 (vread l a).2.1 (vread l a).2.2.1 = (piece l a ((vread l a).2.2.2.1 - a), 0)) := by
  unfold vread
  by_cases h1 : a < 0 ∨ a > (l.length : Int)
  · rw [if_pos h1]; exact .inl ⟨by simp, rfl, rfl, rfl, rfl⟩
  rw [if_neg h1]
  by_cases h2 : (l.length : Int) - a < 1
  · rw [if_pos h2]; exact .inl ⟨by simp, rfl, rfl, rfl, rfl⟩
  rw [if_neg h2]
  have hone := piece_one (l := l) (a := a) (by omega) (by omega)
  by_cases h3 : rd l a = 1
  · rw [if_pos h3]
    by_cases h4 : (l.length : Int) < a + 9
    · rw [if_pos h4]; exact .inl ⟨by simp, rfl, rfl, rfl, rfl⟩
    rw [if_neg h4]
    have hm : may 1 (wrap64 (val (piece l (a + 1) 8))) 0 = true := by unfold may; simp
    refine .inr ⟨rfl, hm, by omega, by dsimp only; omega, by dsimp only; omega, ?_⟩
    dsimp only
    unfold vbytes
    rw [if_pos hm, if_pos rfl, leb_wrap8]
    have hp := leb_pc hb (a := a + 1) (w := 8) (by omega) (by omega) (by omega)
    rw [show ((8 : Int).toNat) = 8 from rfl] at hp
    rw [hp, show a + 9 - a = 1 + 8 by omega, ← piece_join l a 1 8 (by omega) (by omega) (by omega), hone, h3]
  rw [if_neg h3]
  by_cases h4 : rd l a = 2
  · rw [if_pos h4]
    by_cases h5 : (l.length : Int) < a + 7
    · rw [if_pos h5]; exact .inl ⟨by simp, rfl, rfl, rfl, rfl⟩
    rw [if_neg h5]
    by_cases h6 : pm (val (piece l (a + 1) 3) - 1048576) (val (piece l (a + 4) 3) - 1048576) = true
    · rw [if_pos h6]
      have hm : may 2 (val (piece l (a + 1) 3) - 1048576) (val (piece l (a + 4) 3) - 1048576) = true := by unfold may; rw [h6]; rfl
      refine .inr ⟨rfl, hm, by omega, by dsimp only; omega, by dsimp only; omega, ?_⟩
      dsimp only
      unfold vbytes
      rw [if_pos hm, if_neg (by omega), Int.sub_add_cancel, Int.sub_add_cancel]
      have hp := leb_pc hb (a := a + 1) (w := 3) (by omega) (by omega) (by omega)
      have hq := leb_pc hb (a := a + 4) (w := 3) (by omega) (by omega) (by omega)
      rw [show ((3 : Int).toNat) = 3 from rfl] at hp hq
      rw [hp, hq, show a + 7 - a = 1 + 3 + 3 by omega, ← piece_join l a (1 + 3) 3 (by omega) (by omega) (by omega), ← piece_join l a 1 3 (by omega) (by omega) (by omega), hone, h4, show a + (1 + 3) = a + 4 by omega]
    · rw [if_neg h6]; exact .inl ⟨by simp, rfl, rfl, rfl, rfl⟩
  · rw [if_neg h4]; exact .inl ⟨by simp, rfl, rfl, rfl, rfl⟩
end Go.Proofs.YthmjblmdbcmjcaaDoor.M
namespace Go.Proofs.YthmjblmdbcmjcaaDoor.M
open Go.RowKit Go.Proofs.YthmjblmdbcmjcaaDoor.B Go.Proofs.YthmjblmdbcmjcaaDoorW.PrintWords Go.Proofs.YthmjblmdbcmjcaaDoorW.PrintLast Go.Proofs.YthmjblmdbcmjcaaDoorW.PrintMore
def vmay (v : S73) : Bool := may v.f0 v.f1 v.f2
def vb (v : S73) : List Int := (vbytes v.f0 v.f1 v.f2).1
def vflat (l : List S73) : List Int := l.flatMap vb
def vok (v : S73) : Prop := -9223372036854775808 ≤ v.f1 ∧ v.f1 ≤ 9223372036854775807
theorem vmay_ok {v : S73} (h : vmay v = true) : (vbytes v.f0 v.f1 v.f2).2 = 0 := by
  unfold vmay at h
  unfold vbytes
  rw [if_pos h]
  split <;> rfl
theorem vbytes_pair {v : S73} (h : vmay v = true) : vbytes v.f0 v.f1 v.f2 = (vb v, 0) := Prod.ext rfl (vmay_ok h)
theorem vb_len {v : S73} (h : vmay v = true) : 7 ≤ (vb v).length ∧ (vb v).length ≤ 9 := by
  have l8 := leb_length 8
  have l3 := leb_length 3
  unfold vb
  rcases vbytes_ok (vmay_ok h) with ⟨_, _, e⟩ | ⟨_, _, e⟩ <;> rw [e] <;> simp [l8, l3]
theorem vb_isB (v : S73) : isB (vb v) := vbytes_isB _ _ _
theorem vflat_isB (l : List S73) : isB (vflat l) := by
  intro b hb
  obtain ⟨v, _, hv⟩ := List.mem_flatMap.1 hb
  exact vb_isB v b hv
theorem vflat_cons (v : S73) (l : List S73) : vflat (v :: l) = vb v ++ vflat l := rfl
theorem vflat_len {l : List S73} (h : ∀ v ∈ l, vmay v = true) : 7 * l.length ≤ (vflat l).length ∧ (vflat l).length ≤ 9 * l.length := by
  induction l with
  | nil => simp [vflat]
  | cons v l ih =>
    have h1 := vb_len (h v (by simp))
    have h2 := ih (fun u hu => h u (by simp [hu]))
    rw [vflat_cons, List.length_append, List.length_cons]
    omega
theorem rdT_at {l : List S73} {i : Nat} (h : i < l.length) : rd_T73 l (i : Int) = l[i] := by simp [rd_T73, List.getD, List.getElem?_eq_getElem h]
def pread (l : List Int) : Nat → Int → List S73 → List S73 × Int × Int
  | 0, a, acc => (acc, a, 0)
  | d + 1, a, acc => if (vread l a).2.2.2.2 = 0 then pread l d (vread l a).2.2.2.1 (acc ++ [⟨(vread l a).1, (vread l a).2.1, (vread l a).2.2.1⟩]) else ([], 0, (vread l a).2.2.2.2)
theorem pread_put (l : List S73) : (∀ v ∈ l, vmay v = true ∧ vok v) → ∀ (x y : List Int) (acc : List S73), pread (x ++ vflat l ++ y) l.length x.length acc = (acc ++ l, (x.length : Int) + (vflat l).length, 0) := by
  induction l with
  | nil => intro _ x y acc; simp [pread, vflat]
  | cons v l ih =>
    intro h x y acc
    have hv := h v (by simp)
    have e : x ++ vflat (v :: l) ++ y = x ++ vb v ++ (vflat l ++ y) := by simp [vflat_cons, List.append_assoc]
    have hr := vread_put hv.2 (vmay_ok hv.1) x (vflat l ++ y)
    have h2 := ih (fun u hu => h u (by simp [hu])) (x ++ vb v) y (acc ++ [v])
    change vread (x ++ vb v ++ (vflat l ++ y)) x.length = (v.f0, v.f1, v.f2, (x.length : Int) + (vb v).length, 0) at hr
    rw [e, List.length_cons, pread, hr]
    rw [if_pos rfl]
    rw [List.length_append, Int.natCast_add, List.append_assoc (x ++ vb v)] at h2
    rw [h2, vflat_cons, List.length_append, Int.natCast_add, List.append_assoc]
    simp [Int.add_assoc]
theorem pread_back {l : List Int} (hb : isB l) (d : Nat) : ∀ (a : Int) (acc : List S73), 0 ≤ a → a ≤ l.length → ((pread l d a acc).2.2 ≠ 0 ∧ (pread l d a acc).1 = [] ∧ (pread l d a acc).2.1 = 0) ∨ (∃ m : List S73, pread l d a acc = (acc ++ m, (pread l d a acc).2.1, 0) ∧ m.length = d ∧ (∀ v ∈ m, vmay v = true) ∧ a ≤ (pread l d a acc).2.1 ∧ (pread l d a acc).2.1 ≤ l.length ∧ vflat m = piece l a ((pread l d a acc).2.1 - a)) := by
  induction d with
  | zero =>
    intro a acc h0 h1
    exact .inr ⟨[], by simp [pread], rfl, by simp, by simp [pread], by simpa [pread] using h1, by simp [pread, piece, vflat]⟩
  | succ d ih =>
    intro a acc h0 h1
    simp only [pread]
    rcases vread_back hb a with ⟨e0, e1, e2, e3, e4⟩ | ⟨e0, hm, f1, f2, f3, f4⟩
    · rw [if_neg e0]
      exact .inl ⟨e0, rfl, rfl⟩
    · rw [if_pos e0]
      rcases ih (vread l a).2.2.2.1 (acc ++ [⟨(vread l a).1, (vread l a).2.1, (vread l a).2.2.1⟩]) (by omega) f2 with h | ⟨m, g1, g2, g3, g4, g5, g6⟩
      · exact .inl h
      · refine .inr ⟨⟨(vread l a).1, (vread l a).2.1, (vread l a).2.2.1⟩ :: m, ?_, by simp [g2], ?_, by omega, g5, ?_⟩
        · rw [List.append_assoc] at g1
          exact g1
        · intro v hv
          rcases List.mem_cons.1 hv with rfl | hv
          · exact hm
          · exact g3 v hv
        · rw [vflat_cons, g6]
          have : vb ⟨(vread l a).1, (vread l a).2.1, (vread l a).2.2.1⟩ = piece l a ((vread l a).2.2.2.1 - a) := by
            unfold vb
            dsimp only
            rw [f4]
          rw [this]
          have hj := piece_join l a ((vread l a).2.2.2.1 - a) ((pread l d (vread l a).2.2.2.1 (acc ++ [⟨(vread l a).1, (vread l a).2.1, (vread l a).2.2.1⟩])).2.1 - (vread l a).2.2.2.1) h0 (by omega) (by omega)
          rw [show a + ((vread l a).2.2.2.1 - a) = (vread l a).2.2.2.1 by omega] at hj
          rw [hj]
          congr 1
          omega
end Go.Proofs.YthmjblmdbcmjcaaDoor.M
namespace Go.Proofs.YthmjblmdbcmjcaaDoor.M
open Go.RowKit Go.Proofs.YthmjblmdbcmjcaaDoor.B Go.Proofs.YthmjblmdbcmjcaaDoorW.PrintWords Go.Proofs.YthmjblmdbcmjcaaDoorW.PrintLast Go.Proofs.YthmjblmdbcmjcaaDoorW.PrintMore
theorem odd_f (v : S73) : pool_May_1.f v.f0 v.f1 v.f2 = some (!vmay v) := by
  unfold pool_May_1.f
  rw [may_f, Option.bind_some]; rfl
theorem idxf_l0 (l : List S73) (hl : l.length ≤ 140737488355328) (d : Nat) : ∀ (k i : Nat), i + d = l.length → d < k → ∃ r, slices_IndexFunc_api_Value_api_Value.l0 k l (l.length : Int) i = some r ∧ decide (r ≥ 0) = !(l.drop i).all vmay := by
  induction d with
  | zero =>
    intro k i hi hk
    obtain ⟨k, rfl⟩ : ∃ n, k = n + 1 := ⟨k - 1, by omega⟩
    simp only [slices_IndexFunc_api_Value_api_Value.l0]
    rw [if_neg (by omega)]
    exact ⟨-1, rfl, by rw [List.drop_eq_nil_of_le (by omega)]; rfl⟩
  | succ d ih =>
    intro k i hi hk
    obtain ⟨k, rfl⟩ : ∃ n, k = n + 1 := ⟨k - 1, by omega⟩
    simp only [slices_IndexFunc_api_Value_api_Value.l0]
    rw [if_pos (by omega), if_pos (by omega), if_pos (by omega), rdT_at (by omega), odd_f, Option.bind_some, List.drop_eq_getElem_cons (by omega : i < l.length), List.all_cons]
    by_cases h : vmay l[i] = true
    · rw [h, if_neg (by decide), wrap64_id (by omega) (by omega)]
      exact ih k (i + 1) (by omega) (by omega)
    · rw [Bool.not_eq_true] at h
      rw [h, if_pos (by decide)]
      exact ⟨(i : Int), rfl, by rw [decide_eq_true (by omega)]; rfl⟩
theorem contf_f (l : List S73) (hl : l.length ≤ 140737488355328) (k : Nat) (hk : l.length < k) : slices_ContainsFunc_api_Value_api_Value.f k l = some (!l.all vmay) := by
  obtain ⟨r, h1, h2⟩ := idxf_l0 l hl l.length k 0 (by omega) hk
  unfold slices_ContainsFunc_api_Value_api_Value.f slices_IndexFunc_api_Value_api_Value.f
  rw [show slices_IndexFunc_api_Value_api_Value.l0 k l (l.length : Int) 0 = some r from h1, Option.bind_some, h2]; rfl
end Go.Proofs.YthmjblmdbcmjcaaDoor.M
namespace Go.Proofs.YthmjblmdbcmjcaaDoor.M
open Go.RowKit Go.Proofs.YthmjblmdbcmjcaaDoor.B Go.Proofs.YthmjblmdbcmjcaaDoorW.PrintWords Go.Proofs.YthmjblmdbcmjcaaDoorW.PrintLast Go.Proofs.YthmjblmdbcmjcaaDoorW.PrintMore
def poolread (l : List Int) (a : Int) : List S73 × Int × Int :=
  if (get l a 1).2.2 = 0 then (if (get l a 1).1 > 32 then ([], 0, 60) else pread l (get l a 1).1.toNat (get l a 1).2.1 []) else ([], 0, (get l a 1).2.2)
theorem pool_l0 (l : List Int) (hb : isB l) (hl : l.length ≤ 140737488355327) (d : Nat) : ∀ (k i : Nat) (a : Int) (acc : List S73) (m : Int), acc.length = i → m = i + d → m ≤ 32 → d + 24 ≤ k → pool_Read.l0 k l a acc m i = some (pread l d a acc) := by
  induction d with
  | zero =>
    intro k i a acc m hi hm hm2 hk
    obtain ⟨k, rfl⟩ : ∃ n, k = n + 1 := ⟨k - 1, by omega⟩
    simp only [pool_Read.l0, pread]
    rw [if_neg (by omega)]
  | succ d ih =>
    intro k i a acc m hi hm hm2 hk
    obtain ⟨k, rfl⟩ : ∃ n, k = n + 1 := ⟨k - 1, by omega⟩
    simp only [pool_Read.l0, pread]
    rw [if_pos (by omega), vread_f l hb hl a k (by omega), Option.bind_some]
    by_cases h : (vread l a).2.2.2.2 = 0
    · rw [if_pos h, if_pos h, if_pos (by omega), wrap64_id (by omega) (by omega)]
      exact ih k (i + 1) _ _ m (by simp [hi]) (by omega) hm2 (by omega)
    · rw [if_neg h, if_neg h]
theorem get_one_bound {l : List Int} (hb : isB l) (a : Int) : 0 ≤ (get l a 1).1 := by
  rw [get_one hb]
  have := isB_rd hb a
  split
  · exact Int.le_refl _
  · split
    · exact Int.le_refl _
    · exact this.1
theorem poolread_f (l : List Int) (hb : isB l) (hl : l.length ≤ 140737488355327) (a : Int) (k : Nat) (hk : 80 ≤ k) : pool_Read.f k l a = some (poolread l a) := by
  have h0 := get_one_bound hb a
  unfold pool_Read.f poolread
  rw [get_f l hb (by omega) a 1 _ (by omega), Option.bind_some]
  by_cases h : (get l a 1).2.2 = 0
  · rw [if_pos h, if_pos h]
    by_cases h2 : (get l a 1).1 > 32
    · rw [if_pos h2, if_pos h2]
    · rw [if_neg h2, if_neg h2]
      exact pool_l0 l hb hl (get l a 1).1.toNat k 0 _ [] _ rfl (by omega) (by omega) (by omega)
  · rw [if_neg h, if_neg h]
end Go.Proofs.YthmjblmdbcmjcaaDoor.M
namespace Go.Proofs.YthmjblmdbcmjcaaDoor.M
open Go.RowKit Go.Proofs.YthmjblmdbcmjcaaDoor.B Go.Proofs.YthmjblmdbcmjcaaDoorW.PrintWords Go.Proofs.YthmjblmdbcmjcaaDoorW.PrintLast Go.Proofs.YthmjblmdbcmjcaaDoorW.PrintMore
def pmay (l : List S73) : Bool := decide (l.length ≤ 32) && l.all vmay
def pbytes (l : List S73) : List Int × Int := if pmay l = true then ((l.length : Int) :: vflat l, 0) else ([], 60)
theorem pmay_iff {l : List S73} : pmay l = true ↔ l.length ≤ 32 ∧ ∀ v ∈ l, vmay v = true := by
  unfold pmay
  rw [Bool.and_eq_true, decide_eq_true_eq, List.all_eq_true]
theorem pmay_f (l : List S73) (k : Nat) (hk : 40 ≤ k) : pool_May.f k l = some (pmay l) := by
  unfold pool_May.f pmay
  by_cases h : l.length ≤ 32
  · rw [if_pos (by omega), contf_f l (by omega) k (by omega), Option.bind_some, Bool.not_not, decide_eq_true h, Bool.true_and]
  · rw [if_neg (by omega), decide_eq_false h, Bool.false_and]
theorem pbytes_l0 (l : List S73) (hl : l.length ≤ 32) (hm : ∀ v ∈ l, vmay v = true) (d : Nat) : ∀ (k i : Nat) (acc : List Int), i + d = l.length → d + 20 ≤ k → acc.length ≤ 1000 * (i + 1) → pool_Bytes.l0 k acc l (l.length : Int) i = some (acc ++ vflat (l.drop i), 0) := by
  induction d with
  | zero =>
    intro k i acc hi hk ha
    obtain ⟨k, rfl⟩ : ∃ n, k = n + 1 := ⟨k - 1, by omega⟩
    simp only [pool_Bytes.l0]
    rw [if_neg (by omega), List.drop_eq_nil_of_le (by omega)]
    simp [vflat]
  | succ d ih =>
    intro k i acc hi hk ha
    obtain ⟨k, rfl⟩ : ∃ n, k = n + 1 := ⟨k - 1, by omega⟩
    have hv := hm l[i] (List.getElem_mem (by omega))
    have hn := vb_len hv
    simp only [pool_Bytes.l0]
    rw [if_pos (by omega), if_pos (by omega), if_pos (by omega), rdT_at (by omega), vbytes_f _ _ _ _ (by omega), Option.bind_some, vbytes_pair hv, if_pos rfl]
    dsimp only
    rw [if_pos (by omega), wrap64_id (by omega) (by omega)]
    rw [show ((i : Int) + 1) = ((i + 1 : Nat) : Int) by omega, ih k (i + 1) (acc ++ vb l[i]) (by omega) (by omega) (by rw [List.length_append]; omega), List.drop_eq_getElem_cons (by omega : i < l.length), vflat_cons, List.append_assoc]
theorem pbytes_f (l : List S73) (k : Nat) (hk : 80 ≤ k) : pool_Bytes.f k l = some (pbytes l) := by
  unfold pool_Bytes.f pbytes
  rw [pmay_f l k (by omega), Option.bind_some]
  by_cases h : pmay l = true
  · obtain ⟨h1, h2⟩ := pmay_iff.1 h
    rw [if_pos h, if_pos h, show ((l.length : Int)) % 256 = l.length by omega]
    have := pbytes_l0 l h1 h2 l.length k 0 [(l.length : Int)] (by omega) (by omega) (by simp)
    simpa using this
  · rw [if_neg h, if_neg h]
theorem pbytes_isB (l : List S73) : isB (pbytes l).1 := by
  unfold pbytes
  by_cases hm : pmay l = true
  · rw [if_pos hm]
    have := (pmay_iff.1 hm).1
    exact isB_cons.2 ⟨by omega, vflat_isB l⟩
  · rw [if_neg hm]; exact isB_nil
theorem get_head (x y : List Int) (n : Int) (hn : 0 ≤ n ∧ n ≤ 255) (hx : isB x) (hy : isB y) : get (x ++ n :: y) x.length 1 = (n, (x.length : Int) + 1, 0) := by
  have hb : isB (x ++ n :: y) := isB_append.2 ⟨hx, isB_cons.2 ⟨hn, hy⟩⟩
  have hL : (x ++ n :: y).length = x.length + 1 + y.length := by simp; omega
  rw [get_one hb, if_neg (by omega), if_neg (by omega), rd_mid]
theorem poolread_put {l : List S73} (h : pmay l = true) (ho : ∀ v ∈ l, vok v) (x y : List Int) (hx : isB x) (hy : isB y) : poolread (x ++ (pbytes l).1 ++ y) x.length = (l, (x.length : Int) + (pbytes l).1.length, 0) := by
  obtain ⟨h1, h2⟩ := pmay_iff.1 h
  have e : (pbytes l).1 = (l.length : Int) :: vflat l := by unfold pbytes; rw [if_pos h]
  have e2 : x ++ (l.length : Int) :: vflat l ++ y = x ++ (l.length : Int) :: (vflat l ++ y) := by simp
  have hp := pread_put l (fun v hv => ⟨h2 v hv, ho v hv⟩) (x ++ [(l.length : Int)]) y []
  rw [e, e2]
  unfold poolread
  rw [get_head x (vflat l ++ y) l.length (by omega) hx (isB_append.2 ⟨vflat_isB l, hy⟩)]
  dsimp only
  rw [if_pos rfl, if_neg (by omega), Int.toNat_natCast]
  rw [show x ++ (l.length : Int) :: (vflat l ++ y) = x ++ [(l.length : Int)] ++ vflat l ++ y by simp, show (x.length : Int) + 1 = ((x ++ [(l.length : Int)]).length : Int) by simp, hp]
  simp [Int.add_assoc, Int.add_comm]
theorem poolread_back {l : List Int} (hb : isB l) (a : Int) : ((poolread l a).2.2 ≠ 0 ∧ (poolread l a).1 = [] ∧ (poolread l a).2.1 = 0) ∨ ((poolread l a).2.2 = 0 ∧ pmay (poolread l a).1 = true ∧ 0 ≤ a ∧ a ≤ (poolread l a).2.1 ∧ (poolread l a).2.1 ≤ l.length ∧ (pbytes (poolread l a).1) = (piece l a ((poolread l a).2.1 - a), 0)) := by
  unfold poolread
  rw [get_one hb]
  by_cases h1 : a < 0 ∨ a > (l.length : Int)
  · rw [if_pos h1, if_neg (by decide)]; exact .inl ⟨by decide, rfl, rfl⟩
  rw [if_neg h1]
  by_cases h2 : (l.length : Int) - a < 1
  · rw [if_pos h2, if_neg (by decide)]; exact .inl ⟨by decide, rfl, rfl⟩
  rw [if_neg h2, if_pos rfl]
  dsimp only
  have hq := isB_rd hb a
  by_cases h3 : rd l a > 32
  · rw [if_pos h3]; exact .inl ⟨by decide, rfl, rfl⟩
  rw [if_neg h3]
  rcases pread_back hb (rd l a).toNat (a + 1) [] (by omega) (by omega) with h | ⟨m, g1, g2, g3, g4, g5, g6⟩
  · exact .inl h
  · have gm : pmay m = true := pmay_iff.2 ⟨by omega, g3⟩
    rw [g1]
    refine .inr ⟨rfl, gm, by omega, by dsimp only; omega, g5, ?_⟩
    dsimp only
    rw [List.nil_append]
    unfold pbytes
    rw [if_pos gm, g6, g2, show ((rd l a).toNat : Int) = rd l a by omega]
    have hj := piece_join l a 1 ((pread l (rd l a).toNat (a + 1) []).2.1 - (a + 1)) (by omega) (by omega) (by omega)
    rw [piece_one (by omega) (by omega)] at hj
    rw [show (pread l (rd l a).toNat (a + 1) []).2.1 - a = 1 + ((pread l (rd l a).toNat (a + 1) []).2.1 - (a + 1)) by omega, ← hj]
    rfl
end Go.Proofs.YthmjblmdbcmjcaaDoor.M
namespace Go.Proofs.YthmjblmdbcmjcaaDoor.M
open Go.RowKit Go.Proofs.YthmjblmdbcmjcaaDoor.B Go.Proofs.YthmjblmdbcmjcaaDoorW.PrintWords Go.Proofs.YthmjblmdbcmjcaaDoorW.PrintLast Go.Proofs.YthmjblmdbcmjcaaDoorW.PrintMore
theorem pbytes_length (l : List S73) : (pbytes l).1.length ≤ 300 := by
  unfold pbytes
  by_cases hm : pmay l = true
  · obtain ⟨h1, h2⟩ := pmay_iff.1 hm
    have := vflat_len h2
    rw [if_pos hm]
    simp only [List.length_cons]
    omega
  · rw [if_neg hm]; simp
end Go.Proofs.YthmjblmdbcmjcaaDoor.M
namespace Go.Proofs.YthmjblmdbcmjcaaDoor.M
open Go.RowKit Go.Proofs.YthmjblmdbcmjcaaDoor.B Go.Proofs.YthmjblmdbcmjcaaDoorW.PrintWords Go.Proofs.YthmjblmdbcmjcaaDoorW.PrintLast Go.Proofs.YthmjblmdbcmjcaaDoorW.PrintMore
theorem op_up {α : Type} {f : Nat → Option α} (hm : ∀ k, LeO (f k) (f (k + 1))) {k0 : Nat} {r : α} (h : f k0 = some r) (k : Nat) (hk : k0 ≤ k) : f k = some r := by
  obtain ⟨d, rfl⟩ := Nat.exists_eq_add_of_le hk
  clear hk
  induction d with
  | zero => exact h
  | succ d ih => exact hm _ r ih
def bnd (a : Int) : Int × Int := (op_Bounds.f 5 a).getD (0, 0)
theorem bnd_all : ∀ n : Fin 256, op_Bounds.f 5 ((n : Nat) : Int) = some (bnd ((n : Nat) : Int)) ∧ decide ((bnd ((n : Nat) : Int)).1 ≤ (bnd ((n : Nat) : Int)).2) = decide ((n : Nat) < 33) ∧ ((n : Nat) < 33 → 0 ≤ (bnd ((n : Nat) : Int)).1 ∧ (bnd ((n : Nat) : Int)).2 ≤ 1024) ∧ (¬ (n : Nat) < 33 → bnd ((n : Nat) : Int) = (0, -1)) := by decide +kernel
theorem bnd_f (n : Fin 256) (k : Nat) (hk : 5 ≤ k) : op_Bounds.f k ((n : Nat) : Int) = some (bnd ((n : Nat) : Int)) := op_up (fun k => op_Bounds.mono _ k) (bnd_all n).1 k hk
theorem opmay_f (n : Fin 256) (a b : Int) (k : Nat) (hk : 5 ≤ k) : op_May.f k ((n : Nat) : Int) a b = some (decide ((bnd ((n : Nat) : Int)).1 ≤ a) && (decide (a ≤ (bnd ((n : Nat) : Int)).2) && b == 0)) := by
  unfold op_May.f
  rw [bnd_f n k hk, Option.bind_some]
  by_cases h1 : (bnd ((n : Nat) : Int)).1 ≤ a
  · rw [if_pos h1, decide_eq_true h1, Bool.true_and]
    by_cases h2 : a ≤ (bnd ((n : Nat) : Int)).2
    · rw [if_pos h2, decide_eq_true h2, Bool.true_and]
    · rw [if_neg h2, decide_eq_false h2, Bool.false_and]
  · rw [if_neg h1, decide_eq_false h1, Bool.false_and]
theorem known_f (n : Fin 256) : op_Known.f ((n : Nat) : Int) = some (decide ((n : Nat) < 33)) := by
  unfold op_Known.f
  rw [wrap64_id (by omega) (by omega)]
  congr 1
  rw [Bool.eq_iff_iff, decide_eq_true_eq, decide_eq_true_eq]
  omega
end Go.Proofs.YthmjblmdbcmjcaaDoor.M
namespace Go.Proofs.YthmjblmdbcmjcaaDoor.M
open Go.RowKit Go.Proofs.YthmjblmdbcmjcaaDoor.B Go.Proofs.YthmjblmdbcmjcaaDoorW.PrintWords Go.Proofs.YthmjblmdbcmjcaaDoorW.PrintLast Go.Proofs.YthmjblmdbcmjcaaDoorW.PrintMore
theorem up {α : Type} {f : Nat → Option α} (hm : ∀ k, LeO (f k) (f (k + 1))) {k0 : Nat} {r : α} (h : f k0 = some r) (k : Nat) (hk : k0 ≤ k) : f k = some r := by
  obtain ⟨m, rfl⟩ : ∃ m, k = k0 + m := ⟨k - k0, by omega⟩
  clear hk
  induction m with
  | zero => exact h
  | succ m ih => exact hm _ _ ih
structure Small (ms : List S47) : Prop where
  len : ms.length ≤ 40
  code : ∀ j : Int, 0 ≤ j → j < (ms.length : Int) → (rd_T47 ms j).f7.length ≤ 100000
end Go.Proofs.YthmjblmdbcmjcaaDoor.M
namespace Go.Proofs.YthmjblmdbcmjcaaDoor.M
open Go.RowKit Go.Proofs.YthmjblmdbcmjcaaDoor.B Go.Proofs.YthmjblmdbcmjcaaDoorW.PrintWords Go.Proofs.YthmjblmdbcmjcaaDoorW.PrintLast Go.Proofs.YthmjblmdbcmjcaaDoorW.PrintMore
section
variable {l0 l1 : List S73} {ms : List S47} {a3 : Int}
theorem great_l0 (hn : ms.length ≤ 40) : ∀ m i : Nat, i + m = ms.length → capstanlaw08_Great.l0 (m + 1) (i : Int) l0 l1 ms a3 = some true ∨ (capstanlaw08_Great.l0 (m + 1) (i : Int) l0 l1 ms a3 = some false ∧ ∀ j : Int, (i : Int) ≤ j → j < (ms.length : Int) → (rd_T47 ms j).f7.length ≤ 300) := by
  intro m
  induction m with
  | zero =>
    intro i hi
    rw [capstanlaw08_Great.l0, if_neg (by omega)]
    exact .inr ⟨rfl, fun j h1 h2 => by omega⟩
  | succ m ih =>
    intro i hi
    have hw : wrap64 ((i : Int) + 1) = ((i + 1 : Nat) : Int) := by unfold wrap64; omega
    rw [capstanlaw08_Great.l0, if_pos (by omega), if_pos (by omega), hw]
    obtain ⟨b, hb⟩ : ∃ b, capstanlaw07_Great.f (rd_T47 ms i).f0 (rd_T47 ms i).f1 (rd_T47 ms i).f2 (rd_T47 ms i).f3 (rd_T47 ms i).f4 (rd_T47 ms i).f5 (rd_T47 ms i).f6 (rd_T47 ms i).f7 = some b := by
      unfold capstanlaw07_Great.f
      split
      · exact ⟨_, rfl⟩
      · exact ⟨_, rfl⟩
    rw [hb, Option.bind_some]
    cases b
    · rw [if_neg (by decide)]
      by_cases hc : ((rd_T47 ms i).f7.length : Int) > 300
      · rw [if_pos hc]; exact .inl rfl
      · rw [if_neg hc]
        rcases ih (i + 1) (by omega) with h | ⟨h, h2⟩
        · exact .inl h
        · refine .inr ⟨h, fun j h3 h4 => ?_⟩
          by_cases e : j = (i : Int)
          · subst e; omega
          · exact h2 j (by omega) h4
    · rw [if_pos rfl]; exact .inl rfl
theorem great_f : capstanlaw08_Great.f 60 l0 l1 ms a3 = some true ∨ (capstanlaw08_Great.f 60 l0 l1 ms a3 = some false ∧ Small ms ∧ l0.length ≤ 100 ∧ l1.length ≤ 100 ∧ ∀ j : Int, 0 ≤ j → j < (ms.length : Int) → (rd_T47 ms j).f7.length ≤ 300) := by
  unfold capstanlaw08_Great.f
  have ht : capstanlaw08_Great.j0 60 true l0 l1 ms a3 = some true := by rw [capstanlaw08_Great.j0, if_pos rfl]
  by_cases h0 : (l0.length : Int) > 100
  · rw [if_pos h0]; exact .inl ht
  · rw [if_neg h0]
    by_cases h1 : (l1.length : Int) > 100
    · rw [if_pos h1]; exact .inl ht
    · rw [if_neg h1]
      by_cases h2 : (ms.length : Int) > 40
      · rw [decide_eq_true h2]; exact .inl ht
      · rw [decide_eq_false h2, capstanlaw08_Great.j0, if_neg (by decide)]
        have hu : ∀ r, capstanlaw08_Great.l0 (ms.length + 1) ((0 : Nat) : Int) l0 l1 ms a3 = some r → capstanlaw08_Great.l0 59 0 l0 l1 ms a3 = some r := fun r h =>
          up (f := fun k => capstanlaw08_Great.l0 k 0 l0 l1 ms a3) (fun k => (capstanlaw08_Great.mono_l k).2 _ _ _ _ _) h 59 (by omega)
        rcases great_l0 (l0 := l0) (l1 := l1) (a3 := a3) (show ms.length ≤ 40 by omega) ms.length 0 (by omega) with h | ⟨h, h3⟩
        · exact .inl (hu _ h)
        · exact .inr ⟨hu _ h, ⟨by omega, fun j h4 h5 => by have := h3 j h4 h5; omega⟩, by omega, by omega, fun j h4 h5 => h3 j h4 h5⟩
end
end Go.Proofs.YthmjblmdbcmjcaaDoor.M
namespace Go.Proofs.YthmjblmdbcmjcaaDoor.M
open Go.RowKit Go.Proofs.YthmjblmdbcmjcaaDoor.B Go.Proofs.YthmjblmdbcmjcaaDoorW.PrintWords Go.Proofs.YthmjblmdbcmjcaaDoorW.PrintLast Go.Proofs.YthmjblmdbcmjcaaDoorW.PrintMore
variable {l0 l1 : List S73} {ms : List S47} {a3 : Int}
def Few (ms : List S47) : Prop := ∀ j : Nat, j < ms.length → (rd_T47 ms (j : Int)).f0.length ≤ 100 ∧ (rd_T47 ms (j : Int)).f1.length ≤ 100
theorem great_few0 (hn : ms.length ≤ 40) : ∀ m i : Nat, i + m = ms.length → capstanlaw08_Great.l0 (m + 1) (i : Int) l0 l1 ms a3 = some false → ∀ j : Nat, i ≤ j → j < ms.length → (rd_T47 ms (j : Int)).f0.length ≤ 100 ∧ (rd_T47 ms (j : Int)).f1.length ≤ 100 := by
  intro m
  induction m with
  | zero => intro i hi _ j h1 h2; omega
  | succ m ih =>
    intro i hi h j h1 h2
    have hw : wrap64 ((i : Int) + 1) = ((i + 1 : Nat) : Int) := by unfold wrap64; omega
    rw [capstanlaw08_Great.l0, if_pos (by omega), if_pos (by omega), hw] at h
    have h7 : (rd_T47 ms (i : Int)).f0.length ≤ 100 ∧ (rd_T47 ms (i : Int)).f1.length ≤ 100 ∧ capstanlaw08_Great.l0 (m + 1) ((i + 1 : Nat) : Int) l0 l1 ms a3 = some false := by
      unfold capstanlaw07_Great.f at h
      by_cases c0 : ((rd_T47 ms (i : Int)).f0.length : Int) > 100
      · rw [if_pos c0, Option.bind_some, if_pos rfl] at h; cases h
      · rw [if_neg c0, Option.bind_some] at h
        by_cases c1 : ((rd_T47 ms (i : Int)).f1.length : Int) > 100
        · rw [decide_eq_true c1, if_pos rfl] at h; cases h
        · rw [decide_eq_false c1, if_neg (by decide)] at h
          by_cases c2 : ((rd_T47 ms (i : Int)).f7.length : Int) > 300
          · rw [if_pos c2] at h; cases h
          · rw [if_neg c2] at h
            exact ⟨by omega, by omega, h⟩
    by_cases e : j = i
    · subst e; exact ⟨h7.1, h7.2.1⟩
    · exact ih (i + 1) (by omega) h7.2.2 j (by omega) h2
theorem great_few (hn : ms.length ≤ 40) (h : capstanlaw08_Great.f 60 l0 l1 ms a3 = some false) : Few ms := by
  unfold capstanlaw08_Great.f at h
  have ht : capstanlaw08_Great.j0 60 true l0 l1 ms a3 = some true := by rw [capstanlaw08_Great.j0, if_pos rfl]
  by_cases h0 : (l0.length : Int) > 100
  · rw [if_pos h0, ht] at h; cases h
  · rw [if_neg h0] at h
    by_cases h1 : (l1.length : Int) > 100
    · rw [if_pos h1, ht] at h; cases h
    · rw [if_neg h1, decide_eq_false (by omega), capstanlaw08_Great.j0, if_neg (by decide)] at h
      have h3 : capstanlaw08_Great.l0 (ms.length + 1) ((0 : Nat) : Int) l0 l1 ms a3 = some false := by
        rcases great_l0 (l0 := l0) (l1 := l1) (a3 := a3) hn ms.length 0 (by omega) with h4 | ⟨h4, _⟩
        · have := up (f := fun k => capstanlaw08_Great.l0 k 0 l0 l1 ms a3) (fun k => (capstanlaw08_Great.mono_l k).2 _ _ _ _ _) h4 59 (by omega)
          rw [h] at this; cases this
        · exact h4
      exact fun j hj => great_few0 hn ms.length 0 (by omega) h3 j (Nat.zero_le _) hj
end Go.Proofs.YthmjblmdbcmjcaaDoor.M
