/- Layer 1 in plain terms, the reading half: gather, cut, Get, GetSigned, GetRow. -/
import Derived.Test.YtdfjjooejfgglaaDoorY4
import Derived.Test.YtdfjjooejfgglaaDoorLOctet
namespace Go.Proofs.YtdfjjooejfgglaaDoor.M
open Go.RowKit Go.Proofs.YtdfjjooejfgglaaDoor.Y Go.Proofs.YtdfjjooejfgglaaDoorW.PrintWords Go.Proofs.YtdfjjooejfgglaaDoorW.PrintLast Go.Proofs.YtdfjjooejfgglaaDoorW.PrintMore

theorem ofInt_wrap (K : IntKind) (hK : K = .u64 ∨ K = .i64) (z : Int) : BitVec.ofInt K.bits (K.wrap z) = BitVec.ofInt K.bits z := by
  apply BitVec.eq_of_toNat_eq
  rw [BitVec.toNat_ofInt, BitVec.toNat_ofInt]
  rcases hK with rfl | rfl
  · simp [IntKind.wrap, IntKind.bits, IntKind.signed]
  · rw [IntKind.wrap_i64]; simp only [IntKind.bits]; omega
theorem or_wrap (K : IntKind) (hK : K = .u64 ∨ K = .i64) (i : Nat) (hi : i ≤ 7) (x b : Int) (h0 : 0 ≤ x) (h1 : x < 256 ^ i) (hb : 0 ≤ b ∧ b ≤ 255) :
    Go.bits .or K (K.wrap x) (K.wrap (b * 256 ^ i)) = K.wrap (x + 256 ^ i * b) := by
  have h64 : K.bits = 64 := by rcases hK with rfl | rfl <;> rfl
  obtain ⟨a, rfl⟩ := Int.eq_ofNat_of_zero_le h0
  obtain ⟨c, rfl⟩ := Int.eq_ofNat_of_zero_le hb.1
  have hx : a < 2 ^ (8 * i) := by
    have : (a : Int) < 2 ^ (8 * i) := by rw [pow8]; exact h1
    exact_mod_cast this
  have hc : c < 2 ^ 8 := by omega
  have hp : 2 ^ (8 * i) * c + a < 2 ^ 64 := by
    have h2 : 2 ^ (8 * i) * c + a < 2 ^ (8 * i) * (c + 1) := by rw [Nat.mul_add]; omega
    have h3 : 2 ^ (8 * i) * (c + 1) ≤ 2 ^ (8 * i) * 2 ^ 8 := Nat.mul_le_mul_left _ hc
    have h4 : 2 ^ (8 * i) * 2 ^ 8 ≤ 2 ^ 64 := by rw [← Nat.pow_add]; exact Nat.pow_le_pow_right (by decide) (by omega)
    omega
  have e : ((c : Int) * 256 ^ i) = ((2 ^ (8 * i) * c : Nat) : Int) := by rw [← pow8]; simp [Int.mul_comm]
  have e2 : ((a : Int) + 256 ^ i * c) = ((2 ^ (8 * i) * c + a : Nat) : Int) := by rw [← pow8]; simp [Int.add_comm]
  rw [e, e2]
  unfold Go.bits
  simp only [ofInt_wrap K hK, BitVec.ofInt_natCast, BitVec.toNat_or, BitVec.toNat_ofNat]
  rw [h64, Nat.mod_eq_of_lt (by omega : a < 2 ^ 64), Nat.mod_eq_of_lt (by omega : 2 ^ (8 * i) * c < 2 ^ 64), Nat.or_comm, ← Nat.two_pow_add_eq_or_of_lt hx c]
theorem shl_eq (K : IntKind) (hK : K = .u64 ∨ K = .i64) (x : Int) (i : Nat) (h : i ≤ 8) : shl K x (8 * (i : Int)) = K.wrap (x * 256 ^ i) := by
  unfold shl
  rw [show K.bits = 64 by rcases hK with rfl | rfl <;> rfl, show (8 * (i : Int)).toNat = 8 * i by omega, Nat.min_eq_left (by omega), pow8]
theorem gather_u64_l0 (l : List Int) (hl : isB l) (h8 : l.length ≤ 8) (d : Nat) : ∀ (k i : Nat), i + d = l.length → d < k →
    octet_gather_uint64.l0 k (IntKind.u64.wrap (val (l.take i))) l (l.length : Int) i = some (IntKind.u64.wrap (val l)) := by
  induction d with
  | zero =>
    intro k i hi hk
    obtain ⟨k, rfl⟩ : ∃ m, k = m + 1 := ⟨k - 1, by omega⟩
    simp only [octet_gather_uint64.l0]
    rw [if_neg (by omega), List.take_of_length_le (by omega)]
  | succ d ih =>
    intro k i hi hk
    obtain ⟨k, rfl⟩ : ∃ m, k = m + 1 := ⟨k - 1, by omega⟩
    have hb := isB_rd hl (i : Int)
    have hv := val_bound (isB_take i hl)
    rw [List.length_take, Nat.min_eq_left (by omega)] at hv
    simp only [octet_gather_uint64.l0]
    rw [if_pos (by omega), if_pos (by omega), if_pos (by omega), wrap64_id (x := 8 * (i : Int)) (by omega) (by omega), if_pos (by omega), wrap64_id (x := (i : Int) + 1) (by omega) (by omega), shl_eq _ (.inl rfl) _ i (by omega),
      u64_id (x := rd l i) (by omega) (by omega), or_wrap _ (.inl rfl) i (by omega) _ _ hv.1 hv.2 hb]
    have hs := val_snoc (l.take i) (rd l (i : Int))
    rw [List.length_take, Nat.min_eq_left (by omega), ← take_succ_rd (by omega)] at hs
    rw [← hs]
    exact ih k (i + 1) (by omega) (by omega)
theorem pow_le8 {n : Nat} (h : n ≤ 8) : (256 : Int) ^ n ≤ 18446744073709551616 := by
  have h2 : (256 : Nat) ^ n ≤ 256 ^ 8 := Nat.pow_le_pow_right (by decide) h
  have : ((256 ^ n : Nat) : Int) ≤ ((256 ^ 8 : Nat) : Int) := Int.ofNat_le.2 h2
  simpa using this
theorem pow_le7 {n : Nat} (h : n ≤ 7) : (256 : Int) ^ n ≤ 72057594037927936 := by
  have h2 : (256 : Nat) ^ n ≤ 256 ^ 7 := Nat.pow_le_pow_right (by decide) h
  have : ((256 ^ n : Nat) : Int) ≤ ((256 ^ 7 : Nat) : Int) := Int.ofNat_le.2 h2
  simpa using this
theorem gather_u64 (l : List Int) (hl : isB l) (h8 : l.length ≤ 8) (k : Nat) (hk : l.length < k) : octet_gather_uint64.f k l = some (val l) := by
  have h := gather_u64_l0 l hl h8 l.length k 0 (by omega) hk
  have hv := val_bound hl
  have hp := pow_le8 h8
  rw [u64_id hv.1 (by omega)] at h
  unfold octet_gather_uint64.f
  rw [← h]; rfl
/-- A piece of a row: n bytes from a. -/
def piece (l : List Int) (a n : Int) : List Int := (l.drop a.toNat).take n.toNat
theorem piece_length {l : List Int} {a n : Int} (h0 : 0 ≤ a) (hn : 0 ≤ n) (h : a + n ≤ l.length) : (piece l a n).length = n.toNat := by
  unfold piece; rw [List.length_take, List.length_drop]; omega
theorem piece_isB {l : List Int} (a n : Int) (h : isB l) : isB (piece l a n) := isB_take _ (isB_drop _ h)
theorem piece_rd {l : List Int} {a n : Int} {i : Nat} (h0 : 0 ≤ a) (hi : (i : Int) < n) : rd (piece l a n) i = rd l (a + i) := by
  unfold rd piece
  rw [List.getD_eq_getElem?_getD, List.getD_eq_getElem?_getD, List.getElem?_take_of_lt (by omega), List.getElem?_drop]
  congr 2; congr 1; omega
theorem td_piece (l : List Int) (a n : Int) (h0 : 0 ≤ a) (hn : 0 ≤ n) : (l.take (a + n).toNat).drop a.toNat = piece l a n := by
  unfold piece
  rw [List.drop_take]
  congr 1; omega
theorem cut_f (l : List Int) (a n : Int) (h0 : 0 ≤ n) (h1 : n ≤ 9223372036854775807) :
    octet_cut.f l a n = some (if a < 0 ∨ a > (l.length : Int) then ([], 2) else if (l.length : Int) - a < n then ([], 10) else (piece l a n, 0)) := by
  unfold octet_cut.f
  rw [if_pos h0, if_pos h1]
  by_cases h : a < 0
  · rw [if_pos h, if_pos (.inl h)]
  by_cases h2 : a > (l.length : Int)
  · rw [if_neg h, if_pos h2, if_pos (.inr h2)]
  rw [if_neg h, if_neg h2, if_neg (by omega : ¬(a < 0 ∨ a > (l.length : Int)))]
  split
  · rfl
  · rw [td_piece _ _ _ (by omega) h0]

/-- Get: P1.2. -/
def get (l : List Int) (a w : Int) : Int × Int × Int :=
  if w < 1 ∨ w > 8 ∨ a < 0 ∨ a > (l.length : Int) then (0, 0, 2) else if (l.length : Int) - a < w then (0, 0, 10)
  else if val (piece l a w) > 9223372036854775807 then (0, 0, 11) else (val (piece l a w), a + w, 0)
theorem get_f (l : List Int) (hb : isB l) (hl : l.length ≤ 140737488355328) (a w : Int) (k : Nat) (hk : 12 ≤ k) : octet_Get.f k l a w = some (get l a w) := by
  unfold octet_Get.f get
  by_cases h1 : w < 1
  · rw [if_pos h1, if_pos (.inl h1)]
  by_cases h2 : w > 8
  · rw [if_neg h1, if_pos h2, if_pos (.inr (.inl h2))]
  rw [if_neg h1, if_neg h2, cut_f l a w (by omega) (by omega), Option.bind_some]
  by_cases h3 : a < 0 ∨ a > (l.length : Int)
  · rw [if_pos h3, if_pos (.inr (.inr h3)), gather_u64 [] isB_nil (by simp) k (by simp; omega), Option.bind_some]; rfl
  rw [if_neg h3, if_neg (by omega : ¬(w < 1 ∨ w > 8 ∨ a < 0 ∨ a > (l.length : Int)))]
  by_cases h4 : (l.length : Int) - a < w
  · rw [if_pos h4, if_pos h4, gather_u64 [] isB_nil (by simp) k (by simp; omega), Option.bind_some]; rfl
  rw [if_neg h4, if_neg h4]
  have hp := piece_isB a w hb
  have hn := piece_length (l := l) (a := a) (n := w) (by omega) (by omega) (by omega)
  have hv := val_bound hp
  rw [gather_u64 _ hp (by omega) k (by omega), Option.bind_some]
  dsimp only
  split
  · rfl
  · rw [if_pos rfl, i64_wrap, wrap64_id (by omega) (by omega), wrap64_id (by omega) (by omega)]
theorem val_take_drop (l : List Int) (i : Nat) (h : i ≤ l.length) : val l = val (l.take i) + 256 ^ i * val (l.drop i) := by
  conv => lhs; rw [← List.take_append_drop i l]
  rw [val_append, List.length_take, Nat.min_eq_left h]
theorem val_drop_le {l : List Int} (hb : isB l) (i : Nat) (h : i ≤ l.length) : val (l.drop i) ≤ val l := by
  have h1 := val_take_drop l i h
  have h2 := (val_bound (isB_take i hb)).1
  have h3 := (val_bound (isB_drop i hb)).1
  have h4 := p256 i
  have : 1 * val (l.drop i) ≤ 256 ^ i * val (l.drop i) := Int.mul_le_mul_of_nonneg_right (by omega) h3
  omega
theorem val_drop_cons {l : List Int} {i : Nat} (h : i < l.length) : val (l.drop i) = rd l (i : Int) + 256 * val (l.drop (i + 1)) := by
  rw [rd_at h, ← List.getElem_cons_drop h]; rfl
theorem top_byte {s : List Int} (hs : s.length = 8) : val s = val (s.take 7) + 72057594037927936 * rd s 7 := by
  have h := val_take_drop s 7 (by omega)
  have h2 := val_drop_cons (l := s) (i := 7) (by omega)
  rw [show s.drop (7 + 1) = [] from List.drop_of_length_le (by omega)] at h2
  rw [h2] at h
  simpa [val] using h
theorem top_iff {s : List Int} (hb : isB s) (hs : s.length = 8) : val s > 9223372036854775807 ↔ rd s 7 > 127 := by
  have h := top_byte hs
  have h1 := val_bound (isB_take 7 hb)
  rw [List.length_take, hs] at h1
  have h2 := isB_rd hb 7
  have : (256 : Int) ^ (min 7 8) = 72057594037927936 := by decide
  omega
/-- GetSigned: P1.2. -/
def getSigned (l : List Int) (a : Int) : Int × Int × Int :=
  if a < 0 ∨ a > (l.length : Int) then (0, 0, 2) else if (l.length : Int) - a < 8 then (0, 0, 10) else (wrap64 (val (piece l a 8)), a + 8, 0)
theorem val_neg (s : List Int) : val (s.map (255 - ·)) = 256 ^ s.length - 1 - val s := by
  induction s with
  | nil => rfl
  | cons b s ih => simp only [List.map_cons, val, ih, List.length_cons, Int.pow_succ]; omega
theorem isB_neg {s : List Int} (h : isB s) : isB (s.map (255 - ·)) := by
  intro b hb
  obtain ⟨c, hc, rfl⟩ := List.mem_map.1 hb
  have := h c hc
  omega
/-- GetRow: P1.2. -/
def getRow (l : List Int) (a : Int) : List Int × Int × Int :=
  let g := get l a 2
  if g.2.2 = 0 then if (l.length : Int) - g.2.1 < g.1 then ([], 0, 10) else (piece l g.2.1 g.1, g.2.1 + g.1, 0) else ([], 0, g.2.2)
theorem get_ok {l : List Int} (hb : isB l) {a w : Int} (h : (get l a w).2.2 = 0) : (1 ≤ w ∧ w ≤ 8) ∧ 0 ≤ a ∧ a + w ≤ l.length ∧ (get l a w).1 = val (piece l a w) ∧ (get l a w).2.1 = a + w ∧ 0 ≤ val (piece l a w) ∧ val (piece l a w) < 256 ^ w.toNat ∧ val (piece l a w) ≤ 9223372036854775807 := by
  unfold get at h ⊢
  split at h
  · cases h
  split at h
  · cases h
  split at h
  · cases h
  · rename_i h1 h2 h3
    have hn := piece_length (l := l) (a := a) (n := w) (by omega) (by omega) (by omega)
    have hv := val_bound (piece_isB a w hb)
    rw [hn] at hv
    rw [if_neg h1, if_neg h2, if_neg h3]
    exact ⟨by omega, by omega, by omega, rfl, rfl, hv.1, hv.2, by omega⟩
theorem getRow_length (l : List Int) (a : Int) : (getRow l a).1.length ≤ l.length := by
  unfold getRow
  dsimp only
  split
  · split
    · simp
    · unfold piece; simp; omega
  · simp
end Go.Proofs.YtdfjjooejfgglaaDoor.M
