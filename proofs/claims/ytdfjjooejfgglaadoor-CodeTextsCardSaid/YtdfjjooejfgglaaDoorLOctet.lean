/- Layer 1 in plain terms: what the printed functions of octet come to. -/
import Derived.Test.YtdfjjooejfgglaaDoorY3
import Derived.Test.YtdfjjooejfgglaaDoorY4
import Derived.Test.YtdfjjooejfgglaaDoorLib
namespace Go.Proofs.YtdfjjooejfgglaaDoor.M
open Go.RowKit Go.Proofs.YtdfjjooejfgglaaDoor.Y Go.Proofs.YtdfjjooejfgglaaDoorW.PrintWords Go.Proofs.YtdfjjooejfgglaaDoorW.PrintLast Go.Proofs.YtdfjjooejfgglaaDoorW.PrintMore

theorem shr_leb (x : Int) (i : Nat) (h : i ≤ 8) (K : IntKind) (hK : K.bits = 64) : shr K x (8 * (i : Int)) = x / 256 ^ i := by
  unfold shr
  rw [hK, show (8 * (i : Int)).toNat = 8 * i by omega, Nat.min_eq_left (by omega), pow8]
theorem spread_i64_l0 (x : Int) (d : Nat) : ∀ (k i : Nat), i + d ≤ 8 → d < k → octet_spread_int64.l0 k x (leb i x ++ List.replicate d 0) ((i : Int) + d) i = some (leb (i + d) x) := by
  induction d with
  | zero =>
    intro k i hi hk
    obtain ⟨k, rfl⟩ : ∃ m, k = m + 1 := ⟨k - 1, by omega⟩
    simp only [octet_spread_int64.l0]
    rw [if_neg (by omega)]
    simp
  | succ d ih =>
    intro k i hi hk
    obtain ⟨k, rfl⟩ : ∃ m, k = m + 1 := ⟨k - 1, by omega⟩
    have hl : (leb i x ++ List.replicate (d + 1) (0 : Int)).length = i + (d + 1) := by rw [List.length_append, leb_length, List.length_replicate]
    simp only [octet_spread_int64.l0]
    rw [if_pos (by omega), wrap64_id (x := 8 * (i : Int)) (by omega) (by omega), if_pos (by omega), if_pos (by omega), if_pos (by rw [hl]; omega), shr_leb x i (by omega) .i64 rfl, show ((i : Int)).toNat = i by omega, set_leb, ← leb_snoc,
      wrap64_id (x := (i : Int) + 1) (by omega) (by omega)]
    have := ih k (i + 1) (by omega) (by omega)
    rw [show ((i : Int) + 1) = ((i + 1 : Nat) : Int) by omega, show ((i : Int) + (d + 1 : Nat)) = ((i + 1 : Nat) : Int) + d by omega, this]
    congr 2; omega
theorem spread_i64 (x : Int) (w : Nat) (hw : w ≤ 8) (k : Nat) (hk : w < k) : octet_spread_int64.f k x w = some (leb w x) := by
  have := spread_i64_l0 x w k 0 (by omega) hk
  simp only [octet_spread_int64.f]
  rw [if_pos (by omega), if_pos (by omega), Option.bind_some, List.length_replicate, show ((w : Int)).toNat = w by omega]
  simpa [leb] using this
/-- Put: the chapter's P1.1. -/
def put (w n : Int) : List Int × Int := if w < 1 ∨ w > 8 then ([], 2) else if 0 ≤ n ∧ (w = 8 ∨ n < 256 ^ w.toNat) then (leb w.toNat n, 0) else ([], 11)
theorem fits_f {w : Nat} (h1 : 1 ≤ w) (h8 : w ≤ 8) (n : Int) : octet_fits.f w n = some (decide (0 ≤ n ∧ ((w : Int) = 8 ∨ n < 256 ^ w))) := by
  unfold octet_fits.f
  by_cases h0 : n ≥ 0
  · rw [if_pos h0]
    by_cases hw : (w : Int) = 8
    · rw [if_pos hw]; simp; omega
    · rw [if_neg hw, wrap64_id (x := 8 * (w : Int)) (by omega) (by omega), if_pos (by omega), shr_leb n w h8 .i64 rfl]
      congr 1
      have hp := p256 w
      rw [Bool.eq_iff_iff]
      simp only [beq_iff_eq, decide_eq_true_eq]
      constructor
      · intro h
        refine ⟨h0, .inr ?_⟩
        rcases Int.lt_or_le n (256 ^ w) with h2 | h2
        · exact h2
        · have := Int.le_ediv_of_mul_le hp (show 1 * (256 : Int) ^ w ≤ n by omega)
          omega
      · rintro ⟨_, h | h⟩
        · omega
        · exact Int.ediv_eq_zero_of_lt h0 h
  · rw [if_neg h0]; simp; omega
theorem put_f (w n : Int) (k : Nat) (hk : 12 ≤ k) : octet_Put.f k w n = some (put w n) := by
  obtain ⟨k, rfl⟩ : ∃ m, k = m + 1 := ⟨k - 1, by omega⟩
  unfold octet_Put.f put
  by_cases h1 : w < 1
  · rw [if_pos h1, if_pos (.inl h1)]; simp [octet_Put.j0]
  by_cases h2 : w > 8
  · rw [if_neg h1, if_pos (.inr h2)]; simp [octet_Put.j0, h2]
  rw [if_neg h1, if_neg (by omega)]
  obtain ⟨v, rfl⟩ := Int.eq_ofNat_of_zero_le (show 0 ≤ w by omega)
  simp only [octet_Put.j0]
  rw [if_neg (by simp; omega), fits_f (by omega) (by omega), Option.bind_some, Int.toNat_natCast]
  by_cases h3 : 0 ≤ n ∧ ((v : Int) = 8 ∨ n < 256 ^ v)
  · rw [if_pos (decide_eq_true h3), if_pos h3, spread_i64 n v (by omega) k (by omega), Option.bind_some]
  · rw [if_neg (by rw [decide_eq_true_eq]; exact h3), if_neg h3]
theorem tdiv256 {n : Int} (h : 0 ≤ n) : Int.tdiv n 256 = n / 256 := Int.tdiv_eq_ediv_of_nonneg h
theorem tmod256 {n : Int} (h : 0 ≤ n) : Int.tmod n 256 = n % 256 := Int.tmod_eq_emod_of_nonneg h
theorem ediv_pow_succ (n : Int) (i : Nat) : n / 256 ^ i / 256 = n / 256 ^ (i + 1) := by rw [Int.pow_succ, Int.ediv_ediv_of_nonneg (Int.le_of_lt (p256 i))]
theorem ediv_pow_le {n : Int} (h0 : 0 ≤ n) (i : Nat) : 0 ≤ n / 256 ^ i ∧ n / 256 ^ i ≤ n :=
  ⟨Int.ediv_nonneg h0 (Int.le_of_lt (p256 i)), Int.ediv_le_self _ h0⟩
theorem leb_neg (w : Nat) : ∀ m : Int, leb w (-(m + 1)) = (leb w m).map (255 - ·) := by
  induction w with
  | zero => intro m; rfl
  | succ w ih =>
    intro m
    simp only [leb, List.map_cons]
    rw [show (-(m + 1)) / 256 = -(m / 256 + 1) by omega, ih, show (-(m + 1)) % 256 = 255 - m % 256 by omega]
/-- Row: P1.1. -/
def row (l : List Int) : List Int × Int := if (l.length : Int) > 65535 then ([], 3) else (leb 2 l.length ++ l, 0)
end Go.Proofs.YtdfjjooejfgglaaDoor.M
