/- Layer 1 in plain terms: what the printed functions of octet come to. -/
import Derived.Test.YtdfjjooejfgglaaDoorP0
import Derived.Test.YtdfjjooejfgglaaDoorLib
namespace Go.Proofs.YtdfjjooejfgglaaDoor.M
open Go.RowKit Go.Proofs.YtdfjjooejfgglaaDoor.P Go.Proofs.YtdfjjooejfgglaaDoorW.PrintWords Go.Proofs.YtdfjjooejfgglaaDoorW.PrintLast Go.Proofs.YtdfjjooejfgglaaDoorW.PrintMore

theorem shr_leb (x : Int) (i : Nat) (h : i ≤ 8) (K : IntKind) (hK : K.bits = 64) : shr K x (8 * (i : Int)) = x / 256 ^ i := by
  unfold shr
  rw [hK, show (8 * (i : Int)).toNat = 8 * i by omega, Nat.min_eq_left (by omega), pow8]
/-- Put: the chapter's P1.1. -/
def put (w n : Int) : List Int × Int := if w < 1 ∨ w > 8 then ([], 2) else if 0 ≤ n ∧ (w = 8 ∨ n < 256 ^ w.toNat) then (leb w.toNat n, 0) else ([], 11)
theorem tdiv256 {n : Int} (h : 0 ≤ n) : Int.tdiv n 256 = n / 256 := Int.tdiv_eq_ediv_of_nonneg h
theorem tmod256 {n : Int} (h : 0 ≤ n) : Int.tmod n 256 = n % 256 := Int.tmod_eq_emod_of_nonneg h
theorem ediv_pow_succ (n : Int) (i : Nat) : n / 256 ^ i / 256 = n / 256 ^ (i + 1) := by rw [Int.pow_succ, Int.ediv_ediv_of_nonneg (Int.le_of_lt (p256 i))]
theorem ediv_pow_le {n : Int} (h0 : 0 ≤ n) (i : Nat) : 0 ≤ n / 256 ^ i ∧ n / 256 ^ i ≤ n :=
  ⟨Int.ediv_nonneg h0 (Int.le_of_lt (p256 i)), Int.ediv_le_self _ h0⟩
theorem leb_neg (w : Nat) : ∀ m : Int, leb w (-(m + 1)) = (leb w m).map (255 - ·) := by
  induction w with
  | zero => intro m; rfl
  | succ w ih =>
    intro m
    simp only [leb, List.map_cons]
    rw [show (-(m + 1)) / 256 = -(m / 256 + 1) by omega, ih, show (-(m + 1)) % 256 = 255 - m % 256 by omega]
/-- Row: P1.1. -/
def row (l : List Int) : List Int × Int := if (l.length : Int) > 65535 then ([], 3) else (leb 2 l.length ++ l, 0)
end Go.Proofs.YtdfjjooejfgglaaDoor.M
