/- Plain arithmetic: a number's bytes, the lowest one first, and back. No program in sight. -/
import Derived.Test.YtjnmomhkiknhdaaWMore
import Derived.Laws.BitsLemmas
namespace Go.Proofs.Ytjnmomhkiknhdaa.M
open Go.RowKit Go.Proofs.YtjnmomhkiknhdaaW.PrintWords Go.Proofs.YtjnmomhkiknhdaaW.PrintMore

theorem wrap64_id {x : Int} (h0 : -9223372036854775808 ≤ x) (h1 : x ≤ 9223372036854775807) : wrap64 x = x := by unfold wrap64; omega
def leb : Nat → Int → List Int
  | 0, _ => []
  | w + 1, x => (x % 256) :: leb w (x / 256)
def val : List Int → Int
  | [] => 0
  | b :: l => b + 256 * val l
theorem leb_length (w : Nat) : ∀ x, (leb w x).length = w := by
  induction w with
  | zero => intro x; rfl
  | succ w ih => intro x; simp [leb, ih]
theorem p256 (w : Nat) : (0 : Int) < 256 ^ w := Int.pow_pos (by decide)
theorem leb_snoc (w : Nat) : ∀ x : Int, leb (w + 1) x = leb w x ++ [x / 256 ^ w % 256] := by
  induction w with
  | zero => intro x; simp [leb]
  | succ w ih =>
    intro x
    rw [leb, ih (x / 256), leb]
    simp only [List.cons_append, Int.pow_succ]
    rw [Int.mul_comm, ← Int.ediv_ediv_of_nonneg (by decide)]
theorem pow8 (i : Nat) : (2 : Int) ^ (8 * i) = 256 ^ i := by rw [Int.pow_mul]; rfl
theorem set_leb (i d : Nat) (x v : Int) : (leb i x ++ List.replicate (d + 1) (0 : Int)).set i v = leb i x ++ [v] ++ List.replicate d 0 := by
  rw [List.set_append_right _ _ (by rw [leb_length]; exact Nat.le_refl _), leb_length, Nat.sub_self, List.replicate_succ, List.set_cons_zero]
  simp
/-- A byte more of what is taken by turns. -/
theorem rd_at {l : List Int} {i : Nat} (h : i < l.length) : rd l (i : Int) = l[i] := by simp [rd, List.getD, List.getElem?_eq_getElem h]
end Go.Proofs.Ytjnmomhkiknhdaa.M
