/- Plain arithmetic: a number's bytes, the lowest one first, and back. No program in sight. -/
import Derived.Test.YtdfjjooejfgglaaDoorWMore
import Derived.Laws.BitsLemmas
namespace Go.Proofs.YtdfjjooejfgglaaDoor.M
open Go.RowKit Go.Proofs.YtdfjjooejfgglaaDoorW.PrintWords Go.Proofs.YtdfjjooejfgglaaDoorW.PrintMore

theorem wf_i64 {x : Int} (h : (Lit.int .i64 x).wf = true) : -9223372036854775808 ≤ x ∧ x ≤ 9223372036854775807 := by
  simp [Lit.wf, IntKind.min, IntKind.max, IntKind.bits, IntKind.signed] at h; exact h
theorem wf_u8 {x : Int} (h : (Lit.int .u8 x).wf = true) : 0 ≤ x ∧ x ≤ 255 := by
  simp [Lit.wf, IntKind.min, IntKind.max, IntKind.bits, IntKind.signed] at h; omega
/-- Bytes. -/
def isB (l : List Int) : Prop := ∀ b ∈ l, 0 ≤ b ∧ b ≤ 255
theorem isB_of {l : List Int} (h : ∀ x ∈ l, (Lit.int .u8 x).wf = true) : isB l := fun b hb => wf_u8 (h b hb)
theorem isB_nil : isB [] := fun _ h => by cases h
theorem isB_cons {b : Int} {l : List Int} : isB (b :: l) ↔ (0 ≤ b ∧ b ≤ 255) ∧ isB l := by simp [isB]
theorem isB_append {a b : List Int} : isB (a ++ b) ↔ isB a ∧ isB b := by
  constructor
  · exact fun h => ⟨fun x hx => h x (by simp [hx]), fun x hx => h x (by simp [hx])⟩
  · rintro ⟨h1, h2⟩ x hx
    rcases List.mem_append.1 hx with h | h
    · exact h1 x h
    · exact h2 x h
theorem isB_sub {a b : List Int} (h : isB b) (hs : ∀ x ∈ a, x ∈ b) : isB a := fun x hx => h x (hs x hx)
theorem isB_take {a : List Int} (n : Nat) (h : isB a) : isB (a.take n) := isB_sub h fun _ hx => List.mem_of_mem_take hx
theorem isB_drop {a : List Int} (n : Nat) (h : isB a) : isB (a.drop n) := isB_sub h fun _ hx => List.mem_of_mem_drop hx

theorem wrap64_id {x : Int} (h0 : -9223372036854775808 ≤ x) (h1 : x ≤ 9223372036854775807) : wrap64 x = x := by unfold wrap64; omega
theorem u64_id {x : Int} (h0 : 0 ≤ x) (h1 : x < 18446744073709551616) : IntKind.u64.wrap x = x := by
  simp [IntKind.wrap, IntKind.bits, IntKind.signed]; omega
theorem i64_wrap (x : Int) : IntKind.i64.wrap x = wrap64 x := by rw [IntKind.wrap_i64]; unfold wrap64; rfl

def leb : Nat → Int → List Int
  | 0, _ => []
  | w + 1, x => (x % 256) :: leb w (x / 256)
def val : List Int → Int
  | [] => 0
  | b :: l => b + 256 * val l
theorem leb_length (w : Nat) : ∀ x, (leb w x).length = w := by
  induction w with
  | zero => intro x; rfl
  | succ w ih => intro x; simp [leb, ih]
theorem leb_isB (w : Nat) : ∀ x, isB (leb w x) := by
  induction w with
  | zero => intro x; exact isB_nil
  | succ w ih => intro x; rw [leb, isB_cons]; exact ⟨by omega, ih _⟩
theorem p256 (w : Nat) : (0 : Int) < 256 ^ w := Int.pow_pos (by decide)
theorem val_bound {l : List Int} (h : isB l) : 0 ≤ val l ∧ val l < 256 ^ l.length := by
  induction l with
  | nil => simp [val]
  | cons b l ih =>
    rw [isB_cons] at h
    obtain ⟨h1, h2⟩ := ih h.2
    simp only [val, List.length_cons, Int.pow_succ]
    omega
theorem val_leb (w : Nat) : ∀ x : Int, 0 ≤ x → x < 256 ^ w → val (leb w x) = x := by
  induction w with
  | zero => intro x h0 h1; simp [leb, val] at *; omega
  | succ w ih =>
    intro x h0 h1
    rw [Int.pow_succ] at h1
    rw [leb, val, ih (x / 256) (by omega) (by omega)]
    omega
theorem leb_val {l : List Int} (h : isB l) : leb l.length (val l) = l := by
  induction l with
  | nil => rfl
  | cons b l ih =>
    rw [isB_cons] at h
    have hb := val_bound h.2
    simp only [List.length_cons, leb, val]
    rw [show (b + 256 * val l) % 256 = b by omega, show (b + 256 * val l) / 256 = val l by omega, ih h.2]
theorem leb_inj {w : Nat} {x y : Int} (hx : 0 ≤ x) (hx1 : x < 256 ^ w) (hy : 0 ≤ y) (hy1 : y < 256 ^ w) (h : leb w x = leb w y) : x = y := by
  rw [← val_leb w x hx hx1, h, val_leb w y hy hy1]
theorem leb_snoc (w : Nat) : ∀ x : Int, leb (w + 1) x = leb w x ++ [x / 256 ^ w % 256] := by
  induction w with
  | zero => intro x; simp [leb]
  | succ w ih =>
    intro x
    rw [leb, ih (x / 256), leb]
    simp only [List.cons_append, Int.pow_succ]
    rw [Int.mul_comm, ← Int.ediv_ediv_of_nonneg (by decide)]
theorem val_append (a : List Int) : ∀ b : List Int, val (a ++ b) = val a + 256 ^ a.length * val b := by
  induction a with
  | nil => intro b; simp [val]
  | cons x a ih =>
    intro b
    simp only [List.cons_append, val, ih, List.length_cons, Int.pow_succ]
    rw [Int.mul_add, ← Int.mul_assoc, Int.mul_comm 256 (256 ^ a.length)]
    omega
theorem val_snoc (a : List Int) (b : Int) : val (a ++ [b]) = val a + 256 ^ a.length * b := by rw [val_append]; simp [val]
theorem pow8 (i : Nat) : (2 : Int) ^ (8 * i) = 256 ^ i := by rw [Int.pow_mul]; rfl
theorem set_leb (i d : Nat) (x v : Int) : (leb i x ++ List.replicate (d + 1) (0 : Int)).set i v = leb i x ++ [v] ++ List.replicate d 0 := by
  rw [List.set_append_right _ _ (by rw [leb_length]; exact Nat.le_refl _), leb_length, Nat.sub_self, List.replicate_succ, List.set_cons_zero]
  simp
/-- A byte more of what is taken by turns. -/
theorem rd_at {l : List Int} {i : Nat} (h : i < l.length) : rd l (i : Int) = l[i] := by simp [rd, List.getD, List.getElem?_eq_getElem h]
theorem take_succ_rd {l : List Int} {i : Nat} (h : i < l.length) : l.take (i + 1) = l.take i ++ [rd l (i : Int)] := by rw [rd_at h, List.take_succ_eq_append_getElem h]
theorem isB_rd {l : List Int} (hb : isB l) (i : Int) : 0 ≤ rd l i ∧ rd l i ≤ 255 := by
  unfold rd
  rw [List.getD_eq_getElem?_getD]
  rcases Nat.lt_or_ge i.toNat l.length with h | h
  · rw [List.getElem?_eq_getElem h]; exact hb _ (List.getElem_mem h)
  · rw [List.getElem?_eq_none h]; simp
end Go.Proofs.YtdfjjooejfgglaaDoor.M
