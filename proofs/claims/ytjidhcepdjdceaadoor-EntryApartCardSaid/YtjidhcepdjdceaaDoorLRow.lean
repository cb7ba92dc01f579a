/- Rows of values: whether all may be, their bytes one behind the other, and back. -/
import Derived.Test.YtjidhcepdjdceaaDoorG0
import Derived.Test.YtjidhcepdjdceaaDoorLValue4
namespace Go.Proofs.YtjidhcepdjdceaaDoor.M
open Go.RowKit Go.Proofs.YtjidhcepdjdceaaDoor.G Go.Proofs.YtjidhcepdjdceaaDoorW.PrintWords Go.Proofs.YtjidhcepdjdceaaDoorW.PrintLast Go.Proofs.YtjidhcepdjdceaaDoorW.PrintMore

def vmay (v : S37) : Bool := may v.f0 v.f1 v.f2
def vb (v : S37) : List Int := (vbytes v.f0 v.f1 v.f2).1
def vflat (l : List S37) : List Int := l.flatMap vb
/-- The first number is one of 64 bits. -/
def vok (v : S37) : Prop := -9223372036854775808 ≤ v.f1 ∧ v.f1 ≤ 9223372036854775807
theorem vmay_ok {v : S37} (h : vmay v = true) : (vbytes v.f0 v.f1 v.f2).2 = 0 := by
  unfold vmay at h
  unfold vbytes
  rw [if_pos h]
  split <;> rfl
theorem vbytes_pair {v : S37} (h : vmay v = true) : vbytes v.f0 v.f1 v.f2 = (vb v, 0) := Prod.ext rfl (vmay_ok h)
theorem vb_len {v : S37} (h : vmay v = true) : 7 ≤ (vb v).length ∧ (vb v).length ≤ 9 := by
  have l8 := leb_length 8
  have l3 := leb_length 3
  unfold vb
  rcases vbytes_ok (vmay_ok h) with ⟨_, _, e⟩ | ⟨_, _, e⟩ <;> rw [e] <;> simp [l8, l3]
theorem vb_isB (v : S37) : isB (vb v) := vbytes_isB _ _ _
theorem vflat_isB (l : List S37) : isB (vflat l) := by
  intro b hb
  obtain ⟨v, _, hv⟩ := List.mem_flatMap.1 hb
  exact vb_isB v b hv
theorem vflat_cons (v : S37) (l : List S37) : vflat (v :: l) = vb v ++ vflat l := rfl
theorem vflat_len {l : List S37} (h : ∀ v ∈ l, vmay v = true) : 7 * l.length ≤ (vflat l).length ∧ (vflat l).length ≤ 9 * l.length := by
  induction l with
  | nil => simp [vflat]
  | cons v l ih =>
    have h1 := vb_len (h v (by simp))
    have h2 := ih (fun u hu => h u (by simp [hu]))
    rw [vflat_cons, List.length_append, List.length_cons]
    omega
theorem rdT_at {l : List S37} {i : Nat} (h : i < l.length) : rd_T37 l (i : Int) = l[i] := by simp [rd_T37, List.getD, List.getElem?_eq_getElem h]
/-- d values more. -/
def pread (l : List Int) : Nat → Int → List S37 → List S37 × Int × Int
  | 0, a, acc => (acc, a, 0)
  | d + 1, a, acc => if (vread l a).2.2.2.2 = 0 then pread l d (vread l a).2.2.2.1 (acc ++ [⟨(vread l a).1, (vread l a).2.1, (vread l a).2.2.1⟩]) else ([], 0, (vread l a).2.2.2.2)
theorem pread_put (l : List S37) : (∀ v ∈ l, vmay v = true ∧ vok v) → ∀ (x y : List Int) (acc : List S37), pread (x ++ vflat l ++ y) l.length x.length acc = (acc ++ l, (x.length : Int) + (vflat l).length, 0) := by
  induction l with
  | nil => intro _ x y acc; simp [pread, vflat]
  | cons v l ih =>
    intro h x y acc
    have hv := h v (by simp)
    have e : x ++ vflat (v :: l) ++ y = x ++ vb v ++ (vflat l ++ y) := by simp [vflat_cons, List.append_assoc]
    have hr := vread_put hv.2 (vmay_ok hv.1) x (vflat l ++ y)
    have h2 := ih (fun u hu => h u (by simp [hu])) (x ++ vb v) y (acc ++ [v])
    change vread (x ++ vb v ++ (vflat l ++ y)) x.length = (v.f0, v.f1, v.f2, (x.length : Int) + (vb v).length, 0) at hr
    rw [e, List.length_cons, pread, hr]
    rw [if_pos rfl]
    rw [List.length_append, Int.natCast_add, List.append_assoc (x ++ vb v)] at h2
    rw [h2, vflat_cons, List.length_append, Int.natCast_add, List.append_assoc]
    simp [Int.add_assoc]
end Go.Proofs.YtjidhcepdjdceaaDoor.M
