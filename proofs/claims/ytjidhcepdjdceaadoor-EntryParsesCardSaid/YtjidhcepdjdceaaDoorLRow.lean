/- Rows of values: whether all may be, their bytes one behind the other, and back. -/
import Derived.Test.YtjidhcepdjdceaaDoorE0
import Derived.Test.YtjidhcepdjdceaaDoorLValue4
namespace Go.Proofs.YtjidhcepdjdceaaDoor.M
open Go.RowKit Go.Proofs.YtjidhcepdjdceaaDoor.E Go.Proofs.YtjidhcepdjdceaaDoorW.PrintWords Go.Proofs.YtjidhcepdjdceaaDoorW.PrintLast Go.Proofs.YtjidhcepdjdceaaDoorW.PrintMore

def vmay (v : S37) : Bool := may v.f0 v.f1 v.f2
def vb (v : S37) : List Int := (vbytes v.f0 v.f1 v.f2).1
def vflat (l : List S37) : List Int := l.flatMap vb
/-- The first number is one of 64 bits. -/
def vok (v : S37) : Prop := -9223372036854775808 ≤ v.f1 ∧ v.f1 ≤ 9223372036854775807
theorem vmay_ok {v : S37} (h : vmay v = true) : (vbytes v.f0 v.f1 v.f2).2 = 0 := by
  unfold vmay at h
  unfold vbytes
  rw [if_pos h]
  split <;> rfl
theorem vbytes_pair {v : S37} (h : vmay v = true) : vbytes v.f0 v.f1 v.f2 = (vb v, 0) := Prod.ext rfl (vmay_ok h)
theorem vb_len {v : S37} (h : vmay v = true) : 7 ≤ (vb v).length ∧ (vb v).length ≤ 9 := by
  have l8 := leb_length 8
  have l3 := leb_length 3
  unfold vb
  rcases vbytes_ok (vmay_ok h) with ⟨_, _, e⟩ | ⟨_, _, e⟩ <;> rw [e] <;> simp [l8, l3]
theorem vb_isB (v : S37) : isB (vb v) := vbytes_isB _ _ _
theorem vflat_isB (l : List S37) : isB (vflat l) := by
  intro b hb
  obtain ⟨v, _, hv⟩ := List.mem_flatMap.1 hb
  exact vb_isB v b hv
theorem vflat_cons (v : S37) (l : List S37) : vflat (v :: l) = vb v ++ vflat l := rfl
theorem rdT_at {l : List S37} {i : Nat} (h : i < l.length) : rd_T37 l (i : Int) = l[i] := by simp [rd_T37, List.getD, List.getElem?_eq_getElem h]
/-- d values more. -/
def pread (l : List Int) : Nat → Int → List S37 → List S37 × Int × Int
  | 0, a, acc => (acc, a, 0)
  | d + 1, a, acc => if (vread l a).2.2.2.2 = 0 then pread l d (vread l a).2.2.2.1 (acc ++ [⟨(vread l a).1, (vread l a).2.1, (vread l a).2.2.1⟩]) else ([], 0, (vread l a).2.2.2.2)
theorem pread_put (l : List S37) : (∀ v ∈ l, vmay v = true ∧ vok v) → ∀ (x y : List Int) (acc : List S37), pread (x ++ vflat l ++ y) l.length x.length acc = (acc ++ l, (x.length : Int) + (vflat l).length, 0) := by
  induction l with
  | nil => intro _ x y acc; simp [pread, vflat]
  | cons v l ih =>
    intro h x y acc
    have hv := h v (by simp)
    have e : x ++ vflat (v :: l) ++ y = x ++ vb v ++ (vflat l ++ y) := by simp [vflat_cons, List.append_assoc]
    have hr := vread_put hv.2 (vmay_ok hv.1) x (vflat l ++ y)
    have h2 := ih (fun u hu => h u (by simp [hu])) (x ++ vb v) y (acc ++ [v])
    change vread (x ++ vb v ++ (vflat l ++ y)) x.length = (v.f0, v.f1, v.f2, (x.length : Int) + (vb v).length, 0) at hr
    rw [e, List.length_cons, pread, hr]
    rw [if_pos rfl]
    rw [List.length_append, Int.natCast_add, List.append_assoc (x ++ vb v)] at h2
    rw [h2, vflat_cons, List.length_append, Int.natCast_add, List.append_assoc]
    simp [Int.add_assoc]
/-- What is read has just those bytes, and may be. -/
theorem pread_back {l : List Int} (hb : isB l) (d : Nat) : ∀ (a : Int) (acc : List S37), 0 ≤ a → a ≤ l.length → ((pread l d a acc).2.2 ≠ 0 ∧ (pread l d a acc).1 = [] ∧ (pread l d a acc).2.1 = 0) ∨ (∃ m : List S37, pread l d a acc = (acc ++ m, (pread l d a acc).2.1, 0) ∧ m.length = d ∧ (∀ v ∈ m, vmay v = true) ∧ a ≤ (pread l d a acc).2.1 ∧ (pread l d a acc).2.1 ≤ l.length ∧ vflat m = piece l a ((pread l d a acc).2.1 - a)) := by
  induction d with
  | zero =>
    intro a acc h0 h1
    exact .inr ⟨[], by simp [pread], rfl, by simp, by simp [pread], by simpa [pread] using h1, by simp [pread, piece, vflat]⟩
  | succ d ih =>
    intro a acc h0 h1
    simp only [pread]
    rcases vread_back hb a with ⟨e0, e1, e2, e3, e4⟩ | ⟨e0, hm, f1, f2, f3, f4⟩
    · rw [if_neg e0]
      exact .inl ⟨e0, rfl, rfl⟩
    · rw [if_pos e0]
      rcases ih (vread l a).2.2.2.1 (acc ++ [⟨(vread l a).1, (vread l a).2.1, (vread l a).2.2.1⟩]) (by omega) f2 with h | ⟨m, g1, g2, g3, g4, g5, g6⟩
      · exact .inl h
      · refine .inr ⟨⟨(vread l a).1, (vread l a).2.1, (vread l a).2.2.1⟩ :: m, ?_, by simp [g2], ?_, by omega, g5, ?_⟩
        · rw [List.append_assoc] at g1
          exact g1
        · intro v hv
          rcases List.mem_cons.1 hv with rfl | hv
          · exact hm
          · exact g3 v hv
        · rw [vflat_cons, g6]
          have : vb ⟨(vread l a).1, (vread l a).2.1, (vread l a).2.2.1⟩ = piece l a ((vread l a).2.2.2.1 - a) := by
            unfold vb
            dsimp only
            rw [f4]
          rw [this]
          have hj := piece_join l a ((vread l a).2.2.2.1 - a) ((pread l d (vread l a).2.2.2.1 (acc ++ [⟨(vread l a).1, (vread l a).2.1, (vread l a).2.2.1⟩])).2.1 - (vread l a).2.2.2.1) h0 (by omega) (by omega)
          rw [show a + ((vread l a).2.2.2.1 - a) = (vread l a).2.2.2.1 by omega] at hj
          rw [hj]
          congr 1
          omega
end Go.Proofs.YtjidhcepdjdceaaDoor.M
