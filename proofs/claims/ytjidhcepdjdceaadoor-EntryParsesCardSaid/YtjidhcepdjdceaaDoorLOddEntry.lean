/- Rows of values: no one that may not be is in them. -/
import Derived.Test.YtjidhcepdjdceaaDoorE2
import Derived.Test.YtjidhcepdjdceaaDoorLRow
namespace Go.Proofs.YtjidhcepdjdceaaDoor.M
open Go.RowKit Go.Proofs.YtjidhcepdjdceaaDoor.E Go.Proofs.YtjidhcepdjdceaaDoorW.PrintWords Go.Proofs.YtjidhcepdjdceaaDoorW.PrintLast Go.Proofs.YtjidhcepdjdceaaDoorW.PrintMore

theorem odd_f (v : S37) : entry_May_1.f v.f0 v.f1 v.f2 = some (!vmay v) := by
  unfold entry_May_1.f
  rw [may_f, Option.bind_some]; rfl
theorem idxf_l0 (l : List S37) (hl : l.length ≤ 140737488355328) (d : Nat) : ∀ (k i : Nat), i + d = l.length → d < k → ∃ r, slices_IndexFunc_api_Value_api_Value.l0 k l (l.length : Int) i = some r ∧ decide (r ≥ 0) = !(l.drop i).all vmay := by
  induction d with
  | zero =>
    intro k i hi hk
    obtain ⟨k, rfl⟩ : ∃ n, k = n + 1 := ⟨k - 1, by omega⟩
    simp only [slices_IndexFunc_api_Value_api_Value.l0]
    rw [if_neg (by omega)]
    exact ⟨-1, rfl, by rw [List.drop_eq_nil_of_le (by omega)]; rfl⟩
  | succ d ih =>
    intro k i hi hk
    obtain ⟨k, rfl⟩ : ∃ n, k = n + 1 := ⟨k - 1, by omega⟩
    simp only [slices_IndexFunc_api_Value_api_Value.l0]
    rw [if_pos (by omega), if_pos (by omega), if_pos (by omega), rdT_at (by omega), odd_f, Option.bind_some, List.drop_eq_getElem_cons (by omega : i < l.length), List.all_cons]
    by_cases h : vmay l[i] = true
    · rw [h, if_neg (by decide), wrap64_id (by omega) (by omega)]
      exact ih k (i + 1) (by omega) (by omega)
    · rw [Bool.not_eq_true] at h
      rw [h, if_pos (by decide)]
      exact ⟨(i : Int), rfl, by rw [decide_eq_true (by omega)]; rfl⟩
theorem contf_f (l : List S37) (hl : l.length ≤ 140737488355328) (k : Nat) (hk : l.length < k) : slices_ContainsFunc_api_Value_api_Value.f k l = some (!l.all vmay) := by
  obtain ⟨r, h1, h2⟩ := idxf_l0 l hl l.length k 0 (by omega) hk
  unfold slices_ContainsFunc_api_Value_api_Value.f slices_IndexFunc_api_Value_api_Value.f
  rw [show slices_IndexFunc_api_Value_api_Value.l0 k l (l.length : Int) 0 = some r from h1, Option.bind_some, h2]; rfl
end Go.Proofs.YtjidhcepdjdceaaDoor.M
