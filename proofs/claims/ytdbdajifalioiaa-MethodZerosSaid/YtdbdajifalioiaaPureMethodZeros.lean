/- MethodZeros: the zero values, behind arguments that fit, are of the kinds, in order. -/
import Derived.Test.YtdbdajifalioiaaR5
import Derived.Test.YtdbdajifalioiaaR9
import Derived.Test.YtdbdajifalioiaaR10
import Derived.Test.YtdbdajifalioiaaLMethod4
namespace Go.Proofs.Ytdbdajifalioiaa.Pure
open Go.RowKit Go.Proofs.Ytdbdajifalioiaa.R Go.Proofs.Ytdbdajifalioiaa.M Go.Proofs.YtdbdajifalioiaaW.PrintWords Go.Proofs.YtdbdajifalioiaaW.PrintLast Go.Proofs.YtdbdajifalioiaaW.PrintMore

theorem rdv_at {l : List S47} {i : Nat} (h : i < l.length) : rd_T47 l (i : Int) = l[i] := by simp [rd_T47, List.getD, List.getElem?_eq_getElem h]
theorem inside_zero {k : Int} (h : kd k = true) : inside k 0 0 = true := by
  have := kd_bound h
  rcases (by omega : k = 1 ∨ k = 2 ∨ k = 3) with rfl | rfl | rfl <;> decide
theorem fitl_zero (a : List Int) (h : a.all kd = true) (d : Nat) : ∀ (i : Nat), i + d = a.length → fitl (a.map fun k => ⟨k, 0, 0⟩) a d i = true := by
  induction d with
  | zero => intro i _; rfl
  | succ d ih =>
    intro i hi
    have hk := List.all_eq_true.1 h a[i] (List.getElem_mem (by omega))
    rw [fitl, rdv_at (by simp; omega), rd_at (by omega), List.getElem_map, decide_eq_true rfl, inside_zero hk, Bool.true_and, Bool.true_and, show ((i : Int) + 1) = ((i + 1 : Nat) : Int) by omega]
    exact ih (i + 1) (by omega)
theorem fitl_kinds (x : List S47) (a : List Int) (hl : x.length = a.length) (d : Nat) : ∀ (i : Nat), i + d = a.length → fitl x a d i = true → (x.drop i).map (·.f0) = a.drop i := by
  induction d with
  | zero =>
    intro i hi _
    rw [List.drop_eq_nil_of_le (by omega), List.drop_eq_nil_of_le (by omega)]; rfl
  | succ d ih =>
    intro i hi h
    rw [fitl, rdv_at (by omega), rd_at (by omega), Bool.and_eq_true, Bool.and_eq_true, decide_eq_true_eq, show ((i : Int) + 1) = ((i + 1 : Nat) : Int) by omega] at h
    rw [List.drop_eq_getElem_cons (by omega : i < x.length), List.drop_eq_getElem_cons (by omega : i < a.length), List.map_cons, h.1, ih (i + 1) (by omega) h.2.2]
theorem mz_l0 (x : List S47) (z : List S47) (a b : List Int) (r : Int) (q : Bool) (fu sk hp : Int) (code : List S114) (d : Nat) (R : Option Bool) (kk : Nat) (hR : ∀ y, y = a.map (fun k => (⟨k, 0, 0⟩ : S47)) → ((method_Fits.f kk a b r q fu sk hp code y).bind fun t271 => (if t271 = true then (if (y.length : Int) > 0 then (if 1 ≤ (y.length : Int) then ((method_Fits.f kk a b r q fu sk hp code (y.drop 1)).bind fun t276 => (if t276 = true then (none) else ((method_Fits.f kk a b r q fu sk hp code x).bind fun t277 => (if t277 = true then (capstanlaw07_MethodZeros.l1 kk z x ([] : List Int) 0 a b r q fu sk hp code) else (capstanlaw07_MethodZeros.l3 kk z y ([] : List Int) 0 a b r q fu sk hp code))))) else (none)) else ((method_Fits.f kk a b r q fu sk hp code x).bind fun t306 => (if t306 = true then (capstanlaw07_MethodZeros.l5 kk z x ([] : List Int) 0 a b r q fu sk hp code) else (capstanlaw07_MethodZeros.l7 kk z y ([] : List Int) 0 a b r q fu sk hp code)))) else (none))) = R) :
    ∀ (k i : Nat) (acc : List S47), k = kk + d → i + d = a.length → a.length ≤ 100 → acc = (a.take i).map (fun k => ⟨k, 0, 0⟩) → capstanlaw07_MethodZeros.l0 (k + 1) x z acc i a b r q fu sk hp code = R := by
  induction d with
  | zero =>
    intro k i acc hk hi ha hacc
    subst hk
    simp only [capstanlaw07_MethodZeros.l0]
    rw [if_neg (by omega)]
    exact hR acc (by rw [hacc, List.take_of_length_le (by omega)])
  | succ d ih =>
    intro k i acc hk hi ha hacc
    obtain ⟨k, rfl⟩ : ∃ n, k = n + 1 := ⟨k - 1, by omega⟩
    have hal : acc.length ≤ 100 := by rw [hacc]; simp; omega
    conv => lhs; unfold capstanlaw07_MethodZeros.l0
    rw [if_pos (by omega), if_pos (by omega), if_pos (by omega), wrap64_id (x := (i : Int) + 1) (by omega) (by omega), show ((i : Int) + 1) = ((i + 1 : Nat) : Int) by omega]
    exact ih k (i + 1) _ (by omega) (by omega) ha (by rw [take_succ_rd (by omega), List.map_append, ← hacc]; rfl)
theorem mz_l2 (z : List S47) (hz : z.length ≤ 100) (h0 : ∀ v ∈ z, v.f1 = 0 ∧ v.f2 = 0) (a b : List Int) (r : Int) (q : Bool) (fu sk hp : Int) (code : List S114) (ha : a.length ≤ 100) (hb : b.length ≤ 100) (acc0 : List Int) (he : acc0 ++ z.map (·.f0) = a ++ b) (hl : a.length + b.length ≤ 16) (d : Nat) : ∀ (k i : Nat) (acc : List Int), i + d = z.length → d + 300 ≤ k → acc = acc0 ++ (z.take i).map (·.f0) → capstanlaw07_MethodZeros.l2 k z acc i a b r q fu sk hp code = some true := by
  have hlen : acc0.length + z.length = a.length + b.length := by have := congrArg List.length he; simpa using this
  induction d with
  | zero =>
    intro k i acc hi hk hacc
    obtain ⟨k, rfl⟩ : ∃ n, k = n + 1 := ⟨k - 1, by omega⟩
    rw [List.take_of_length_le (by omega), he] at hacc
    subst hacc
    simp only [capstanlaw07_MethodZeros.l2]
    rw [if_neg (by omega), mKinds_f _ _ _ _ _ _ _ _ (by omega) (by omega) _ (by omega), Option.bind_some, sameK_f _ _ (by simp; omega) _ (by simp; omega), Option.bind_some, decide_eq_true rfl, if_pos rfl, decide_eq_true (by simp; omega)]
  | succ d ih =>
    intro k i acc hi hk hacc
    obtain ⟨k, rfl⟩ : ∃ n, k = n + 1 := ⟨k - 1, by omega⟩
    have hv := h0 z[i] (List.getElem_mem (by omega))
    have hal : acc.length ≤ 200 := by rw [hacc]; simp; omega
    simp only [capstanlaw07_MethodZeros.l2]
    rw [if_pos (by omega), if_pos (by omega), if_pos (by omega), rdv_at (by omega), if_pos hv.1, if_pos hv.2, wrap64_id (x := (i : Int) + 1) (by omega) (by omega), show ((i : Int) + 1) = ((i + 1 : Nat) : Int) by omega]
    exact ih k (i + 1) _ (by omega) (by omega) (by rw [hacc, List.take_succ_eq_append_getElem (by omega), List.map_append, ← List.append_assoc]; rfl)
theorem mz_l1 (z : List S47) (hz : z.length ≤ 100) (h0 : ∀ v ∈ z, v.f1 = 0 ∧ v.f2 = 0) (x : List S47) (hx : x.length ≤ 100) (a b : List Int) (r : Int) (q : Bool) (fu sk hp : Int) (code : List S114) (ha : a.length ≤ 100) (hb : b.length ≤ 100) (he : x.map (·.f0) ++ z.map (·.f0) = a ++ b) (hl : a.length + b.length ≤ 16) (d : Nat) : ∀ (k i : Nat) (acc : List Int), i + d = x.length → d + 500 ≤ k → acc = (x.take i).map (·.f0) → capstanlaw07_MethodZeros.l1 k z x acc i a b r q fu sk hp code = some true := by
  induction d with
  | zero =>
    intro k i acc hi hk hacc
    obtain ⟨k, rfl⟩ : ∃ n, k = n + 1 := ⟨k - 1, by omega⟩
    rw [List.take_of_length_le (by omega)] at hacc
    simp only [capstanlaw07_MethodZeros.l1]
    rw [if_neg (by omega)]
    exact mz_l2 z hz h0 a b r q fu sk hp code ha hb acc (by rw [hacc, he]) hl z.length k 0 acc (by omega) (by omega) (by simp)
  | succ d ih =>
    intro k i acc hi hk hacc
    obtain ⟨k, rfl⟩ : ∃ n, k = n + 1 := ⟨k - 1, by omega⟩
    have hal : acc.length ≤ 100 := by rw [hacc]; simp; omega
    simp only [capstanlaw07_MethodZeros.l1]
    rw [if_pos (by omega), if_pos (by omega), if_pos (by omega), rdv_at (by omega), wrap64_id (x := (i : Int) + 1) (by omega) (by omega), show ((i : Int) + 1) = ((i + 1 : Nat) : Int) by omega]
    exact ih k (i + 1) _ (by omega) (by omega) (by rw [hacc, List.take_succ_eq_append_getElem (by omega), List.map_append]; rfl)
theorem mz_l4 (z : List S47) (hz : z.length ≤ 100) (h0 : ∀ v ∈ z, v.f1 = 0 ∧ v.f2 = 0) (a b : List Int) (r : Int) (q : Bool) (fu sk hp : Int) (code : List S114) (ha : a.length ≤ 100) (hb : b.length ≤ 100) (acc0 : List Int) (he : acc0 ++ z.map (·.f0) = a ++ b) (hl : a.length + b.length ≤ 16) (d : Nat) : ∀ (k i : Nat) (acc : List Int), i + d = z.length → d + 300 ≤ k → acc = acc0 ++ (z.take i).map (·.f0) → capstanlaw07_MethodZeros.l4 k z acc i a b r q fu sk hp code = some true := by
  have hlen : acc0.length + z.length = a.length + b.length := by have := congrArg List.length he; simpa using this
  induction d with
  | zero =>
    intro k i acc hi hk hacc
    obtain ⟨k, rfl⟩ : ∃ n, k = n + 1 := ⟨k - 1, by omega⟩
    rw [List.take_of_length_le (by omega), he] at hacc
    subst hacc
    simp only [capstanlaw07_MethodZeros.l4]
    rw [if_neg (by omega), mKinds_f _ _ _ _ _ _ _ _ (by omega) (by omega) _ (by omega), Option.bind_some, sameK_f _ _ (by simp; omega) _ (by simp; omega), Option.bind_some, decide_eq_true rfl, if_pos rfl, decide_eq_true (by simp; omega)]
  | succ d ih =>
    intro k i acc hi hk hacc
    obtain ⟨k, rfl⟩ : ∃ n, k = n + 1 := ⟨k - 1, by omega⟩
    have hv := h0 z[i] (List.getElem_mem (by omega))
    have hal : acc.length ≤ 200 := by rw [hacc]; simp; omega
    simp only [capstanlaw07_MethodZeros.l4]
    rw [if_pos (by omega), if_pos (by omega), if_pos (by omega), rdv_at (by omega), if_pos hv.1, if_pos hv.2, wrap64_id (x := (i : Int) + 1) (by omega) (by omega), show ((i : Int) + 1) = ((i + 1 : Nat) : Int) by omega]
    exact ih k (i + 1) _ (by omega) (by omega) (by rw [hacc, List.take_succ_eq_append_getElem (by omega), List.map_append, ← List.append_assoc]; rfl)
theorem mz_l3 (z : List S47) (hz : z.length ≤ 100) (h0 : ∀ v ∈ z, v.f1 = 0 ∧ v.f2 = 0) (x : List S47) (hx : x.length ≤ 100) (a b : List Int) (r : Int) (q : Bool) (fu sk hp : Int) (code : List S114) (ha : a.length ≤ 100) (hb : b.length ≤ 100) (he : x.map (·.f0) ++ z.map (·.f0) = a ++ b) (hl : a.length + b.length ≤ 16) (d : Nat) : ∀ (k i : Nat) (acc : List Int), i + d = x.length → d + 500 ≤ k → acc = (x.take i).map (·.f0) → capstanlaw07_MethodZeros.l3 k z x acc i a b r q fu sk hp code = some true := by
  induction d with
  | zero =>
    intro k i acc hi hk hacc
    obtain ⟨k, rfl⟩ : ∃ n, k = n + 1 := ⟨k - 1, by omega⟩
    rw [List.take_of_length_le (by omega)] at hacc
    simp only [capstanlaw07_MethodZeros.l3]
    rw [if_neg (by omega)]
    exact mz_l4 z hz h0 a b r q fu sk hp code ha hb acc (by rw [hacc, he]) hl z.length k 0 acc (by omega) (by omega) (by simp)
  | succ d ih =>
    intro k i acc hi hk hacc
    obtain ⟨k, rfl⟩ : ∃ n, k = n + 1 := ⟨k - 1, by omega⟩
    have hal : acc.length ≤ 100 := by rw [hacc]; simp; omega
    simp only [capstanlaw07_MethodZeros.l3]
    rw [if_pos (by omega), if_pos (by omega), if_pos (by omega), rdv_at (by omega), wrap64_id (x := (i : Int) + 1) (by omega) (by omega), show ((i : Int) + 1) = ((i + 1 : Nat) : Int) by omega]
    exact ih k (i + 1) _ (by omega) (by omega) (by rw [hacc, List.take_succ_eq_append_getElem (by omega), List.map_append]; rfl)
theorem mz_l6 (z : List S47) (hz : z.length ≤ 100) (h0 : ∀ v ∈ z, v.f1 = 0 ∧ v.f2 = 0) (a b : List Int) (r : Int) (q : Bool) (fu sk hp : Int) (code : List S114) (ha : a.length ≤ 100) (hb : b.length ≤ 100) (acc0 : List Int) (he : acc0 ++ z.map (·.f0) = a ++ b) (hl : a.length + b.length ≤ 16) (d : Nat) : ∀ (k i : Nat) (acc : List Int), i + d = z.length → d + 300 ≤ k → acc = acc0 ++ (z.take i).map (·.f0) → capstanlaw07_MethodZeros.l6 k z acc i a b r q fu sk hp code = some true := by
  have hlen : acc0.length + z.length = a.length + b.length := by have := congrArg List.length he; simpa using this
  induction d with
  | zero =>
    intro k i acc hi hk hacc
    obtain ⟨k, rfl⟩ : ∃ n, k = n + 1 := ⟨k - 1, by omega⟩
    rw [List.take_of_length_le (by omega), he] at hacc
    subst hacc
    simp only [capstanlaw07_MethodZeros.l6]
    rw [if_neg (by omega), mKinds_f _ _ _ _ _ _ _ _ (by omega) (by omega) _ (by omega), Option.bind_some, sameK_f _ _ (by simp; omega) _ (by simp; omega), Option.bind_some, decide_eq_true rfl, if_pos rfl, decide_eq_true (by simp; omega)]
  | succ d ih =>
    intro k i acc hi hk hacc
    obtain ⟨k, rfl⟩ : ∃ n, k = n + 1 := ⟨k - 1, by omega⟩
    have hv := h0 z[i] (List.getElem_mem (by omega))
    have hal : acc.length ≤ 200 := by rw [hacc]; simp; omega
    simp only [capstanlaw07_MethodZeros.l6]
    rw [if_pos (by omega), if_pos (by omega), if_pos (by omega), rdv_at (by omega), if_pos hv.1, if_pos hv.2, wrap64_id (x := (i : Int) + 1) (by omega) (by omega), show ((i : Int) + 1) = ((i + 1 : Nat) : Int) by omega]
    exact ih k (i + 1) _ (by omega) (by omega) (by rw [hacc, List.take_succ_eq_append_getElem (by omega), List.map_append, ← List.append_assoc]; rfl)
theorem mz_l5 (z : List S47) (hz : z.length ≤ 100) (h0 : ∀ v ∈ z, v.f1 = 0 ∧ v.f2 = 0) (x : List S47) (hx : x.length ≤ 100) (a b : List Int) (r : Int) (q : Bool) (fu sk hp : Int) (code : List S114) (ha : a.length ≤ 100) (hb : b.length ≤ 100) (he : x.map (·.f0) ++ z.map (·.f0) = a ++ b) (hl : a.length + b.length ≤ 16) (d : Nat) : ∀ (k i : Nat) (acc : List Int), i + d = x.length → d + 500 ≤ k → acc = (x.take i).map (·.f0) → capstanlaw07_MethodZeros.l5 k z x acc i a b r q fu sk hp code = some true := by
  induction d with
  | zero =>
    intro k i acc hi hk hacc
    obtain ⟨k, rfl⟩ : ∃ n, k = n + 1 := ⟨k - 1, by omega⟩
    rw [List.take_of_length_le (by omega)] at hacc
    simp only [capstanlaw07_MethodZeros.l5]
    rw [if_neg (by omega)]
    exact mz_l6 z hz h0 a b r q fu sk hp code ha hb acc (by rw [hacc, he]) hl z.length k 0 acc (by omega) (by omega) (by simp)
  | succ d ih =>
    intro k i acc hi hk hacc
    obtain ⟨k, rfl⟩ : ∃ n, k = n + 1 := ⟨k - 1, by omega⟩
    have hal : acc.length ≤ 100 := by rw [hacc]; simp; omega
    simp only [capstanlaw07_MethodZeros.l5]
    rw [if_pos (by omega), if_pos (by omega), if_pos (by omega), rdv_at (by omega), wrap64_id (x := (i : Int) + 1) (by omega) (by omega), show ((i : Int) + 1) = ((i + 1 : Nat) : Int) by omega]
    exact ih k (i + 1) _ (by omega) (by omega) (by rw [hacc, List.take_succ_eq_append_getElem (by omega), List.map_append]; rfl)
theorem mz_l8 (z : List S47) (hz : z.length ≤ 100) (h0 : ∀ v ∈ z, v.f1 = 0 ∧ v.f2 = 0) (a b : List Int) (r : Int) (q : Bool) (fu sk hp : Int) (code : List S114) (ha : a.length ≤ 100) (hb : b.length ≤ 100) (acc0 : List Int) (he : acc0 ++ z.map (·.f0) = a ++ b) (hl : a.length + b.length ≤ 16) (d : Nat) : ∀ (k i : Nat) (acc : List Int), i + d = z.length → d + 300 ≤ k → acc = acc0 ++ (z.take i).map (·.f0) → capstanlaw07_MethodZeros.l8 k z acc i a b r q fu sk hp code = some true := by
  have hlen : acc0.length + z.length = a.length + b.length := by have := congrArg List.length he; simpa using this
  induction d with
  | zero =>
    intro k i acc hi hk hacc
    obtain ⟨k, rfl⟩ : ∃ n, k = n + 1 := ⟨k - 1, by omega⟩
    rw [List.take_of_length_le (by omega), he] at hacc
    subst hacc
    simp only [capstanlaw07_MethodZeros.l8]
    rw [if_neg (by omega), mKinds_f _ _ _ _ _ _ _ _ (by omega) (by omega) _ (by omega), Option.bind_some, sameK_f _ _ (by simp; omega) _ (by simp; omega), Option.bind_some, decide_eq_true rfl, if_pos rfl, decide_eq_true (by simp; omega)]
  | succ d ih =>
    intro k i acc hi hk hacc
    obtain ⟨k, rfl⟩ : ∃ n, k = n + 1 := ⟨k - 1, by omega⟩
    have hv := h0 z[i] (List.getElem_mem (by omega))
    have hal : acc.length ≤ 200 := by rw [hacc]; simp; omega
    simp only [capstanlaw07_MethodZeros.l8]
    rw [if_pos (by omega), if_pos (by omega), if_pos (by omega), rdv_at (by omega), if_pos hv.1, if_pos hv.2, wrap64_id (x := (i : Int) + 1) (by omega) (by omega), show ((i : Int) + 1) = ((i + 1 : Nat) : Int) by omega]
    exact ih k (i + 1) _ (by omega) (by omega) (by rw [hacc, List.take_succ_eq_append_getElem (by omega), List.map_append, ← List.append_assoc]; rfl)
theorem mz_l7 (z : List S47) (hz : z.length ≤ 100) (h0 : ∀ v ∈ z, v.f1 = 0 ∧ v.f2 = 0) (x : List S47) (hx : x.length ≤ 100) (a b : List Int) (r : Int) (q : Bool) (fu sk hp : Int) (code : List S114) (ha : a.length ≤ 100) (hb : b.length ≤ 100) (he : x.map (·.f0) ++ z.map (·.f0) = a ++ b) (hl : a.length + b.length ≤ 16) (d : Nat) : ∀ (k i : Nat) (acc : List Int), i + d = x.length → d + 500 ≤ k → acc = (x.take i).map (·.f0) → capstanlaw07_MethodZeros.l7 k z x acc i a b r q fu sk hp code = some true := by
  induction d with
  | zero =>
    intro k i acc hi hk hacc
    obtain ⟨k, rfl⟩ : ∃ n, k = n + 1 := ⟨k - 1, by omega⟩
    rw [List.take_of_length_le (by omega)] at hacc
    simp only [capstanlaw07_MethodZeros.l7]
    rw [if_neg (by omega)]
    exact mz_l8 z hz h0 a b r q fu sk hp code ha hb acc (by rw [hacc, he]) hl z.length k 0 acc (by omega) (by omega) (by simp)
  | succ d ih =>
    intro k i acc hi hk hacc
    obtain ⟨k, rfl⟩ : ∃ n, k = n + 1 := ⟨k - 1, by omega⟩
    have hal : acc.length ≤ 100 := by rw [hacc]; simp; omega
    simp only [capstanlaw07_MethodZeros.l7]
    rw [if_pos (by omega), if_pos (by omega), if_pos (by omega), rdv_at (by omega), wrap64_id (x := (i : Int) + 1) (by omega) (by omega), show ((i : Int) + 1) = ((i + 1 : Nat) : Int) by omega]
    exact ih k (i + 1) _ (by omega) (by omega) (by rw [hacc, List.take_succ_eq_append_getElem (by omega), List.map_append]; rfl)
theorem MethodZeros : capstanlaw07_MethodZeros.Pure := by
  intro a b r q fu sk hp code x hw hx
  refine ⟨2000, ?_⟩
  unfold capstanlaw07_MethodZeros.f
  rw [mawake_f _ (by omega), Option.bind_some, if_pos rfl, great7_f, Option.bind_some]
  by_cases hg : a.length > 100 ∨ b.length > 100
  · rw [decide_eq_true hg, if_pos rfl]
  rw [decide_eq_false hg, if_neg (by decide)]
  by_cases hxl : (x.length : Int) > 100
  · rw [if_pos hxl]
  rw [if_neg hxl, mZeros_f _ _ _ _ _ _ _ _ (by omega) (by omega) _ (by omega), Option.bind_some, mMay_f _ _ _ _ _ _ _ _ (by omega) (by omega) _ (by omega), Option.bind_some]
  cases hm : mmay a b r fu sk hp
  · have em : mzeros a b r fu sk hp = ([], false) := by unfold mzeros; rw [hm]; rfl
    have ef : mfits a b r fu sk hp x = false := by unfold mfits; rw [hm]; rfl
    rw [em, if_neg (by decide), if_neg (by decide), if_pos (by rfl), mFits_f _ _ _ _ _ _ _ _ _ (by omega) (by omega) (by omega) _ (by omega), Option.bind_some, ef, if_neg (by decide), mMigrates_f _ _ _ _ _ _ _ _ (by omega) (by omega) _ (by omega), Option.bind_some, hm]
    rfl
  have em : mzeros a b r fu sk hp = (b.map fun k => ⟨k, 0, 0⟩, true) := by unfold mzeros; rw [hm]; rfl
  obtain ⟨hl, hka, hkb, _⟩ := mmay_iff.1 hm
  rw [em, if_neg (show ¬ (((b.map (fun k => (⟨k, 0, 0⟩ : S47)), true) : List S47 × Bool).2 != true) = true from fun h => by cases h), if_pos rfl]
  have hz : ∀ v ∈ b.map (fun k => (⟨k, 0, 0⟩ : S47)), v.f1 = 0 ∧ v.f2 = 0 := by
    intro v hv
    obtain ⟨k, _, rfl⟩ := List.mem_map.1 hv
    exact ⟨rfl, rfl⟩
  have hzm : (b.map (fun k => (⟨k, 0, 0⟩ : S47))).map (·.f0) = b := by rw [List.map_map]; exact List.map_id b
  have ham : (a.map (fun k => (⟨k, 0, 0⟩ : S47))).map (·.f0) = a := by rw [List.map_map]; exact List.map_id a
  refine mz_l0 x _ a b r q fu sk hp code a.length (some true) (1999 - a.length) ?_ 1999 0 [] (by omega) (by omega) (by omega) (by simp)
  intro y hy
  have hyl : y.length = a.length := by rw [hy]; simp
  have efy : mfits a b r fu sk hp y = true := by
    unfold mfits
    rw [hm, Bool.true_and, decide_eq_true hyl, Bool.true_and, hyl, hy]
    exact fitl_zero a hka a.length 0 (by omega)
  have hym : y.map (·.f0) ++ (b.map (fun k => (⟨k, 0, 0⟩ : S47))).map (·.f0) = a ++ b := by rw [hzm, hy, ham]
  have efx : mfits a b r fu sk hp x = true → x.map (·.f0) ++ (b.map (fun k => (⟨k, 0, 0⟩ : S47))).map (·.f0) = a ++ b := by
    intro h
    unfold mfits at h
    rw [hm, Bool.true_and, Bool.and_eq_true, decide_eq_true_eq] at h
    have := fitl_kinds x a h.1 x.length 0 (by omega) h.2
    rw [List.drop_zero, List.drop_zero] at this
    rw [hzm, this]
  rw [mFits_f _ _ _ _ _ _ _ _ _ (by omega) (by omega) (by omega) _ (by omega), Option.bind_some, efy, if_pos rfl, mFits_f _ _ _ _ _ _ _ _ x (by omega) (by omega) (by omega) _ (by omega)]
  by_cases h1 : (y.length : Int) > 0
  · have efd : mfits a b r fu sk hp (y.drop 1) = false := by
      unfold mfits
      rw [decide_eq_false (by simp; omega : ¬ (y.drop 1).length = a.length), Bool.false_and, Bool.and_false]
    rw [if_pos h1, if_pos (by omega), mFits_f _ _ _ _ _ _ _ _ _ (by omega) (by omega) (by simp; omega) _ (by omega), Option.bind_some, efd, if_neg (by decide), Option.bind_some]
    cases hf : mfits a b r fu sk hp x
    · rw [if_neg (by decide)]
      exact mz_l3 _ (by simp; omega) hz y (by omega) a b r q fu sk hp code (by omega) (by omega) hym hl.1 y.length _ 0 [] (by omega) (by omega) (by simp)
    · rw [if_pos rfl]
      exact mz_l1 _ (by simp; omega) hz x (by omega) a b r q fu sk hp code (by omega) (by omega) (efx hf) hl.1 x.length _ 0 [] (by omega) (by omega) (by simp)
  · rw [if_neg h1, Option.bind_some]
    cases hf : mfits a b r fu sk hp x
    · rw [if_neg (by decide)]
      exact mz_l7 _ (by simp; omega) hz y (by omega) a b r q fu sk hp code (by omega) (by omega) hym hl.1 y.length _ 0 [] (by omega) (by omega) (by simp)
    · rw [if_pos rfl]
      exact mz_l5 _ (by simp; omega) hz x (by omega) a b r q fu sk hp code (by omega) (by omega) (efx hf) hl.1 x.length _ 0 [] (by omega) (by omega) (by simp)
end Go.Proofs.Ytdbdajifalioiaa.Pure
