/- Layer 11 in plain terms: the chapter's examples (of capstanlaw11_made.f, capstanlaw11_are.f, capstanlaw11_awake.f, calls_Leads.f). -/
import Derived.Test.YtkmnachdibhdhaaQ1
import Derived.Test.YtkmnachdibhdhaaQ2
import Derived.Test.YtkmnachdibhdhaaQ3
import Derived.Test.YtkmnachdibhdhaaQ4
import Derived.Test.YtkmnachdibhdhaaQ5
import Derived.Test.YtkmnachdibhdhaaLCalls2
namespace Go.Proofs.Ytkmnachdibhdhaa.M
open Go.RowKit Go.Proofs.Ytkmnachdibhdhaa.Q Go.Proofs.YtkmnachdibhdhaaW.PrintWords Go.Proofs.YtkmnachdibhdhaaW.PrintLast Go.Proofs.YtkmnachdibhdhaaW.PrintMore

theorem are_l0 (l m : List Int) (h : l.length = m.length) (hl : l.length ≤ 1000000) : ∀ q i : Nat, i + q = l.length → l.take i = m.take i → capstanlaw11_are.l0 (q + 1) l m (i : Int) = some (decide (l = m)) := by
  intro q
  induction q with
  | zero =>
    intro i hi e
    obtain rfl : i = l.length := by omega
    rw [capstanlaw11_are.l0, if_neg (by omega)]
    rw [List.take_length, h, List.take_length] at e
    rw [decide_eq_true e]
  | succ q ih =>
    intro i hi e
    rw [capstanlaw11_are.l0, if_pos (by omega), if_pos (by omega), if_pos (by omega)]
    have hw : wrap64 ((i : Int) + 1) = ((i + 1 : Nat) : Int) := by unfold wrap64; omega
    have h1 : i < l.length := by omega
    have h2 : i < m.length := by omega
    have r1 : rd l (i : Int) = l[i] := by simp [rd, h1]
    have r2 : rd m (i : Int) = m[i] := by simp [rd, h2]
    rw [r1, r2, hw]
    by_cases hc : l[i] = m[i]
    · rw [if_pos hc]
      refine ih (i + 1) (by omega) ?_
      rw [List.take_succ_eq_append_getElem h1, List.take_succ_eq_append_getElem h2, e, hc]
    · rw [if_neg hc, decide_eq_false]
      rintro rfl
      exact hc rfl
theorem are_f (l m : List Int) (hl : l.length ≤ 1000000) (k : Nat) (hk : l.length < k) : capstanlaw11_are.f k l m = some (decide (l = m)) := by
  refine up (f := fun k => capstanlaw11_are.f k l m) (fun k => capstanlaw11_are.mono _ _ k) (k0 := l.length + 1) ?_ k (by omega)
  show capstanlaw11_are.f (l.length + 1) l m = _
  unfold capstanlaw11_are.f
  by_cases h : l.length = m.length
  · rw [if_pos (by omega)]
    exact are_l0 l m h hl l.length 0 (by omega) rfl
  · rw [if_neg (by omega), decide_eq_false]
    rintro rfl
    exact h rfl
/-- A method that calls so. -/
def mt (l : List Int) : S52 := ⟨[], [], 1, false, 0, 0, 0, l.map (fun x => ⟨30, x, 0⟩) ++ [⟨32, 0, 0⟩]⟩
theorem nm_mt (l : List Int) : cl_names (mt l).f7 = l := by
  unfold mt cl_names
  rw [List.filter_append, List.map_append]
  induction l with
  | nil => rfl
  | cons x t ih =>
    simp only [List.map_cons, List.filter_cons_of_pos (p := fun i : S70 => i.f0 == 30) (show ((⟨30, x, 0⟩ : S70).f0 == 30) = true from rfl), List.cons_append]
    rw [ih]
def exA : List S52 := [mt [1, 2], mt [2], mt []]
def exB : List S52 := [mt [1, 2], mt [2], mt [0]]
def exC : List S52 := [mt [1, 2], mt [2], mt [3]]
theorem made_A : capstanlaw11_made.f 200 3 [6, 4, 0] = some ([], [], exA, -1) := by kernel_rfl
theorem made_B : capstanlaw11_made.f 200 3 [6, 4, 1] = some ([], [], exB, -1) := by kernel_rfl
theorem made_C : capstanlaw11_made.f 200 3 [6, 4, 8] = some ([], [], exC, -1) := by kernel_rfl
theorem small3 {a b c : List Int} (ha : a.length ≤ 10) (hb : b.length ≤ 10) (hc : c.length ≤ 10) : Small [mt a, mt b, mt c] := by
  refine ⟨by simp, fun j h0 h1 => ?_⟩
  simp at h1
  have : j = 0 ∨ j = 1 ∨ j = 2 := by omega
  rcases this with rfl | rfl | rfl
  · simp [rd_T52, mt]; omega
  · simp [rd_T52, mt]; omega
  · simp [rd_T52, mt]; omega
theorem nm3 (a b c : List Int) : nm [mt a, mt b, mt c] 0 = a ∧ nm [mt a, mt b, mt c] 1 = b ∧ nm [mt a, mt b, mt c] 2 = c := ⟨nm_mt a, nm_mt b, nm_mt c⟩
theorem ws3 {a b c : List Int} (ha : a.Pairwise fun x y => x < y) (hb : b.Pairwise fun x y => x < y) (hc : c.Pairwise fun x y => x < y) : ws [mt a, mt b, mt c] = [a, b, c] := by
  obtain ⟨h1, h2, h3⟩ := nm3 a b c
  show [sset (nm [mt a, mt b, mt c] 0), sset (nm [mt a, mt b, mt c] 1), sset (nm [mt a, mt b, mt c] 2)] = _
  rw [h1, h2, h3, sset_rise ha, sset_rise hb, sset_rise hc]
theorem ok3 {a b c : List Int} (ha : cl_ok 3 a = true) (hb : cl_ok 3 b = true) (hc : cl_ok 3 c = true) : okAll [mt a, mt b, mt c] := by
  intro j hj
  obtain ⟨h1, h2, h3⟩ := nm3 a b c
  have : j = 0 ∨ j = 1 ∨ j = 2 := by simp at hj; omega
  rcases this with rfl | rfl | rfl
  · show cl_ok 3 (nm [mt a, mt b, mt c] 0) = true
    rw [h1]; exact ha
  · show cl_ok 3 (nm [mt a, mt b, mt c] 1) = true
    rw [h2]; exact hb
  · show cl_ok 3 (nm [mt a, mt b, mt c] 2) = true
    rw [h3]; exact hc
theorem smallA : Small exA := small3 (by decide) (by decide) (by decide)
theorem smallB : Small exB := small3 (by decide) (by decide) (by decide)
theorem smallC : Small exC := small3 (by decide) (by decide) (by decide)
theorem wsA : ws exA = [[1, 2], [2], []] := ws3 (by decide) (by decide) (by decide)
theorem wsB : ws exB = [[1, 2], [2], [0]] := ws3 (by decide) (by decide) (by decide)
theorem okA : okAll exA := ok3 (by decide) (by decide) (by decide)
theorem okB : okAll exB := ok3 (by decide) (by decide) (by decide)
theorem orderA : calls_Order.f 41 [] [] exA (-1) = some ([2, 1, 0], 0) := by rw [order_eq smallA smallA.code okA, wsA]; decide
theorem orderB : calls_Order.f 41 [] [] exB (-1) = some ([], 110) := by rw [order_eq smallB smallB.code okB, wsB]; decide
theorem orderC : calls_Order.f 41 [] [] exC (-1) = some ([], 2) := by
  rcases Order_f (l0 := []) (l1 := []) (a3 := -1) smallC with ⟨h, _⟩ | ⟨h, _⟩ | ⟨_, h⟩
  · exact absurd (h 2 (by decide)) (by show ¬ cl_ok 3 (nm exC 2) = true; rw [show nm exC 2 = [3] from nm_mt [3]]; decide)
  · exact absurd (h 2 (by decide)) (by show ¬ cl_ok 3 (nm exC 2) = true; rw [show nm exC 2 = [3] from nm_mt [3]]; decide)
  · exact h
theorem whomA (j : Int) (l : List Int) (hj : 0 ≤ j ∧ j < 3) (hl : nm exA j = l) (hr : l.Pairwise fun x y => x < y) (hc : cl_ok 3 l = true) : calls_Whom.f [] [] exA (-1) j = some (l, 0) := by
  rw [Whom_f smallA, if_pos ⟨hj.1, hj.2, by rw [hl]; exact hc⟩, hl, sset_rise hr]
theorem deepA : calls_Deep.f 41 [] [] exA (-1) = some ([3, 2, 1], 0) := by
  unfold calls_Deep.f
  rw [orderA, Option.bind_some]
  dsimp only
  rw [if_pos rfl, if_pos (by decide)]
  kernel_rfl
theorem leadsA : calls_Leads.f 41 [] [] exA (-1) 0 = some ([1, 2], 0) := by
  have h0 := whomA 0 [1, 2] (by decide) (nm_mt _) (by decide) (by decide)
  have h1 := whomA 1 [2] (by decide) (nm_mt _) (by decide) (by decide)
  have h2 := whomA 2 [] (by decide) (nm_mt _) (by decide) (by decide)
  unfold calls_Leads.f calls_Check.f
  rw [orderA]
  simp only [Option.bind_some]
  rw [if_pos trivial, if_pos (by decide)]
  have e : ldLoop (calls_Whom.f [] [] exA (-1)) 41 [0] [] = some [1, 2, 2] := by
    rw [ldLoop, h0, Option.bind_some, if_pos (by decide)]
    change ldLoop _ 40 (sset [1, 2]) [1, 2] = _
    rw [sset_rise (by decide), ldLoop, h1, Option.bind_some, if_pos (by decide)]
    change ldLoop _ 39 (sset [2, 2]) [1, 2, 2] = _
    rw [show sset [2, 2] = [2] from rise_ext (sset_sorted _) (by decide) (fun x => by rw [mem_sset]; simp), ldLoop, h2, Option.bind_some, if_pos (by decide)]
    change ldLoop _ 38 (sset []) [1, 2, 2] = _
    rw [sset_rise (by decide), ldLoop]
  rw [e, Option.bind_some]
  change some (sset [1, 2, 2], 0) = _
  rw [show sset [1, 2, 2] = [1, 2] from rise_ext (sset_sorted _) (by decide) (fun x => by rw [mem_sset]; simp)]
theorem awake_f (k : Nat) (hk : 200 ≤ k) : capstanlaw11_awake.f k = some true := by
  have w0 := whomA 0 [1, 2] (by decide) (nm_mt _) (by decide) (by decide)
  have mA := up (f := fun k => capstanlaw11_made.f k 3 [6, 4, 0]) (fun k => capstanlaw11_made.mono _ _ k) made_A k (by omega)
  have mB := up (f := fun k => capstanlaw11_made.f k 3 [6, 4, 1]) (fun k => capstanlaw11_made.mono _ _ k) made_B k (by omega)
  have mC := up (f := fun k => capstanlaw11_made.f k 3 [6, 4, 8]) (fun k => capstanlaw11_made.mono _ _ k) made_C k (by omega)
  have oA := up (f := fun k => calls_Order.f k [] [] exA (-1)) (fun k => calls_Order.mono _ _ _ _ k) orderA k (by omega)
  have lA := up (f := fun k => calls_Leads.f k [] [] exA (-1) 0) (fun k => calls_Leads.mono _ _ _ _ _ k) leadsA k (by omega)
  have dA := up (f := fun k => calls_Deep.f k [] [] exA (-1)) (fun k => calls_Deep.mono _ _ _ _ k) deepA k (by omega)
  have cB : calls_Check.f k [] [] exB (-1) = some 110 := by unfold calls_Check.f; rw [up (f := fun k => calls_Order.f k [] [] exB (-1)) (fun k => calls_Order.mono _ _ _ _ k) orderB k (by omega)]; rfl
  have cC : calls_Check.f k [] [] exC (-1) = some 2 := by unfold calls_Check.f; rw [up (f := fun k => calls_Order.f k [] [] exC (-1)) (fun k => calls_Order.mono _ _ _ _ k) orderC k (by omega)]; rfl
  have a1 := are_f [1, 2] [1, 2] (by decide) k (by simp; omega)
  have a2 := are_f [2, 1, 0] [2, 1, 0] (by decide) k (by simp; omega)
  have a3 := are_f [3, 2, 1] [3, 2, 1] (by decide) k (by simp; omega)
  unfold capstanlaw11_awake.f
  simp only [mA, mB, mC, oA, lA, dA, cB, cC, w0, a1, a2, a3, Option.bind_some, decide_true, if_true, beq_self_eq_true]
end Go.Proofs.Ytkmnachdibhdhaa.M
