/- Layer 11 in plain terms: the chapter's examples (of capstanlaw11_made.f, capstanlaw11_are.f, capstanlaw11_awake.f, calls_Leads.f). -/
import Derived.Test.YtkmnachdibhdhaaP12
import Derived.Test.YtkmnachdibhdhaaP13
import Derived.Test.YtkmnachdibhdhaaP14
import Derived.Test.YtkmnachdibhdhaaP15
import Derived.Test.YtkmnachdibhdhaaLCalls2
namespace Go.Proofs.Ytkmnachdibhdhaa.M
open Go.RowKit Go.Proofs.Ytkmnachdibhdhaa.P Go.Proofs.YtkmnachdibhdhaaW.PrintWords Go.Proofs.YtkmnachdibhdhaaW.PrintLast Go.Proofs.YtkmnachdibhdhaaW.PrintMore

/-- A method that calls so. -/
def mt (l : List Int) : S52 := ⟨[], [], 1, false, 0, 0, 0, l.map (fun x => ⟨30, x, 0⟩) ++ [⟨32, 0, 0⟩]⟩
theorem nm_mt (l : List Int) : cl_names (mt l).f7 = l := by
  unfold mt cl_names
  rw [List.filter_append, List.map_append]
  induction l with
  | nil => rfl
  | cons x t ih =>
    simp only [List.map_cons, List.filter_cons_of_pos (p := fun i : S70 => i.f0 == 30) (show ((⟨30, x, 0⟩ : S70).f0 == 30) = true from rfl), List.cons_append]
    rw [ih]
def exA : List S52 := [mt [1, 2], mt [2], mt []]
def exB : List S52 := [mt [1, 2], mt [2], mt [0]]
def exC : List S52 := [mt [1, 2], mt [2], mt [3]]
theorem small3 {a b c : List Int} (ha : a.length ≤ 10) (hb : b.length ≤ 10) (hc : c.length ≤ 10) : Small [mt a, mt b, mt c] := by
  refine ⟨by simp, fun j h0 h1 => ?_⟩
  simp at h1
  have : j = 0 ∨ j = 1 ∨ j = 2 := by omega
  rcases this with rfl | rfl | rfl
  · simp [rd_T52, mt]; omega
  · simp [rd_T52, mt]; omega
  · simp [rd_T52, mt]; omega
theorem nm3 (a b c : List Int) : nm [mt a, mt b, mt c] 0 = a ∧ nm [mt a, mt b, mt c] 1 = b ∧ nm [mt a, mt b, mt c] 2 = c := ⟨nm_mt a, nm_mt b, nm_mt c⟩
theorem ws3 {a b c : List Int} (ha : a.Pairwise fun x y => x < y) (hb : b.Pairwise fun x y => x < y) (hc : c.Pairwise fun x y => x < y) : ws [mt a, mt b, mt c] = [a, b, c] := by
  obtain ⟨h1, h2, h3⟩ := nm3 a b c
  show [sset (nm [mt a, mt b, mt c] 0), sset (nm [mt a, mt b, mt c] 1), sset (nm [mt a, mt b, mt c] 2)] = _
  rw [h1, h2, h3, sset_rise ha, sset_rise hb, sset_rise hc]
theorem ok3 {a b c : List Int} (ha : cl_ok 3 a = true) (hb : cl_ok 3 b = true) (hc : cl_ok 3 c = true) : okAll [mt a, mt b, mt c] := by
  intro j hj
  obtain ⟨h1, h2, h3⟩ := nm3 a b c
  have : j = 0 ∨ j = 1 ∨ j = 2 := by simp at hj; omega
  rcases this with rfl | rfl | rfl
  · show cl_ok 3 (nm [mt a, mt b, mt c] 0) = true
    rw [h1]; exact ha
  · show cl_ok 3 (nm [mt a, mt b, mt c] 1) = true
    rw [h2]; exact hb
  · show cl_ok 3 (nm [mt a, mt b, mt c] 2) = true
    rw [h3]; exact hc
theorem smallA : Small exA := small3 (by decide) (by decide) (by decide)
theorem smallB : Small exB := small3 (by decide) (by decide) (by decide)
theorem smallC : Small exC := small3 (by decide) (by decide) (by decide)
theorem wsA : ws exA = [[1, 2], [2], []] := ws3 (by decide) (by decide) (by decide)
theorem wsB : ws exB = [[1, 2], [2], [0]] := ws3 (by decide) (by decide) (by decide)
theorem okA : okAll exA := ok3 (by decide) (by decide) (by decide)
theorem okB : okAll exB := ok3 (by decide) (by decide) (by decide)
theorem orderA : calls_Order.f 41 [] [] exA (-1) = some ([2, 1, 0], 0) := by rw [order_eq smallA smallA.code okA, wsA]; decide
theorem orderB : calls_Order.f 41 [] [] exB (-1) = some ([], 110) := by rw [order_eq smallB smallB.code okB, wsB]; decide
theorem orderC : calls_Order.f 41 [] [] exC (-1) = some ([], 2) := by
  rcases Order_f (l0 := []) (l1 := []) (a3 := -1) smallC with ⟨h, _⟩ | ⟨h, _⟩ | ⟨_, h⟩
  · exact absurd (h 2 (by decide)) (by show ¬ cl_ok 3 (nm exC 2) = true; rw [show nm exC 2 = [3] from nm_mt [3]]; decide)
  · exact absurd (h 2 (by decide)) (by show ¬ cl_ok 3 (nm exC 2) = true; rw [show nm exC 2 = [3] from nm_mt [3]]; decide)
  · exact h
theorem whomA (j : Int) (l : List Int) (hj : 0 ≤ j ∧ j < 3) (hl : nm exA j = l) (hr : l.Pairwise fun x y => x < y) (hc : cl_ok 3 l = true) : calls_Whom.f [] [] exA (-1) j = some (l, 0) := by
  rw [Whom_f smallA, if_pos ⟨hj.1, hj.2, by rw [hl]; exact hc⟩, hl, sset_rise hr]
theorem deepA : calls_Deep.f 41 [] [] exA (-1) = some ([3, 2, 1], 0) := by
  unfold calls_Deep.f
  rw [orderA, Option.bind_some]
  dsimp only
  rw [if_pos rfl, if_pos (by decide)]
  kernel_rfl
theorem leadsA : calls_Leads.f 41 [] [] exA (-1) 0 = some ([1, 2], 0) := by
  have h0 := whomA 0 [1, 2] (by decide) (nm_mt _) (by decide) (by decide)
  have h1 := whomA 1 [2] (by decide) (nm_mt _) (by decide) (by decide)
  have h2 := whomA 2 [] (by decide) (nm_mt _) (by decide) (by decide)
  unfold calls_Leads.f calls_Check.f
  rw [orderA]
  simp only [Option.bind_some]
  rw [if_pos trivial, if_pos (by decide)]
  have e : ldLoop (calls_Whom.f [] [] exA (-1)) 41 [0] [] = some [1, 2, 2] := by
    rw [ldLoop, h0, Option.bind_some, if_pos (by decide)]
    change ldLoop _ 40 (sset [1, 2]) [1, 2] = _
    rw [sset_rise (by decide), ldLoop, h1, Option.bind_some, if_pos (by decide)]
    change ldLoop _ 39 (sset [2, 2]) [1, 2, 2] = _
    rw [show sset [2, 2] = [2] from rise_ext (sset_sorted _) (by decide) (fun x => by rw [mem_sset]; simp), ldLoop, h2, Option.bind_some, if_pos (by decide)]
    change ldLoop _ 38 (sset []) [1, 2, 2] = _
    rw [sset_rise (by decide), ldLoop]
  rw [e, Option.bind_some]
  change some (sset [1, 2, 2], 0) = _
  rw [show sset [1, 2, 2] = [1, 2] from rise_ext (sset_sorted _) (by decide) (fun x => by rw [mem_sset]; simp)]
end Go.Proofs.Ytkmnachdibhdhaa.M
