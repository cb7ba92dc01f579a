/- Layer 11 in plain terms: what Whom, Order, Check, Deep tell of a module (of calls_Whom.f). -/
import Derived.Test.YtkmnachdibhdhaaT2
import Derived.Test.YtkmnachdibhdhaaLCalls1
namespace Go.Proofs.Ytkmnachdibhdhaa.M
open Go.RowKit Go.Proofs.Ytkmnachdibhdhaa.T Go.Proofs.YtkmnachdibhdhaaW.PrintWords Go.Proofs.YtkmnachdibhdhaaW.PrintLast Go.Proofs.YtkmnachdibhdhaaW.PrintMore

theorem up {α : Type} {f : Nat → Option α} (hm : ∀ k, LeO (f k) (f (k + 1))) {k0 : Nat} {r : α} (h : f k0 = some r) (k : Nat) (hk : k0 ≤ k) : f k = some r := by
  obtain ⟨m, rfl⟩ : ∃ m, k = k0 + m := ⟨k - k0, by omega⟩
  clear hk
  induction m with
  | zero => exact h
  | succ m ih => exact hm _ _ ih
/-- The methods that a method's code names. -/
def nm (ms : List S52) (j : Int) : List Int := cl_names (rd_T52 ms j).f7
/-- Whom each method calls. -/
def ws (ms : List S52) : List (List Int) := (List.range ms.length).map fun (j : Nat) => sset (nm ms j)
def okAll (ms : List S52) : Prop := ∀ j : Nat, j < ms.length → cl_ok ms.length (nm ms j) = true
/-- No module that is too long to be told. -/
structure Small (ms : List S52) : Prop where
  len : ms.length ≤ 40
  code : ∀ j : Int, 0 ≤ j → j < (ms.length : Int) → (rd_T52 ms j).f7.length ≤ 100000
theorem ws_len (ms : List S52) : (ws ms).length = ms.length := by simp [ws]
theorem ws_get (ms : List S52) (j : Nat) (h : j < ms.length) : (ws ms).getD j [] = sset (nm ms j) := by
  unfold ws
  simp [h]
theorem cl_ok_mem {n : Int} {l : List Int} : cl_ok n l = true ↔ ∀ x ∈ l, 0 ≤ x ∧ x < n := by
  unfold cl_ok
  rw [List.all_eq_true]
  exact ⟨fun h x hx => by simpa using h x hx, fun h x hx => by simpa using h x hx⟩
theorem ws_ok {ms : List S52} (h : okAll ms) : WhomOk (ws ms) := by
  intro z hz
  rw [ws_len] at hz
  rw [ws_get ms z hz, ws_len]
  exact ⟨sset_nodup _, fun x hx => cl_ok_mem.1 (h z hz) x (mem_sset.1 hx)⟩
variable {l0 l1 : List S86} {ms : List S52} {a3 : Int}
theorem Whom_f (hs : Small ms) (j : Int) : calls_Whom.f l0 l1 ms a3 j = some (if 0 ≤ j ∧ j < (ms.length : Int) ∧ cl_ok ms.length (nm ms j) = true then (sset (nm ms j), 0) else ([], 2)) := by
  unfold calls_Whom.f
  by_cases h : 0 ≤ j ∧ j < (ms.length : Int)
  · rw [if_pos h, if_pos (hs.code j h.1 h.2)]
    change (if cl_ok ms.length (nm ms j) = true then some (sset (nm ms j), 0) else some ([], 2)) = _
    by_cases hc : cl_ok ms.length (nm ms j) = true
    · rw [if_pos hc, if_pos ⟨h.1, h.2, hc⟩]
    · rw [if_neg hc, if_neg (fun h2 => hc h2.2.2)]
  · rw [if_neg h, if_neg (fun h2 => h ⟨h2.1, h2.2.1⟩)]
end Go.Proofs.Ytkmnachdibhdhaa.M
