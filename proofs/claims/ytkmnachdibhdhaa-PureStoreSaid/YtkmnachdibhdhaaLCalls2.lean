/- Layer 11 in plain terms: what Whom, Order, Check, Deep tell of a module (of calls_Whom.f, calls_all.f, calls_Order.f, calls_Check.f, calls_Deep.f). -/
import Derived.Test.YtkmnachdibhdhaaS3
import Derived.Test.YtkmnachdibhdhaaS6
import Derived.Test.YtkmnachdibhdhaaS7
import Derived.Test.YtkmnachdibhdhaaLCalls1
namespace Go.Proofs.Ytkmnachdibhdhaa.M
open Go.RowKit Go.Proofs.Ytkmnachdibhdhaa.S Go.Proofs.YtkmnachdibhdhaaW.PrintWords Go.Proofs.YtkmnachdibhdhaaW.PrintLast Go.Proofs.YtkmnachdibhdhaaW.PrintMore

theorem up {α : Type} {f : Nat → Option α} (hm : ∀ k, LeO (f k) (f (k + 1))) {k0 : Nat} {r : α} (h : f k0 = some r) (k : Nat) (hk : k0 ≤ k) : f k = some r := by
  obtain ⟨m, rfl⟩ : ∃ m, k = k0 + m := ⟨k - k0, by omega⟩
  clear hk
  induction m with
  | zero => exact h
  | succ m ih => exact hm _ _ ih
/-- The methods that a method's code names. -/
def nm (ms : List S52) (j : Int) : List Int := cl_names (rd_T52 ms j).f7
/-- Whom each method calls. -/
def ws (ms : List S52) : List (List Int) := (List.range ms.length).map fun (j : Nat) => sset (nm ms j)
def okAll (ms : List S52) : Prop := ∀ j : Nat, j < ms.length → cl_ok ms.length (nm ms j) = true
/-- No module that is too long to be told. -/
structure Small (ms : List S52) : Prop where
  len : ms.length ≤ 40
  code : ∀ j : Int, 0 ≤ j → j < (ms.length : Int) → (rd_T52 ms j).f7.length ≤ 100000
theorem ws_len (ms : List S52) : (ws ms).length = ms.length := by simp [ws]
theorem ws_get (ms : List S52) (j : Nat) (h : j < ms.length) : (ws ms).getD j [] = sset (nm ms j) := by
  unfold ws
  simp [h]
theorem cl_ok_mem {n : Int} {l : List Int} : cl_ok n l = true ↔ ∀ x ∈ l, 0 ≤ x ∧ x < n := by
  unfold cl_ok
  rw [List.all_eq_true]
  exact ⟨fun h x hx => by simpa using h x hx, fun h x hx => by simpa using h x hx⟩
theorem ws_ok {ms : List S52} (h : okAll ms) : WhomOk (ws ms) := by
  intro z hz
  rw [ws_len] at hz
  rw [ws_get ms z hz, ws_len]
  exact ⟨sset_nodup _, fun x hx => cl_ok_mem.1 (h z hz) x (mem_sset.1 hx)⟩
variable {l0 l1 : List S86} {ms : List S52} {a3 : Int}
theorem Whom_f (hs : Small ms) (j : Int) : calls_Whom.f l0 l1 ms a3 j = some (if 0 ≤ j ∧ j < (ms.length : Int) ∧ cl_ok ms.length (nm ms j) = true then (sset (nm ms j), 0) else ([], 2)) := by
  unfold calls_Whom.f
  by_cases h : 0 ≤ j ∧ j < (ms.length : Int)
  · rw [if_pos h, if_pos (hs.code j h.1 h.2)]
    change (if cl_ok ms.length (nm ms j) = true then some (sset (nm ms j), 0) else some ([], 2)) = _
    by_cases hc : cl_ok ms.length (nm ms j) = true
    · rw [if_pos hc, if_pos ⟨h.1, h.2, hc⟩]
    · rw [if_neg hc, if_neg (fun h2 => hc h2.2.2)]
  · rw [if_neg h, if_neg (fun h2 => h ⟨h2.1, h2.2.1⟩)]
theorem all_l0 (hs : Small ms) : ∀ m i : Nat, i + m = ms.length → (∀ j : Nat, j < i → cl_ok ms.length (nm ms j) = true) →
    (okAll ms ∧ calls_all.l0 (m + 1) ((List.range i).map fun (j : Nat) => sset (nm ms j)) (ms.length : Int) (i : Int) l0 l1 ms a3 = some (ws ms, 0)) ∨
    (¬ okAll ms ∧ calls_all.l0 (m + 1) ((List.range i).map fun (j : Nat) => sset (nm ms j)) (ms.length : Int) (i : Int) l0 l1 ms a3 = some ([], 2)) := by
  have hlen := hs.len
  intro m
  induction m with
  | zero =>
    intro i hi h
    obtain rfl : i = ms.length := by omega
    refine .inl ⟨h, ?_⟩
    rw [calls_all.l0, if_neg (by omega)]
    rfl
  | succ m ih =>
    intro i hi h
    have hW := Whom_f (l0 := l0) (l1 := l1) (a3 := a3) hs (i : Int)
    rw [calls_all.l0, if_pos (by omega)]
    by_cases hc : cl_ok ms.length (nm ms i) = true
    · rw [if_pos ⟨by omega, by omega, hc⟩] at hW
      rw [hW, Option.bind_some]
      have hw : wrap64 ((i : Int) + 1) = ((i + 1 : Nat) : Int) := by unfold wrap64; omega
      dsimp only
      rw [if_pos rfl, if_pos (by simp; omega), hw]
      have hr : ((List.range i).map fun (j : Nat) => sset (nm ms j)) ++ [sset (nm ms i)] = (List.range (i + 1)).map fun (j : Nat) => sset (nm ms j) := by rw [List.range_succ, List.map_append]; rfl
      rw [hr]
      exact ih (i + 1) (by omega) fun j hj => by
        by_cases e : j = i
        · subst e; exact hc
        · exact h j (by omega)
    · rw [if_neg (fun h2 => hc h2.2.2)] at hW
      rw [hW, Option.bind_some]
      exact .inr ⟨fun ho => hc (ho i (by omega)), rfl⟩
theorem all_f (hs : Small ms) : (okAll ms ∧ calls_all.f 41 l0 l1 ms a3 = some (ws ms, 0)) ∨ (¬ okAll ms ∧ calls_all.f 41 l0 l1 ms a3 = some ([], 2)) := by
  have hlen := hs.len
  rcases all_l0 (l0 := l0) (l1 := l1) (a3 := a3) hs ms.length 0 (by omega) (fun _ h => absurd h (Nat.not_lt_zero _)) with ⟨h1, h2⟩ | ⟨h1, h2⟩
  · exact .inl ⟨h1, up (f := fun k => calls_all.f k l0 l1 ms a3) (fun k => calls_all.mono _ _ _ _ k) h2 41 (by omega)⟩
  · exact .inr ⟨h1, up (f := fun k => calls_all.f k l0 l1 ms a3) (fun k => calls_all.mono _ _ _ _ k) h2 41 (by omega)⟩
/-- A set of methods each of which calls one of the set. -/
def Ring (ms : List S52) : Prop := ∃ o, OrdInv (ws ms) o ∧ odKeys (ws ms).length o ≠ [] ∧ ∀ z ∈ odKeys (ws ms).length o, ∃ x ∈ (ws ms).getD z.toNat [], x ∉ o
theorem order_eq (hs : Small ms) (hc : ∀ j : Int, 0 ≤ j → j < (ms.length : Int) → (rd_T52 ms j).f7.length ≤ 100000) (ho : okAll ms) : calls_Order.f 41 l0 l1 ms a3 = odLoop (ws ms) (ws ms).length ((ws ms).length + 1) [] := by
  rcases all_f (l0 := l0) (l1 := l1) (a3 := a3) hs with ⟨_, h⟩ | ⟨h, _⟩
  · unfold calls_Order.f
    rw [h, Option.bind_some]
    dsimp only
    rw [if_pos rfl, if_pos]
    have hlen := hs.len
    refine ⟨by rw [ws_len]; omega, List.all_eq_true.2 fun l hl => ?_⟩
    obtain ⟨j, hj, rfl⟩ := List.mem_map.1 hl
    have hj := List.mem_range.1 hj
    have h1 := sset_len (nm ms j)
    have h2 : (nm ms j).length ≤ (rd_T52 ms j).f7.length := by unfold nm cl_names; rw [List.length_map]; exact List.length_filter_le _ _
    have h3 := hc j (by omega) (by omega)
    simp only [decide_eq_true_eq]
    omega
  · exact absurd ho h
theorem Order_f (hs : Small ms) : (okAll ms ∧ ∃ o, calls_Order.f 41 l0 l1 ms a3 = some (o, 0) ∧ Ord (ws ms) o) ∨ (okAll ms ∧ Ring ms ∧ calls_Order.f 41 l0 l1 ms a3 = some ([], 110)) ∨ (¬ okAll ms ∧ calls_Order.f 41 l0 l1 ms a3 = some ([], 2)) := by
  rcases all_f (l0 := l0) (l1 := l1) (a3 := a3) hs with ⟨ho, h⟩ | ⟨ho, h⟩
  · rw [order_eq hs hs.code ho]
    rcases order_of (ws_ok ho) with ⟨o, h1, h2⟩ | ⟨h1, h2⟩
    · exact .inl ⟨ho, o, h1, h2⟩
    · exact .inr (.inl ⟨ho, h2, h1⟩)
  · refine .inr (.inr ⟨ho, ?_⟩)
    unfold calls_Order.f
    rw [h, Option.bind_some]
    rfl
end Go.Proofs.Ytkmnachdibhdhaa.M
