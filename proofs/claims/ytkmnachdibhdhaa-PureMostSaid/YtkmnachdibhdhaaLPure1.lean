/- Layer 13 in plain terms: what Stores, Check, Pure tell of a module (of pure_stores.f, pure_Stores.f, pure_whom.f, pure_Pure.f). -/
import Derived.Test.YtkmnachdibhdhaaT1
import Derived.Test.YtkmnachdibhdhaaT2
import Derived.Test.YtkmnachdibhdhaaT3
import Derived.Test.YtkmnachdibhdhaaT5
import Derived.Test.YtkmnachdibhdhaaLCalls2
import Derived.Test.YtkmnachdibhdhaaLPure0
namespace Go.Proofs.Ytkmnachdibhdhaa.M
open Go.RowKit Go.Proofs.Ytkmnachdibhdhaa.T Go.Proofs.YtkmnachdibhdhaaW.PrintWords Go.Proofs.YtkmnachdibhdhaaW.PrintLast Go.Proofs.YtkmnachdibhdhaaW.PrintMore

/-- Does a method's code store? -/
def stc (l : List S70) : Bool := l.any fun i => i.f0 == 5
def sto (ms : List S52) (j : Int) : Bool := stc (rd_T52 ms j).f7
theorem index_l0 (l : List S70) (hl : l.length ≤ 100000) : ∀ m i : Nat, m + i = l.length → ∃ r : Int, slices_IndexFunc_api_Instr_api_Instr.l0 (m + 1) l (l.length : Int) (i : Int) = some r ∧ decide (r ≥ 0) = (l.drop i).any fun i => i.f0 == 5 := by
  intro m
  induction m with
  | zero =>
    intro i hi
    obtain rfl : i = l.length := by omega
    exact ⟨-1, by rw [slices_IndexFunc_api_Instr_api_Instr.l0, if_neg (by omega)], by rw [List.drop_length]; rfl⟩
  | succ m ih =>
    intro i hi
    have hlt : i < l.length := by omega
    have hw : wrap64 ((i : Int) + 1) = ((i + 1 : Nat) : Int) := by unfold wrap64; omega
    have hrd : rd_T70 l (i : Int) = l[i] := by simp [rd_T70, hlt]
    rw [slices_IndexFunc_api_Instr_api_Instr.l0, if_pos (by omega), if_pos (by omega), if_pos (by omega), hrd, List.drop_eq_getElem_cons hlt, List.any_cons, hw]
    unfold pure_stores_1.f
    rw [Option.bind_some]
    cases h : l[i].f0 == 5 with
    | true => exact ⟨(i : Int), by rw [if_pos rfl], by rw [Bool.true_or]; exact decide_eq_true (by omega)⟩
    | false =>
      rw [if_neg (by decide), Bool.false_or]
      exact ih (i + 1) (by omega)
theorem stores_f (a b : List Int) (c : Int) (d : Bool) (e f g : Int) (l : List S70) (hl : l.length ≤ 100000) (k : Nat) (hk : l.length < k) : pure_stores.f k a b c d e f g l = some (stc l) := by
  refine up (f := fun k => pure_stores.f k a b c d e f g l) (fun k => pure_stores.mono _ _ _ _ _ _ _ _ k) (k0 := l.length + 1) ?_ k (by omega)
  show pure_stores.f (l.length + 1) a b c d e f g l = some (stc l)
  obtain ⟨r, h1, h2⟩ := index_l0 l hl l.length 0 (by omega)
  unfold pure_stores.f slices_ContainsFunc_api_Instr_api_Instr.f slices_IndexFunc_api_Instr_api_Instr.f
  have h3 : slices_IndexFunc_api_Instr_api_Instr.l0 (l.length + 1) l (l.length : Int) 0 = some r := h1
  rw [h3, Option.bind_some, Option.bind_some, h2]
  rfl
variable {l0 l1 : List S86} {ms : List S52} {a3 : Int}
theorem Stores_f (hs : Small ms) (j : Int) (k : Nat) (hk : 100000 < k) : pure_Stores.f k l0 l1 ms a3 j = some (if 0 ≤ j ∧ j < (ms.length : Int) then (sto ms j, 0) else (false, 2)) := by
  unfold pure_Stores.f
  by_cases h0 : j < 0
  · rw [if_pos h0, if_neg (by omega)]
  · by_cases h1 : j ≥ (ms.length : Int)
    · rw [if_neg h0, if_pos h1, if_neg (by omega)]
    · have hc := hs.code j (by omega) (by omega)
      rw [if_neg h0, if_neg h1, if_pos (by omega), if_pos (by omega), if_pos ⟨by omega, by omega⟩, stores_f _ _ _ _ _ _ _ _ hc k (by omega)]
      rfl
theorem pwhom_l0 (hs : Small ms) : ∀ m i : Nat, i + m = ms.length → (∀ j : Nat, j < i → cl_ok ms.length (nm ms j) = true) →
    (okAll ms ∧ pure_whom.l0 (m + 1) ((List.range i).map fun (j : Nat) => sset (nm ms j)) (ms.length : Int) (i : Int) l0 l1 ms a3 = some (ws ms, 0)) ∨
    (¬ okAll ms ∧ pure_whom.l0 (m + 1) ((List.range i).map fun (j : Nat) => sset (nm ms j)) (ms.length : Int) (i : Int) l0 l1 ms a3 = some ([], 2)) := by
  have hlen := hs.len
  intro m
  induction m with
  | zero =>
    intro i hi h
    obtain rfl : i = ms.length := by omega
    refine .inl ⟨h, ?_⟩
    rw [pure_whom.l0, if_neg (by omega)]
    rfl
  | succ m ih =>
    intro i hi h
    have hW := Whom_f (l0 := l0) (l1 := l1) (a3 := a3) hs (i : Int)
    rw [pure_whom.l0, if_pos (by omega)]
    by_cases hc : cl_ok ms.length (nm ms i) = true
    · rw [if_pos ⟨by omega, by omega, hc⟩] at hW
      rw [hW, Option.bind_some]
      have hw : wrap64 ((i : Int) + 1) = ((i + 1 : Nat) : Int) := by unfold wrap64; omega
      dsimp only
      rw [if_pos rfl, if_pos (by simp; omega), hw]
      have hr : ((List.range i).map fun (j : Nat) => sset (nm ms j)) ++ [sset (nm ms i)] = (List.range (i + 1)).map fun (j : Nat) => sset (nm ms j) := by rw [List.range_succ, List.map_append]; rfl
      rw [hr]
      exact ih (i + 1) (by omega) fun j hj => by
        by_cases e : j = i
        · subst e; exact hc
        · exact h j (by omega)
    · rw [if_neg (fun h2 => hc h2.2.2)] at hW
      rw [hW, Option.bind_some]
      exact .inr ⟨fun ho => hc (ho i (by omega)), rfl⟩
theorem pwhom_f (hs : Small ms) (k : Nat) (hk : 40 < k) : (okAll ms ∧ pure_whom.f k l0 l1 ms a3 = some (ws ms, 0)) ∨ (¬ okAll ms ∧ pure_whom.f k l0 l1 ms a3 = some ([], 2)) := by
  have hlen := hs.len
  rcases pwhom_l0 (l0 := l0) (l1 := l1) (a3 := a3) hs ms.length 0 (by omega) (fun _ h => absurd h (Nat.not_lt_zero _)) with ⟨h1, h2⟩ | ⟨h1, h2⟩
  · exact .inl ⟨h1, up (f := fun k => pure_whom.f k l0 l1 ms a3) (fun k => pure_whom.mono _ _ _ _ k) h2 k (by omega)⟩
  · exact .inr ⟨h1, up (f := fun k => pure_whom.f k l0 l1 ms a3) (fun k => pure_whom.mono _ _ _ _ k) h2 k (by omega)⟩
theorem ws_small (hs : Small ms) : (ws ms).all (fun l => decide (l.length ≤ 1000000)) = true := by
  refine List.all_eq_true.2 fun l hl => ?_
  obtain ⟨j, hj, rfl⟩ := List.mem_map.1 hl
  have hj := List.mem_range.1 hj
  have h1 := sset_len (nm ms j)
  have h2 : (nm ms j).length ≤ (rd_T52 ms j).f7.length := by unfold nm cl_names; rw [List.length_map]; exact List.length_filter_le _ _
  have h3 := hs.code j (by omega) (by omega)
  simp only [decide_eq_true_eq]
  omega
theorem ws_in (ho : okAll ms) : ∀ k : Int, 0 ≤ k → k < ((ws ms).length : Int) → ∀ x ∈ (ws ms).getD k.toNat [], 0 ≤ x ∧ x < ((ws ms).length : Int) := fun k h0 h1 x hx => (ws_ok ho k.toNat (by omega)).2 x hx
/-- The methods that aren't pure. -/
abbrev Impure (ms : List S52) (k : Int) : Prop := Bad (ws ms) (sto ms) k
theorem Pure_f (hs : Small ms) (k : Nat) (hk : 100000 < k) : (okAll ms ∧ ∃ o, pure_Pure.f k l0 l1 ms a3 = some (o, 0) ∧ o.length = ms.length ∧ ∀ j : Int, 0 ≤ j → j < (ms.length : Int) → (tr o j = false ↔ Impure ms j)) ∨ (¬ okAll ms ∧ pure_Pure.f k l0 l1 ms a3 = some ([], 2)) := by
  have hlen := hs.len
  rcases pwhom_f (l0 := l0) (l1 := l1) (a3 := a3) hs k (by omega) with ⟨ho, h⟩ | ⟨ho, h⟩
  · refine .inl ⟨ho, ?_⟩
    have hwl := ws_len (ms := ms)
    obtain ⟨q, o, h1, h2, h3, h4⟩ := pp_spec (whom := ws ms) (st := ppSt k ms) (s := sto ms) (ws_in ho) (by omega) (fun j j0 j1 => stores_f _ _ _ _ _ _ _ _ (hs.code j j0 (by omega)) k (by have := hs.code j j0 (by omega); omega)) k (by omega)
    refine ⟨o, ?_, by omega, fun j j0 j1 => h4 j j0 (by omega)⟩
    unfold pure_Pure.f
    rw [h, Option.bind_some]
    dsimp only
    rw [if_pos rfl, if_pos ⟨by omega, by omega, ws_small hs⟩]
    rw [hwl] at h1
    rw [hwl, h1, Option.bind_some]
    rw [hwl] at h2
    rw [h2]
    rfl
  · refine .inr ⟨ho, ?_⟩
    unfold pure_Pure.f
    rw [h, Option.bind_some]
    rfl
end Go.Proofs.Ytkmnachdibhdhaa.M
