/- PureMost: where just the pure ones say so, they say well; where one more says so, they don't. -/
import Derived.Test.YtkmnachdibhdhaaT1
import Derived.Test.YtkmnachdibhdhaaT4
import Derived.Test.YtkmnachdibhdhaaT5
import Derived.Test.YtkmnachdibhdhaaT7
import Derived.Test.YtkmnachdibhdhaaLCopy
import Derived.Test.YtkmnachdibhdhaaLPure2
namespace Go.Proofs.Ytkmnachdibhdhaa.Pure
open Go.RowKit Go.Proofs.Ytkmnachdibhdhaa.T Go.Proofs.Ytkmnachdibhdhaa.M Go.Proofs.YtkmnachdibhdhaaW.PrintWords Go.Proofs.YtkmnachdibhdhaaW.PrintLast Go.Proofs.YtkmnachdibhdhaaW.PrintMore

/-- The same code; who says so is told by r. -/
def Like (ms w : List S52) (r : Int → Bool) : Prop := w.length = ms.length ∧ ∀ j : Int, 0 ≤ j → j < (ms.length : Int) → (rd_T52 w j).f7 = (rd_T52 ms j).f7 ∧ reads w j = r j
section
variable {l0 l1 : List S86} {ms w : List S52} {a3 : Int} {r : Int → Bool}
theorem rd_set {x : List S52} {i : Int} (h0 : 0 ≤ i) (h1 : i < (x.length : Int)) (y : S52) (j : Int) (j0 : 0 ≤ j) : rd_T52 (x.set i.toNat y) j = if j = i then y else rd_T52 x j := by
  unfold rd_T52
  by_cases e : j = i
  · subst e
    rw [if_pos rfl, List.getD_eq_getElem?_getD, List.getElem?_set_self (by omega)]
    rfl
  · rw [if_neg e, List.getD_eq_getElem?_getD, List.getElem?_set_ne (by omega), ← List.getD_eq_getElem?_getD]
theorem like_nm (h : Like ms w r) (j : Int) (j0 : 0 ≤ j) (j1 : j < (ms.length : Int)) : nm w j = nm ms j := by unfold nm; rw [(h.2 j j0 j1).1]
theorem like_ws (h : Like ms w r) : ws w = ws ms := by
  unfold ws
  rw [h.1]
  exact List.map_congr_left fun j hj => by rw [like_nm h (j : Int) (by omega) (by have := List.mem_range.1 hj; omega)]
theorem like_ok (h : Like ms w r) (ho : okAll ms) : okAll w := by
  intro j hj
  rw [h.1] at hj ⊢
  rw [like_nm h (j : Int) (by omega) (by omega)]
  exact ho j hj
theorem like_small (h : Like ms w r) (hs : Small ms) : Small w := ⟨by rw [h.1]; exact hs.len, fun j j0 j1 => by rw [h.1] at j1; rw [(h.2 j j0 j1).1]; exact hs.code j j0 j1⟩
theorem like_sto (h : Like ms w r) (j : Int) (j0 : 0 ≤ j) (j1 : j < (ms.length : Int)) : sto w j = sto ms j := by unfold sto; rw [(h.2 j j0 j1).1]
theorem say_l0 (o : List Bool) (ho : o.length = ms.length) (hl : ms.length ≤ 40) : ∀ (m i : Nat) (x : List S52), m + i = ms.length → x.length = ms.length → (∀ j : Int, 0 ≤ j → j < (i : Int) → (rd_T52 x j).f7 = (rd_T52 ms j).f7 ∧ reads x j = tr o j) → (∀ j : Int, (i : Int) ≤ j → rd_T52 x j = rd_T52 ms j) →
    ∃ w, pure_Say.l0 (m + 1) o (ms.length : Int) (i : Int) l0 l1 x a3 = some (l0, l1, w, a3, 0) ∧ Like ms w (tr o) := by
  intro m
  induction m with
  | zero =>
    intro i x hi hx h1 _
    obtain rfl : i = ms.length := by omega
    exact ⟨x, by rw [pure_Say.l0, if_neg (by omega)], hx, h1⟩
  | succ m ih =>
    intro i x hi hx h1 h2
    have hw : wrap64 ((i : Int) + 1) = ((i + 1 : Nat) : Int) := by unfold wrap64; omega
    rw [pure_Say.l0, if_pos (by omega), if_pos (by omega), if_pos (by omega), if_pos (by omega), hw]
    refine ih (i + 1) _ (by omega) (by rw [List.length_set]; exact hx) (fun j j0 j1 => ?_) (fun j j1 => ?_)
    · unfold reads
      rw [rd_set (by omega) (by omega) _ j j0]
      by_cases e : j = (i : Int)
      · subst e
        rw [if_pos rfl]
        exact ⟨by rw [h2 _ (Int.le_refl _)], rfl⟩
      · rw [if_neg e]; exact h1 j j0 (by omega)
    · rw [rd_set (by omega) (by omega) _ j (by omega), if_neg (by omega)]
      exact h2 j (by omega)
theorem impure_other {whom : List (List Int)} {s : Int → Bool} {k : Int} (h : Bad whom s k) : s k = true ∨ ∃ x ∈ whom.getD k.toNat [], x ≠ k ∧ Bad whom s x := by
  induction h with
  | store _ _ h => exact .inl h
  | call h0 h1 hx hb ih =>
    rename_i k x
    by_cases e : x = k
    · subst e; exact ih
    · exact .inr ⟨x, hx, e, hb⟩
theorem pm_well (ho : okAll ms) (o : List Bool) (hop : ∀ j : Int, 0 ≤ j → j < (ms.length : Int) → (tr o j = false ↔ Impure ms j)) (h : Like ms w (tr o)) : Well w := by
  intro j j0 j1 hr
  rw [h.1] at j1
  rw [(h.2 j j0 j1).2] at hr
  have hni : ¬ Impure ms j := fun hb => by rw [(hop j j0 j1).2 hb] at hr; cases hr
  rw [like_sto h j j0 j1, like_ws h]
  refine ⟨?_, fun x hx => ?_⟩
  · cases hs : sto ms j with
    | false => rfl
    | true => exact absurd (.store j0 (by rw [ws_len]; exact j1) hs) hni
  · have hxr := ws_in ho j j0 (by rw [ws_len]; exact j1) x hx
    rw [ws_len] at hxr
    rw [(h.2 x hxr.1 hxr.2).2]
    cases ht : tr o x with
    | true => rfl
    | false => exact absurd (.call j0 (by rw [ws_len]; exact j1) hx ((hop x hxr.1 hxr.2).1 ht)) hni
theorem pm_l0 (hs : Small ms) (ho : okAll ms) (o : List Bool) (hol : o.length = ms.length) (hop : ∀ j : Int, 0 ≤ j → j < (ms.length : Int) → (tr o j = false ↔ Impure ms j)) (h : Like ms w (tr o)) (a1 : Int) :
    ∀ m i : Nat, m + i = ms.length → ∀ k, 100002 + m ≤ k → capstanlaw13_PureMost.l0 k a1 o (i : Int) l0 l1 w a3 = some true := by
  have hlen := hs.len
  have hwl := h.1
  intro m
  induction m with
  | zero =>
    intro i hi k hk
    obtain ⟨k, rfl⟩ : ∃ k', k = k' + 1 := ⟨k - 1, by omega⟩
    rw [capstanlaw13_PureMost.l0, if_neg (by omega)]
    by_cases c0 : a1 < 0
    · rw [if_pos c0]
    · by_cases c1 : a1 ≥ (o.length : Int)
      · rw [if_neg c0, if_pos c1]
      · rw [if_neg c0, if_neg c1, if_pos (by omega), if_pos (by omega)]
        change (if tr o a1 = true then _ else _) = _
        by_cases ct : tr o a1 = true
        · rw [if_pos ct]
        · rw [if_neg ct, if_pos (by omega)]
          have a0 : 0 ≤ a1 := by omega
          have a2 : a1 < (ms.length : Int) := by omega
          have himp : Impure ms a1 := (hop a1 a0 a2).1 (by simpa using ct)
          obtain ⟨w2, hw2⟩ : ∃ w2, w2 = w.set a1.toNat (⟨(rd_T52 w a1).f0, (rd_T52 w a1).f1, (rd_T52 w a1).f2, true, (rd_T52 w a1).f4, (rd_T52 w a1).f5, (rd_T52 w a1).f6, (rd_T52 w a1).f7⟩ : S52) := ⟨_, rfl⟩
          rw [← hw2]
          have hl2 : Like ms w2 (fun j => if j = a1 then true else tr o j) := by
            subst hw2
            refine ⟨by rw [List.length_set]; exact hwl, fun j j0 j1 => ?_⟩
            unfold reads
            rw [rd_set a0 (by omega) _ j j0]
            by_cases e : j = a1
            · subst e; simp only [if_pos]; exact ⟨(h.2 j j0 j1).1, trivial⟩
            · simp only [if_neg e]; exact h.2 j j0 j1
          rcases Check_f (l0 := l0) (l1 := l1) (a3 := a3) (like_small hl2 hs) k (by omega) with ⟨_, hW, _⟩ | ⟨_, _, hc⟩ | ⟨hno, _⟩
          · exfalso
            have hr : reads w2 a1 = true := by rw [(hl2.2 a1 a0 a2).2]; simp
            have hwa := hW a1 a0 (by rw [hl2.1]; exact a2) hr
            rw [like_sto hl2 a1 a0 a2, like_ws hl2] at hwa
            rcases impure_other himp with hst | ⟨x, hx, hne, hb⟩
            · rw [hst] at hwa; cases hwa.1
            · have hxr := ws_in ho a1 a0 (by rw [ws_len]; exact a2) x hx
              rw [ws_len] at hxr
              have := hwa.2 x hx
              rw [(hl2.2 x hxr.1 hxr.2).2] at this
              dsimp only at this
              rw [if_neg hne, (hop x hxr.1 hxr.2).2 hb] at this
              cases this
          · rw [hc]; rfl
          · exact absurd (like_ok hl2 ho) hno
  | succ m ih =>
    intro i hi k hk
    obtain ⟨k, rfl⟩ : ∃ k', k = k' + 1 := ⟨k - 1, by omega⟩
    have hw : wrap64 ((i : Int) + 1) = ((i + 1 : Nat) : Int) := by unfold wrap64; omega
    have hri : (rd_T52 w (i : Int)).f3 = rdOf false o (i : Int) := (h.2 (i : Int) (by omega) (by omega)).2
    rw [capstanlaw13_PureMost.l0, if_pos (by omega), if_pos (by omega), if_pos (by omega), if_neg (by rw [hri]; simp), hw]
    exact ih (i + 1) (by omega) k (by omega)
end
theorem PureMost : capstanlaw13_PureMost.Pure := by
  intro l0 l1 ms a3 a1 _ _
  refine ⟨200000, ?_⟩
  unfold capstanlaw13_PureMost.f
  rw [pawake_f _ (by omega), Option.bind_some, if_pos rfl]
  rcases great_f (l0 := l0) (l1 := l1) (ms := ms) (a3 := a3) with hg | ⟨hg, hs, hv0, hv1, h300⟩
  · rw [up (f := fun k => capstanlaw08_Great.f k l0 l1 ms a3) (fun k => capstanlaw08_Great.mono _ _ _ _ k) hg _ (by omega), Option.bind_some, if_pos rfl]
  · have hlen := hs.len
    have hf : Few ms := great_few hlen hg
    rw [up (f := fun k => capstanlaw08_Great.f k l0 l1 ms a3) (fun k => capstanlaw08_Great.mono _ _ _ _ k) hg _ (by omega), Option.bind_some, if_neg (by decide)]
    rcases Pure_f (l0 := l0) (l1 := l1) (a3 := a3) hs 200000 (by omega) with ⟨ho, o, h1, h2, h3⟩ | ⟨ho, h1⟩
    · have hgood : mcGood ms = true := by
        refine List.all_eq_true.2 fun x hx => ?_
        obtain ⟨j, hj, rfl⟩ := List.mem_iff_getElem.1 hx
        have e : rd_T52 ms (j : Int) = ms[j] := by simp [rd_T52, hj]
        have a := hf j hj
        have b := h300 (j : Int) (by omega) (by omega)
        rw [e] at a b
        simp only [Bool.and_eq_true, decide_eq_true_eq]
        exact ⟨⟨by omega, by omega⟩, by omega⟩
      have hcopy : module_Copy.f l0 l1 ms a3 = some (l0, l1, ms, a3) := by
        unfold module_Copy.f
        rw [if_pos ⟨by omega, by omega, by omega, hgood⟩]
      obtain ⟨w, hw1, hw2⟩ := say_l0 (l0 := l0) (l1 := l1) (a3 := a3) o h2 hlen ms.length 0 ms (by omega) rfl (fun j j0 j1 => by omega) (fun j _ => rfl)
      have hsay : pure_Say.f 200000 l0 l1 ms a3 = some (l0, l1, w, a3, 0) := by
        unfold pure_Say.f
        rw [h1, Option.bind_some]
        dsimp only
        rw [if_pos rfl, hcopy, Option.bind_some]
        exact up (f := fun k => pure_Say.l0 k o (ms.length : Int) 0 l0 l1 ms a3) (fun k => pure_Say.mono_l k _ _ _ _ _ _ _) hw1 _ (by omega)
      have hchk : pure_Check.f 199999 l0 l1 w a3 = some 0 := by
        rcases Check_f (l0 := l0) (l1 := l1) (a3 := a3) (like_small hw2 hs) 199999 (by omega) with ⟨_, _, h⟩ | ⟨_, h, _⟩ | ⟨h, _⟩
        · exact h
        · exact absurd (pm_well ho o h3 hw2) h
        · exact absurd (like_ok hw2 ho) h
      rw [hsay, Option.bind_some, h1, Option.bind_some]
      dsimp only
      rw [if_pos rfl, capstanlaw13_PureMost.j0, if_neg (by decide), if_pos (by have := hw2.1; omega), if_pos (by omega), hchk, Option.bind_some, capstanlaw13_PureMost.j1, if_neg (by decide)]
      exact pm_l0 hs ho o h2 h3 hw2 a1 ms.length 0 (by omega) _ (by omega)
    · have hsay : pure_Say.f 200000 l0 l1 ms a3 = some ([], [], [], 0, 2) := by
        unfold pure_Say.f
        rw [h1, Option.bind_some]
        rfl
      have hchk : pure_Check.f 199999 l0 l1 ms a3 = some 2 := by
        rcases Check_f (l0 := l0) (l1 := l1) (a3 := a3) hs 199999 (by omega) with ⟨h, _⟩ | ⟨h, _⟩ | ⟨_, h⟩
        · exact absurd h ho
        · exact absurd h ho
        · exact h
      rw [hsay, Option.bind_some, h1, Option.bind_some]
      dsimp only
      rw [if_pos rfl, capstanlaw13_PureMost.j0, if_pos (by decide), if_pos rfl, hchk, Option.bind_some]
      rfl
end Go.Proofs.Ytkmnachdibhdhaa.Pure
