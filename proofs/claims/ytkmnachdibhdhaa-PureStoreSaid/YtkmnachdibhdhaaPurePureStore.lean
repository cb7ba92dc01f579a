/- PureStore: with one more OpStore no method is pure that wasn't; those that don't lead there stay as they were. -/
import Derived.Test.YtkmnachdibhdhaaS1
import Derived.Test.YtkmnachdibhdhaaS4
import Derived.Test.YtkmnachdibhdhaaS6
import Derived.Test.YtkmnachdibhdhaaS7
import Derived.Test.YtkmnachdibhdhaaS8
import Derived.Test.YtkmnachdibhdhaaLCopy
import Derived.Test.YtkmnachdibhdhaaLCalls5
import Derived.Test.YtkmnachdibhdhaaLPure2
namespace Go.Proofs.Ytkmnachdibhdhaa.Pure
open Go.RowKit Go.Proofs.Ytkmnachdibhdhaa.S Go.Proofs.Ytkmnachdibhdhaa.M Go.Proofs.YtkmnachdibhdhaaW.PrintWords Go.Proofs.YtkmnachdibhdhaaW.PrintLast Go.Proofs.YtkmnachdibhdhaaW.PrintMore

theorem leads_pre {whom : List (List Int)} {j y x : Int} (h : y ∈ whom.getD j.toNat []) (hl : LeadsTo whom y x) : LeadsTo whom j x := by
  induction hl with
  | one h2 => exact .step (.one h) h2
  | step _ h2 ih => exact .step ih h2
theorem bad_more {whom : List (List Int)} {s s' : Int → Bool} {k : Int} (hs : ∀ j, 0 ≤ j → j < (whom.length : Int) → s' j = true → s j = true ∨ j = k) {j : Int} (h : Bad whom s' j) : Bad whom s j ∨ j = k ∨ LeadsTo whom j k := by
  induction h with
  | store h0 h1 h2 =>
    rcases hs _ h0 h1 h2 with h | h
    · exact .inl (.store h0 h1 h)
    · exact .inr (.inl h)
  | call h0 h1 h2 _ ih =>
    rcases ih with h | h | h
    · exact .inl (.call h0 h1 h2 h)
    · exact .inr (.inr (.one (h ▸ h2)))
    · exact .inr (.inr (leads_pre h2 h))
theorem bad_mono {whom : List (List Int)} {s s' : Int → Bool} (hs : ∀ j, 0 ≤ j → j < (whom.length : Int) → s j = true → s' j = true) {j : Int} (h : Bad whom s j) : Bad whom s' j := by
  induction h with
  | store h0 h1 h2 => exact .store h0 h1 (hs _ h0 h1 h2)
  | call h0 h1 h2 _ ih => exact .call h0 h1 h2 ih
theorem lead_bad {whom : List (List Int)} {s : Int → Bool} (hw : ∀ k : Int, 0 ≤ k → k < (whom.length : Int) → ∀ x ∈ whom.getD k.toNat [], 0 ≤ x ∧ x < (whom.length : Int)) {j x : Int} (h0 : 0 ≤ j) (h1 : j < (whom.length : Int)) (h : LeadsTo whom j x) : (0 ≤ x ∧ x < (whom.length : Int)) ∧ (Bad whom s x → Bad whom s j) := by
  induction h with
  | one h => exact ⟨hw j h0 h1 _ h, fun hb => .call h0 h1 h hb⟩
  | step _ h ih => exact ⟨hw _ ih.1.1 ih.1.2 _ h, fun hb => ih.2 (.call ih.1.1 ih.1.2 h hb)⟩
section
variable {l0 l1 : List S86} {ms : List S52} {a3 : Int}
/-- One more OpStore. -/
def more (ms : List S52) (k : Int) : List S52 := ms.set k.toNat ⟨(rd_T52 ms k).f0, (rd_T52 ms k).f1, (rd_T52 ms k).f2, (rd_T52 ms k).f3, (rd_T52 ms k).f4, (rd_T52 ms k).f5, (rd_T52 ms k).f6, (rd_T52 ms k).f7 ++ [⟨5, 0, 0⟩]⟩
theorem more_len (ms : List S52) (k : Int) : (more ms k).length = ms.length := by simp [more]
theorem more_code {k : Int} (h0 : 0 ≤ k) (h1 : k < (ms.length : Int)) (j : Int) (j0 : 0 ≤ j) : (rd_T52 (more ms k) j).f7 = if j = k then (rd_T52 ms k).f7 ++ [⟨5, 0, 0⟩] else (rd_T52 ms j).f7 := by
  unfold more rd_T52
  by_cases e : j = k
  · subst e
    rw [if_pos rfl, List.getD_eq_getElem?_getD, List.getElem?_set_self (by omega)]
    rfl
  · rw [if_neg e, List.getD_eq_getElem?_getD, List.getElem?_set_ne (by omega), ← List.getD_eq_getElem?_getD]
theorem more_nm {k : Int} (h0 : 0 ≤ k) (h1 : k < (ms.length : Int)) (j : Int) (j0 : 0 ≤ j) : nm (more ms k) j = nm ms j := by
  unfold nm
  rw [more_code h0 h1 j j0]
  by_cases e : j = k
  · subst e
    rw [if_pos rfl]
    unfold cl_names
    simp
  · rw [if_neg e]
theorem more_ws {k : Int} (h0 : 0 ≤ k) (h1 : k < (ms.length : Int)) : ws (more ms k) = ws ms := by
  unfold ws
  rw [more_len]
  exact List.map_congr_left fun j _ => by rw [more_nm h0 h1 (j : Int) (by omega)]
theorem more_ok {k : Int} (h0 : 0 ≤ k) (h1 : k < (ms.length : Int)) : okAll (more ms k) ↔ okAll ms := by
  unfold okAll
  rw [more_len]
  exact ⟨fun h j hj => by rw [← more_nm h0 h1 (j : Int) (by omega)]; exact h j hj, fun h j hj => by rw [more_nm h0 h1 (j : Int) (by omega)]; exact h j hj⟩
theorem more_small {k : Int} (h0 : 0 ≤ k) (h1 : k < (ms.length : Int)) (hs : Small ms) (hk : (rd_T52 ms k).f7.length ≤ 290) : Small (more ms k) := by
  refine ⟨by rw [more_len]; exact hs.len, fun j j0 j1 => ?_⟩
  rw [more_len] at j1
  rw [more_code h0 h1 j j0]
  split
  · rw [List.length_append, List.length_singleton]; omega
  · exact hs.code j j0 j1
theorem more_sto {k : Int} (h0 : 0 ≤ k) (h1 : k < (ms.length : Int)) (j : Int) (j0 : 0 ≤ j) : sto (more ms k) j = (sto ms j || decide (j = k)) := by
  unfold sto
  rw [more_code h0 h1 j j0]
  by_cases e : j = k
  · subst e
    rw [if_pos rfl]
    unfold stc
    simp
  · rw [if_neg e]; simp [e]
theorem st_l1 (k : Int) (was now : List Bool) (j : Int) (leads : List Int) (hl : leads.length ≤ 1000000) (g : Int) : ∀ s (i : Nat) (flag : Bool), i + s = leads.length →
    (∃ q, capstanlaw13_PureStore.l1 q k was now j leads g (flag || (leads.drop i).contains k) (leads.length : Int) l0 l1 ms a3 = some true) → ∃ q, capstanlaw13_PureStore.l1 q k was now j leads g flag (i : Int) l0 l1 ms a3 = some true := by
  intro s
  induction s with
  | zero =>
    intro i flag h hq
    obtain rfl : i = leads.length := by omega
    rwa [List.drop_length, List.contains_nil, Bool.or_false] at hq
  | succ s ih =>
    intro i flag h hq
    have hil : i < leads.length := by omega
    have hw : wrap64 ((i : Int) + 1) = ((i + 1 : Nat) : Int) := by unfold wrap64; omega
    rw [List.drop_eq_getElem_cons hil, List.contains_cons] at hq
    have hrd : rd leads (i : Int) = leads[i] := by simp [rd, hil]
    cases flag
    · have hq2 : ∃ q, capstanlaw13_PureStore.l1 q k was now j leads g ((leads[i] == k) || (leads.drop (i + 1)).contains k) (leads.length : Int) l0 l1 ms a3 = some true := by
        rw [Bool.false_or, show (k == leads[i]) = (leads[i] == k) from Bool.beq_comm] at hq
        exact hq
      obtain ⟨q, h2⟩ := ih (i + 1) _ (by omega) hq2
      exact ⟨q + 1, by rw [capstanlaw13_PureStore.l1, if_pos (by omega), if_neg (by decide), if_pos (by omega), hrd, hw]; exact h2⟩
    · obtain ⟨q, h2⟩ := ih (i + 1) true (by omega) (by simpa using hq)
      exact ⟨q + 1, by rw [capstanlaw13_PureStore.l1, if_pos (by omega), if_pos rfl, hw]; exact h2⟩
/-- What the round asks of a method. -/
theorem st_end (k : Int) (was now : List Bool) (i : Nat) (leads : List Int) (g : Int) (there : Bool) (hw1 : i < was.length) (hn1 : i < now.length) (hsub : tr now (i : Int) = true → tr was (i : Int) = true) (hth : there = true → tr now (i : Int) = false) (hsame : g = 0 → there = false → tr now (i : Int) = tr was (i : Int))
    (hnext : ∃ q, capstanlaw13_PureStore.l0 q k was now (wrap64 ((i : Int) + 1)) l0 l1 ms a3 = some true) : ∃ q, capstanlaw13_PureStore.l1 q k was now (i : Int) leads g there (leads.length : Int) l0 l1 ms a3 = some true := by
  obtain ⟨q, hq⟩ := hnext
  refine ⟨q + 1, ?_⟩
  rw [capstanlaw13_PureStore.l1, if_neg (by omega), if_pos (by omega), if_pos (by omega)]
  change (if tr now (i : Int) = true then _ else _) = _
  cases hn : tr now (i : Int) with
  | true =>
    have hwas := hsub hn
    have ht : there = false := by
      cases there with
      | false => rfl
      | true => have := hth rfl; rw [hn] at this; cases this
    subst ht
    rw [if_pos rfl, if_pos (by omega), if_pos (show rdOf false was (i : Int) = true from hwas), if_neg (by decide)]
    by_cases hg : g = 0
    · rw [if_pos hg, if_neg (by rw [show rdOf false now (i : Int) = true from hn, show rdOf false was (i : Int) = true from hwas]; decide)]
      exact hq
    · rw [if_neg hg]; exact hq
  | false =>
    rw [if_neg (by decide)]
    cases there with
    | true =>
      rw [if_pos rfl]
      split <;> exact hq
    | false =>
      rw [if_neg (by decide)]
      by_cases hg : g = 0
      · have hwas := hsame hg rfl
        rw [hn] at hwas
        rw [if_pos hg, if_pos (by omega), if_neg (by rw [show rdOf false now (i : Int) = false from hn, show rdOf false was (i : Int) = false from hwas.symm]; decide)]
        exact hq
      · rw [if_neg hg]; exact hq
theorem st_l0 (hs : Small ms) (ho : okAll ms) (k : Int) (h0 : 0 ≤ k) (h1 : k < (ms.length : Int)) (was now : List Bool) (hwl : was.length = ms.length) (hnl : now.length = ms.length)
    (hwas : ∀ j : Int, 0 ≤ j → j < (ms.length : Int) → (tr was j = false ↔ Impure ms j)) (hnow : ∀ j : Int, 0 ≤ j → j < (ms.length : Int) → (tr now j = false ↔ Bad (ws ms) (sto (more ms k)) j)) :
    ∀ m i : Nat, m + i = ms.length → ∃ q, capstanlaw13_PureStore.l0 q k was now (i : Int) l0 l1 ms a3 = some true := by
  have hlen := hs.len
  intro m
  induction m with
  | zero => intro i hi; exact ⟨1, by rw [capstanlaw13_PureStore.l0, if_neg (by omega)]⟩
  | succ m ih =>
    intro i hi
    have hnx := ih (i + 1) (by omega)
    have hw : wrap64 ((i : Int) + 1) = ((i + 1 : Nat) : Int) := by unfold wrap64; omega
    rw [← hw] at hnx
    have hin := ws_in ho
    have hsub : tr now (i : Int) = true → tr was (i : Int) = true := fun h => by
      cases hb : tr was (i : Int) with
      | true => rfl
      | false =>
        have h2 := (hnow (i : Int) (by omega) (by omega)).2 (bad_mono (fun j j0 j1 h => by rw [more_sto h0 h1 j j0, h]; rfl) ((hwas (i : Int) (by omega) (by omega)).1 hb))
        rw [h] at h2; cases h2
    have hkbad : Bad (ws ms) (sto (more ms k)) k := .store h0 (by rw [ws_len]; exact h1) (by rw [more_sto h0 h1 k h0]; simp)
    have main : ∃ (q : Nat) (l : List Int) (g : Int), calls_Leads.f q l0 l1 ms a3 (i : Int) = some (l, g) ∧ ∃ q, capstanlaw13_PureStore.l1 q k was now (i : Int) l g ((i : Int) == k) 0 l0 l1 ms a3 = some true := by
      have err : ∀ g : Int, g ≠ 0 → calls_Order.f 41 l0 l1 ms a3 = some ([], g) → ∃ (q : Nat) (l : List Int) (g : Int), calls_Leads.f q l0 l1 ms a3 (i : Int) = some (l, g) ∧ ∃ q, capstanlaw13_PureStore.l1 q k was now (i : Int) l g ((i : Int) == k) 0 l0 l1 ms a3 = some true := fun g hg h => by
        refine ⟨41, [], g, ?_, st_end k was now i [] g ((i : Int) == k) (by omega) (by omega) hsub (fun ht => ?_) (fun h => absurd h hg) hnx⟩
        · unfold calls_Leads.f calls_Check.f
          rw [h, Option.bind_some, Option.bind_some, if_neg hg]
        · have e : (i : Int) = k := by simpa using ht
          rw [e]
          exact (hnow k h0 h1).2 hkbad
      rcases Order_f (l0 := l0) (l1 := l1) (a3 := a3) hs with ⟨_, od, h, hOrd⟩ | ⟨_, _, h⟩ | ⟨h, _⟩
      · obtain ⟨q, l, h1', h2, h3⟩ := Leads_f hs ho h hOrd (i : Int) ⟨by omega, by omega⟩
        have hall := fun x hx => (lead_bad (s := sto ms) hin (j := (i : Int)) (by omega) (by rw [ws_len]; omega) ((h3 x).1 hx)).1
        have hll := nodup_sub (a := l) (b := od) (h2.imp fun h => by omega) fun x hx => hOrd.all x (hall x hx).1 (hall x hx).2
        have hol2 := hOrd.length
        rw [ws_len] at hol2
        refine ⟨q, l, 0, h1', st_l1 k was now (i : Int) l (by omega) 0 l.length 0 _ (by omega) (st_end k was now i l 0 _ (by omega) (by omega) hsub (fun ht => ?_) (fun _ ht => ?_) hnx)⟩
        · rw [List.drop_zero] at ht
          rcases Bool.or_eq_true_iff.1 ht with ht | ht
          · have e : (i : Int) = k := by simpa using ht
            rw [e]
            exact (hnow k h0 h1).2 hkbad
          · have hmem : k ∈ l := by simpa using ht
            exact (hnow (i : Int) (by omega) (by omega)).2 ((lead_bad hin (j := (i : Int)) (by omega) (by rw [ws_len]; omega) ((h3 k).1 hmem)).2 hkbad)
        · rw [List.drop_zero] at ht
          obtain ⟨ht1, ht2⟩ := Bool.or_eq_false_iff.1 ht
          have e1 : (i : Int) ≠ k := by simpa using ht1
          have e2 : ¬ LeadsTo (ws ms) (i : Int) k := fun h => by
            have : l.contains k = true := by simpa using (h3 k).2 h
            rw [ht2] at this
            cases this
          cases hn : tr now (i : Int) with
          | true => exact (hsub hn).symm
          | false =>
            have hb := (hnow (i : Int) (by omega) (by omega)).1 hn
            rcases bad_more (k := k) (s := sto ms) (fun j j0 j1 h => by rw [more_sto h0 h1 j j0] at h; simpa using h) hb with h | h | h
            · exact ((hwas (i : Int) (by omega) (by omega)).2 h).symm
            · exact absurd h e1
            · exact absurd h e2
      · exact err 110 (by decide) h
      · exact absurd ho h
    obtain ⟨q, l, g, h1', q2, hq2⟩ := main
    refine ⟨q + q2 + 1 + 1, ?_⟩
    rw [capstanlaw13_PureStore.l0, if_pos (by omega), up (f := fun k => calls_Leads.f k l0 l1 ms a3 (i : Int)) (fun k => calls_Leads.mono _ _ _ _ _ k) h1' (q + q2 + 1) (by omega), Option.bind_some]
    dsimp only
    rw [capstanlaw13_PureStore.j3]
    exact up (f := fun q => capstanlaw13_PureStore.l1 q k was now (i : Int) l g ((i : Int) == k) 0 l0 l1 ms a3) (fun q => (capstanlaw13_PureStore.mono_l q).2.2.2.2 _ _ _ _ _ _ _ _ _ _ _ _) hq2 _ (by omega)
end
theorem PureStore : capstanlaw13_PureStore.Pure := by
  intro l0 l1 ms a3 k _ _
  have aw := pawake_f
  have skip : ∀ (q : Nat) (b : Bool), b = true → capstanlaw13_PureStore.j0 (q + 1) k b l0 l1 ms a3 = some true := fun q b hb => by rw [hb, capstanlaw13_PureStore.j0, if_pos rfl]
  rcases great_f (l0 := l0) (l1 := l1) (ms := ms) (a3 := a3) with hg | ⟨hg, hs, hv0, hv1, h300⟩
  · refine ⟨100002, ?_⟩
    unfold capstanlaw13_PureStore.f
    rw [pawake_f _ (by omega), Option.bind_some, if_pos rfl, up (f := fun k => capstanlaw08_Great.f k l0 l1 ms a3) (fun k => capstanlaw08_Great.mono _ _ _ _ k) hg _ (by omega), Option.bind_some, if_pos rfl]
    exact skip _ _ rfl
  · have hgu := fun q (hq : 60 ≤ q) => up (f := fun k => capstanlaw08_Great.f k l0 l1 ms a3) (fun k => capstanlaw08_Great.mono _ _ _ _ k) hg q hq
    have hlen := hs.len
    have hf : Few ms := great_few hlen hg
    have start : (∃ q, ∃ b, (k < 0 ∨ k ≥ (ms.length : Int) → b = true) ∧ (0 ≤ k → k < (ms.length : Int) → b = decide (((rd_T52 ms k).f7.length : Int) > 290)) ∧ capstanlaw13_PureStore.j0 q k b l0 l1 ms a3 = some true) → ∃ q, capstanlaw13_PureStore.f q l0 l1 ms a3 k = some true := by
      rintro ⟨q, b, hb1, hb2, hq⟩
      refine ⟨q + 100001, ?_⟩
      have hq2 := up (f := fun q => capstanlaw13_PureStore.j0 q k b l0 l1 ms a3) (fun q => (capstanlaw13_PureStore.mono_l q).1 _ _ _ _ _ _) hq (q + 100001) (by omega)
      unfold capstanlaw13_PureStore.f
      rw [pawake_f _ (by omega), Option.bind_some, if_pos rfl, hgu _ (by omega), Option.bind_some, if_neg (by decide)]
      by_cases k0 : k < 0
      · rw [hb1 (.inl k0)] at hq2; rw [if_pos k0]; exact hq2
      · by_cases k1 : k ≥ (ms.length : Int)
        · rw [hb1 (.inr k1)] at hq2; rw [if_neg k0, if_pos k1]; exact hq2
        · rw [hb2 (by omega) (by omega)] at hq2
          rw [if_neg k0, if_neg k1, if_pos (by omega), if_pos (by omega)]
          exact hq2
    refine start ?_
    by_cases hr : 0 ≤ k ∧ k < (ms.length : Int)
    case neg => exact ⟨1, true, fun _ => rfl, fun a b => absurd ⟨a, b⟩ hr, skip 0 true rfl⟩
    obtain ⟨h0, h1⟩ := hr
    have fin : (∃ q, capstanlaw13_PureStore.j0 q k (decide (((rd_T52 ms k).f7.length : Int) > 290)) l0 l1 ms a3 = some true) → ∃ q, ∃ b, (k < 0 ∨ k ≥ (ms.length : Int) → b = true) ∧ (0 ≤ k → k < (ms.length : Int) → b = decide (((rd_T52 ms k).f7.length : Int) > 290)) ∧ capstanlaw13_PureStore.j0 q k b l0 l1 ms a3 = some true := fun ⟨q, hq⟩ => ⟨q, _, fun h => by omega, fun _ _ => rfl, hq⟩
    refine fin ?_
    by_cases h290 : ((rd_T52 ms k).f7.length : Int) > 290
    · exact ⟨1, skip 0 _ (decide_eq_true h290)⟩
    · have hs' := more_small h0 h1 hs (by omega)
      have step : ∀ (q : Nat) (was now : List Bool) (e : Int), was.length = now.length → pure_Pure.f 100001 l0 l1 ms a3 = some (was, e) → pure_Pure.f 100001 l0 l1 (more ms k) a3 = some (now, e) → capstanlaw13_PureStore.l0 q k was now 0 l0 l1 ms a3 = some true → ∃ q, capstanlaw13_PureStore.j0 q k (decide (((rd_T52 ms k).f7.length : Int) > 290)) l0 l1 ms a3 = some true := by
        intro q was now e hl hw hn hq
        refine ⟨q + 100001 + 1 + 1, ?_⟩
        have hn2 := up (f := fun q => pure_Pure.f q l0 l1 (more ms k) a3) (fun q => pure_Pure.mono _ _ _ _ q) hn (q + 100001 + 1) (by omega)
        unfold more at hn2
        rw [decide_eq_false h290, capstanlaw13_PureStore.j0, if_neg (by decide), up (f := fun q => pure_Pure.f q l0 l1 ms a3) (fun q => pure_Pure.mono _ _ _ _ q) hw (q + 100001 + 1) (by omega), Option.bind_some, copy_f hs hf hv0 hv1 (q + 100001 + 1) (by omega), Option.bind_some]
        dsimp only
        rw [if_pos h0, if_pos h1, if_pos (by omega), hn2, Option.bind_some]
        dsimp only
        rw [if_pos rfl, capstanlaw13_PureStore.j1, if_neg (by rw [hl]; simp)]
        exact up (f := fun q => capstanlaw13_PureStore.l0 q k was now 0 l0 l1 ms a3) (fun q => (capstanlaw13_PureStore.mono_l q).2.2.1 _ _ _ _ _ _ _ _) hq (q + 100001) (by omega)
      rcases Pure_f (l0 := l0) (l1 := l1) (a3 := a3) hs 100001 (by omega) with ⟨ho, was, w1, w2, w3⟩ | ⟨ho, w1⟩
      · rcases Pure_f (l0 := l0) (l1 := l1) (a3 := a3) hs' 100001 (by omega) with ⟨_, now, n1, n2, n3⟩ | ⟨ho', _⟩
        case inr => exact absurd ((more_ok h0 h1).2 ho) ho'
        rw [more_len] at n2 n3
        have hI : ∀ j : Int, Impure (more ms k) j ↔ Bad (ws ms) (sto (more ms k)) j := fun j => by unfold Impure; rw [more_ws h0 h1]
        obtain ⟨q, hq⟩ := st_l0 (l0 := l0) (l1 := l1) (a3 := a3) hs ho k h0 h1 was now w2 n2 w3 (fun j j0 j1 => (n3 j j0 j1).trans (hI j)) ms.length 0 (by omega)
        exact step q was now 0 (by omega) w1 n1 hq
      · rcases Pure_f (l0 := l0) (l1 := l1) (a3 := a3) hs' 100001 (by omega) with ⟨ho', _⟩ | ⟨_, n1⟩
        · exact absurd ((more_ok h0 h1).1 ho') ho
        · exact step 1 [] [] 2 rfl w1 n1 (by rw [capstanlaw13_PureStore.l0, if_neg (by simp)])
end Go.Proofs.Ytkmnachdibhdhaa.Pure
