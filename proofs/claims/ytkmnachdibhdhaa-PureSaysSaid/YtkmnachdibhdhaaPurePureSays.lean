/- PureSays: where methods say well, each one that says so is pure, and those to which it leads. -/
import Derived.Test.YtkmnachdibhdhaaR1
import Derived.Test.YtkmnachdibhdhaaR3
import Derived.Test.YtkmnachdibhdhaaR4
import Derived.Test.YtkmnachdibhdhaaR5
import Derived.Test.YtkmnachdibhdhaaR6
import Derived.Test.YtkmnachdibhdhaaR7
import Derived.Test.YtkmnachdibhdhaaLCalls4
import Derived.Test.YtkmnachdibhdhaaLCalls5
import Derived.Test.YtkmnachdibhdhaaLPure2
namespace Go.Proofs.Ytkmnachdibhdhaa.Pure
open Go.RowKit Go.Proofs.Ytkmnachdibhdhaa.R Go.Proofs.Ytkmnachdibhdhaa.M Go.Proofs.YtkmnachdibhdhaaW.PrintWords Go.Proofs.YtkmnachdibhdhaaW.PrintLast Go.Proofs.YtkmnachdibhdhaaW.PrintMore

section
variable {l0 l1 : List S86} {ms : List S52} {a3 : Int}
theorem says_pure (_ho : okAll ms) (hW : Well ms) {j : Int} (h : Impure ms j) : reads ms j = false := by
  induction h with
  | store h0 h1 h2 =>
    rename_i k
    rw [ws_len] at h1
    cases hr : reads ms k with
    | false => rfl
    | true => have := (hW k h0 h1 hr).1; rw [h2] at this; cases this
  | call h0 h1 h2 _ ih =>
    rename_i k x _
    rw [ws_len] at h1
    cases hr : reads ms k with
    | false => rfl
    | true => have := (hW k h0 h1 hr).2 x h2; rw [ih] at this; cases this
theorem leads_reads (ho : okAll ms) (hW : Well ms) {j x : Int} (h0 : 0 ≤ j) (h1 : j < (ms.length : Int)) (hr : reads ms j = true) (h : LeadsTo (ws ms) j x) : 0 ≤ x ∧ x < (ms.length : Int) ∧ reads ms x = true := by
  have hin := ws_in ho
  rw [ws_len] at hin
  induction h with
  | one h => exact ⟨(hin j h0 h1 _ h).1, (hin j h0 h1 _ h).2, (hW j h0 h1 hr).2 _ h⟩
  | step _ h ih => exact ⟨(hin _ ih.1 ih.2.1 _ h).1, (hin _ ih.1 ih.2.1 _ h).2, (hW _ ih.1 ih.2.1 ih.2.2).2 _ h⟩
theorem ps_l1 (hs : Small ms) (hW : Well ms) (o : List Bool) (j : Int) (leads : List Int) (hl : leads.length ≤ 1000000) (hm : ∀ x ∈ leads, 0 ≤ x ∧ x < (ms.length : Int) ∧ reads ms x = true) (hnext : ∃ k, capstanlaw13_PureSays.l0 k o (wrap64 (j + 1)) l0 l1 ms a3 = some true) :
    ∀ m i : Nat, m + i = leads.length → ∃ k, capstanlaw13_PureSays.l1 k o j leads 0 (i : Int) l0 l1 ms a3 = some true := by
  intro m
  induction m with
  | zero =>
    intro i hi
    obtain ⟨k, hk⟩ := hnext
    exact ⟨k + 2, by rw [capstanlaw13_PureSays.l1, if_pos rfl, decide_eq_false (by omega), capstanlaw13_PureSays.j5, if_neg (by decide)]; exact hk⟩
  | succ m ih =>
    intro i hi
    obtain ⟨k, hk⟩ := ih (i + 1) (by omega)
    have hlt : i < leads.length := by omega
    have hw : wrap64 ((i : Int) + 1) = ((i + 1 : Nat) : Int) := by unfold wrap64; omega
    have hrd : rd leads (i : Int) = leads[i] := by simp [rd, hlt]
    obtain ⟨x0, x1, x2⟩ := hm _ (List.getElem_mem hlt)
    have hst := (hW _ x0 x1 x2).1
    have hS := Stores_f (l0 := l0) (l1 := l1) (a3 := a3) hs leads[i] (k + 100001) (by omega)
    rw [if_pos ⟨x0, x1⟩, hst] at hS
    refine ⟨k + 100001 + 1 + 1, ?_⟩
    rw [capstanlaw13_PureSays.l1, if_pos rfl, decide_eq_true (by omega), capstanlaw13_PureSays.j5, if_pos rfl, if_pos (by omega), if_pos (by omega), hrd, hS, Option.bind_some]
    dsimp only
    have hk2 := up (f := fun k => capstanlaw13_PureSays.l1 k o j leads 0 ((i + 1 : Nat) : Int) l0 l1 ms a3) (fun k => (capstanlaw13_PureSays.mono_l k).2.2.2.2.1 _ _ _ _ _ _ _ _ _) hk (k + 100001) (by omega)
    rw [if_neg (by decide), if_neg (by omega), if_neg (by omega), if_pos x0, if_pos x1, if_pos (show (rd_T52 ms leads[i]).f3 = true from x2), hw]
    exact hk2
theorem ps_l0 (hs : Small ms) (ho : okAll ms) (hW : Well ms) (o : List Bool) (hol : o.length = ms.length) (hop : ∀ j : Int, 0 ≤ j → j < (ms.length : Int) → (tr o j = false ↔ Impure ms j)) :
    ∀ m i : Nat, m + i = ms.length → ∃ k, capstanlaw13_PureSays.l0 k o (i : Int) l0 l1 ms a3 = some true := by
  have hlen := hs.len
  intro m
  induction m with
  | zero => intro i hi; exact ⟨1, by rw [capstanlaw13_PureSays.l0, if_neg (by omega)]⟩
  | succ m ih =>
    intro i hi
    have hnx := ih (i + 1) (by omega)
    have hw : wrap64 ((i : Int) + 1) = ((i + 1 : Nat) : Int) := by unfold wrap64; omega
    rw [← hw] at hnx
    by_cases hr : reads ms (i : Int) = true
    · have hst := (hW (i : Int) (by omega) (by omega) hr).1
      have htr : tr o (i : Int) = true := by
        have : ¬ tr o (i : Int) = false := fun h => by
          have := says_pure ho hW ((hop (i : Int) (by omega) (by omega)).1 h)
          rw [hr] at this
          cases this
        simpa using this
      have main : ∃ (q : Nat) (l : List Int) (g : Int), calls_Leads.f q l0 l1 ms a3 (i : Int) = some (l, g) ∧ ∃ k, capstanlaw13_PureSays.l1 k o (i : Int) l g 0 l0 l1 ms a3 = some true := by
        have err : ∀ g : Int, g ≠ 0 → calls_Order.f 41 l0 l1 ms a3 = some ([], g) → ∃ (q : Nat) (l : List Int) (g : Int), calls_Leads.f q l0 l1 ms a3 (i : Int) = some (l, g) ∧ ∃ k, capstanlaw13_PureSays.l1 k o (i : Int) l g 0 l0 l1 ms a3 = some true := fun g hg h => by
          obtain ⟨k, hk⟩ := hnx
          refine ⟨41, [], g, ?_, k + 2, ?_⟩
          · unfold calls_Leads.f calls_Check.f
            rw [h, Option.bind_some, Option.bind_some, if_neg hg]
          · rw [capstanlaw13_PureSays.l1, if_neg hg, capstanlaw13_PureSays.j5, if_neg (by decide)]
            exact hk
        rcases Order_f (l0 := l0) (l1 := l1) (a3 := a3) hs with ⟨_, od, h, hOrd⟩ | ⟨_, _, h⟩ | ⟨h, _⟩
        · obtain ⟨q, l, h1, h2, h3⟩ := Leads_f hs ho h hOrd (i : Int) ⟨by omega, by omega⟩
          have hall := fun x hx => leads_reads ho hW (j := (i : Int)) (by omega) (by omega) hr ((h3 x).1 hx)
          have hll := nodup_sub (a := l) (b := od) (h2.imp fun h => by omega) fun x hx => hOrd.all x (hall x hx).1 (by rw [ws_len]; exact (hall x hx).2.1)
          have hol2 := hOrd.length
          rw [ws_len] at hol2
          exact ⟨q, l, 0, h1, ps_l1 hs hW o (i : Int) l (by omega) hall hnx l.length 0 (by omega)⟩
        · exact err 110 (by decide) h
        · exact absurd ho h
      obtain ⟨q, l, g, h1, k, hk⟩ := main
      have hS := Stores_f (l0 := l0) (l1 := l1) (a3 := a3) hs (i : Int) (q + k + 100001 + 1 + 1) (by omega)
      rw [if_pos ⟨by omega, by omega⟩, hst] at hS
      refine ⟨q + k + 100001 + 1 + 1 + 1, ?_⟩
      rw [capstanlaw13_PureSays.l0, if_pos (by omega), if_pos (by omega), if_pos (by omega), if_pos (show (rd_T52 ms (i : Int)).f3 = true from hr), hS, Option.bind_some]
      dsimp only
      rw [capstanlaw13_PureSays.j2, if_neg (by decide), if_pos rfl, if_pos (by omega), if_pos (by omega), show rdOf false o (i : Int) = true from htr, capstanlaw13_PureSays.j3, if_neg (by decide),
        up (f := fun k => calls_Leads.f k l0 l1 ms a3 (i : Int)) (fun k => calls_Leads.mono _ _ _ _ _ k) h1 _ (by omega), Option.bind_some]
      exact up (f := fun k => capstanlaw13_PureSays.l1 k o (i : Int) l g 0 l0 l1 ms a3) (fun k => (capstanlaw13_PureSays.mono_l k).2.2.2.2.1 _ _ _ _ _ _ _ _ _) hk _ (by omega)
    · obtain ⟨k, hk⟩ := hnx
      exact ⟨k + 1, by rw [capstanlaw13_PureSays.l0, if_pos (by omega), if_pos (by omega), if_pos (by omega), if_neg (show ¬ (rd_T52 ms (i : Int)).f3 = true from hr)]; exact hk⟩
end
theorem PureSays : capstanlaw13_PureSays.Pure := by
  intro l0 l1 ms a3 _
  rcases great_f (l0 := l0) (l1 := l1) (ms := ms) (a3 := a3) with hg | ⟨hg, hs, _⟩
  · refine ⟨100001, ?_⟩
    unfold capstanlaw13_PureSays.f
    rw [pawake_f _ (by omega), Option.bind_some, if_pos rfl, up (f := fun k => capstanlaw08_Great.f k l0 l1 ms a3) (fun k => capstanlaw08_Great.mono _ _ _ _ k) hg _ (by omega), Option.bind_some, if_pos rfl]
  · have hgu := fun q (hq : 60 ≤ q) => up (f := fun k => capstanlaw08_Great.f k l0 l1 ms a3) (fun k => capstanlaw08_Great.mono _ _ _ _ k) hg q hq
    have bad : ∀ e : Int, e ≠ 0 → pure_Check.f 100001 l0 l1 ms a3 = some e → ∃ k, capstanlaw13_PureSays.f k l0 l1 ms a3 = some true := fun e he h => by
      refine ⟨100001, ?_⟩
      unfold capstanlaw13_PureSays.f
      rw [pawake_f _ (by omega), Option.bind_some, if_pos rfl, hgu _ (by omega), Option.bind_some, if_neg (by decide), h, Option.bind_some, if_neg he]
    rcases Check_f (l0 := l0) (l1 := l1) (a3 := a3) hs 100001 (by omega) with ⟨ho, hW, h⟩ | ⟨_, _, h⟩ | ⟨_, h⟩
    · rcases Pure_f (l0 := l0) (l1 := l1) (a3 := a3) hs 100001 (by omega) with ⟨_, o, h1, h2, h3⟩ | ⟨h, _⟩
      case inr => exact absurd ho h
      obtain ⟨k, hk⟩ := ps_l0 (l0 := l0) (l1 := l1) (a3 := a3) hs ho hW o h2 h3 ms.length 0 (by omega)
      refine ⟨k + 100001 + 1, ?_⟩
      unfold capstanlaw13_PureSays.f
      rw [pawake_f _ (by omega), Option.bind_some, if_pos rfl, hgu _ (by omega), Option.bind_some, if_neg (by decide),
        up (f := fun k => pure_Check.f k l0 l1 ms a3) (fun k => pure_Check.mono _ _ _ _ k) h _ (by omega), Option.bind_some, if_pos rfl,
        up (f := fun k => pure_Pure.f k l0 l1 ms a3) (fun k => pure_Pure.mono _ _ _ _ k) h1 _ (by omega), Option.bind_some]
      dsimp only
      rw [if_pos rfl, capstanlaw13_PureSays.j0, if_neg (by rw [h2]; simp)]
      exact up (f := fun k => capstanlaw13_PureSays.l0 k o 0 l0 l1 ms a3) (fun k => (capstanlaw13_PureSays.mono_l k).2.1 _ _ _ _ _ _) hk _ (by omega)
    · exact bad 130 (by decide) h
    · exact bad 2 (by decide) h
end Go.Proofs.Ytkmnachdibhdhaa.Pure
