/- CallsTells: whom any method calls, to whom it leads, the order, how deep calls are, is what the reference says; what is told is the caller's own. -/
import Derived.Test.YtkmnachdibhdhaaP3
import Derived.Test.YtkmnachdibhdhaaP11
import Derived.Test.YtkmnachdibhdhaaP13
import Derived.Test.YtkmnachdibhdhaaP14
import Derived.Test.YtkmnachdibhdhaaP15
import Derived.Test.YtkmnachdibhdhaaP16
import Derived.Test.YtkmnachdibhdhaaLCalls8
import Derived.Test.YtkmnachdibhdhaaLCalls9
namespace Go.Proofs.Ytkmnachdibhdhaa.Pure
open Go.RowKit Go.Proofs.Ytkmnachdibhdhaa.P Go.Proofs.Ytkmnachdibhdhaa.M Go.Proofs.YtkmnachdibhdhaaW.PrintWords Go.Proofs.YtkmnachdibhdhaaW.PrintLast Go.Proofs.YtkmnachdibhdhaaW.PrintMore

section
variable {l0 l1 : List S86} {ms : List S52} {a3 : Int}
theorem ct_order (hs : Small ms) : ∃ p, calls_Order.f 41 l0 l1 ms a3 = some p ∧ p.1.length ≤ 40 := by
  have hlen := hs.len
  rcases Order_f (l0 := l0) (l1 := l1) (a3 := a3) hs with ⟨_, o, h, hO⟩ | ⟨_, _, h⟩ | ⟨_, h⟩
  · have := hO.length
    rw [ws_len] at this
    exact ⟨_, h, by dsimp only; omega⟩
  · exact ⟨_, h, by decide⟩
  · exact ⟨_, h, by decide⟩
theorem ct_leads (hs : Small ms) (k : Int) : ∃ p q, calls_Leads.f q l0 l1 ms a3 k = some p ∧ p.1.length ≤ 1000 ∧ ∀ F, 300000000 ≤ F → capstanref11_Leads.f F l0 l1 ms a3 k = some p := by
  have hlen := hs.len
  have err : ∀ e : Int, e ≠ 0 → calls_Order.f 41 l0 l1 ms a3 = some ([], e) → ∃ p q, calls_Leads.f q l0 l1 ms a3 k = some p ∧ p.1.length ≤ 1000 ∧ ∀ F, 300000000 ≤ F → capstanref11_Leads.f F l0 l1 ms a3 k = some p := by
    intro e he h
    refine ⟨([], e), 41, ?_, Nat.zero_le _, fun F hF => ?_⟩
    · unfold calls_Leads.f calls_Check.f
      rw [h, Option.bind_some, Option.bind_some, if_neg he]
    · unfold capstanref11_Leads.f
      rw [rOrder_f hs F hF, h, Option.bind_some]
      dsimp only
      rw [if_neg he]
  rcases Order_f (l0 := l0) (l1 := l1) (a3 := a3) hs with ⟨ho, o, h, hO⟩ | ⟨_, _, h⟩ | ⟨_, h⟩
  · by_cases hk : 0 ≤ k ∧ k < (ms.length : Int)
    · obtain ⟨q, l, h1, h2, h3⟩ := Leads_f hs ho h hO k hk
      have hl : l.length ≤ ms.length := by
        have := nodup_sub (b := (List.range ms.length).map fun (j : Nat) => (j : Int)) (h2.imp fun h => by omega) fun x hx => by
          obtain ⟨x0, x1⟩ := leads_in ho hk ((h3 x).1 hx)
          exact List.mem_map.2 ⟨x.toNat, by rw [List.mem_range]; omega, by omega⟩
        rw [List.length_map, List.length_range] at this
        exact this
      refine ⟨(l, 0), q, h1, by dsimp only; omega, fun F hF => ?_⟩
      obtain ⟨m, e1, e2, e3⟩ := rLeads_f hs ho h hO k.toNat (by omega) F hF
      rw [Int.toNat_of_nonneg hk.1] at e1 e3
      rw [e1, rise_ext e2 h2 fun x => by rw [e3, h3]]
    · refine ⟨([], 2), 41, ?_, Nat.zero_le _, fun F hF => ?_⟩
      · unfold calls_Leads.f calls_Check.f
        rw [h, Option.bind_some, Option.bind_some, if_pos rfl, if_neg hk]
      · obtain ⟨F, rfl⟩ : ∃ F', F = F' + 1 := ⟨F - 1, by omega⟩
        unfold capstanref11_Leads.f
        rw [rOrder_f hs _ hF, h, Option.bind_some, if_pos rfl]
        by_cases h0 : k < 0
        · rw [if_pos h0, capstanref11_Leads.j0, if_pos rfl]
        · rw [if_neg h0, decide_eq_true (by omega), capstanref11_Leads.j0, if_pos rfl]
  · exact err 110 (by decide) h
  · exact err 2 (by decide) h
end
theorem CallsTells : capstanlaw11_CallsTells.Pure := by
  intro l0 l1 ms a3 a1 _ _
  rcases great_f (l0 := l0) (l1 := l1) (ms := ms) (a3 := a3) with h | ⟨h, hs, h0, h1, _⟩
  · refine ⟨60, ?_⟩
    unfold capstanlaw11_CallsTells.f
    rw [h, Option.bind_some, if_pos rfl]
  have hlen := hs.len
  have hf := great_few hlen h
  obtain ⟨po, ho, hol⟩ := ct_order (l0 := l0) (l1 := l1) (a3 := a3) hs
  obtain ⟨pl, q, hl, hll, hlr⟩ := ct_leads (l0 := l0) (l1 := l1) (a3 := a3) hs a1
  have hW := Whom_f (l0 := l0) (l1 := l1) (a3 := a3) hs a1
  have hWr := rWhom_f (l0 := l0) (l1 := l1) (a3 := a3) hs a1
  generalize hp : (if 0 ≤ a1 ∧ a1 < (ms.length : Int) ∧ cl_ok ms.length (nm ms a1) = true then (sset (nm ms a1), (0 : Int)) else ([], 2)) = pw at hW hWr
  have hwl : pw.1.length ≤ 100000 := by
    rw [← hp]
    split
    · rename_i hc; exact nm_len hs hc.1 hc.2.1
    · exact Nat.zero_le _
  obtain ⟨pd, hdr, hd, hdl, hd2⟩ := rDeep_f (l0 := l0) (l1 := l1) (a3 := a3) hs (q + 300000100) (by omega)
  have hd2 := hd2 po ho
  have turn : ∀ K : Nat, q + 300000000 ≤ K → ∀ t : Int, t < 2 → 0 ≤ t → capstanlaw11_CallsTells.l0 (K + 3) a1 pw.1 pw.2 po.1 po.2 pl.1 pl.2 pd.1 t l0 l1 ms a3 l0 l1 ms a3 = capstanlaw11_CallsTells.l0 K a1 pw.1 pw.2 po.1 po.2 pl.1 pl.2 pd.1 (wrap64 (t + 1)) l0 l1 ms a3 l0 l1 ms a3 := by
    intro K hK t ht _
    have hOk : ∀ k, 41 ≤ k → calls_Order.f k l0 l1 ms a3 = some po := fun k hk => up (f := fun k => calls_Order.f k l0 l1 ms a3) (fun k => calls_Order.mono _ _ _ _ k) ho k hk
    have hDk : ∀ k, 41 ≤ k → calls_Deep.f k l0 l1 ms a3 = some pd := fun k hk => up (f := fun k => calls_Deep.f k l0 l1 ms a3) (fun k => calls_Deep.mono _ _ _ _ k) hd k hk
    have hLk : ∀ k, q ≤ k → calls_Leads.f k l0 l1 ms a3 a1 = some pl := fun k hk => up (f := fun k => calls_Leads.f k l0 l1 ms a3 a1) (fun k => calls_Leads.mono _ _ _ _ _ k) hl k hk
    obtain ⟨r1, e1⟩ := spoil_f pw.1 (by omega) K (by omega)
    obtain ⟨r2, e2⟩ := spoil_f po.1 (by omega) K (by omega)
    obtain ⟨r3, e3⟩ := spoil_f pl.1 (by omega) K (by omega)
    obtain ⟨r4, e4⟩ := spoil_f pd.1 (by omega) K (by omega)
    rw [capstanlaw11_CallsTells.l0, if_pos ht, hW, Option.bind_some, hOk (K + 2) (by omega), Option.bind_some, hLk (K + 2) (by omega), Option.bind_some, hDk (K + 2) (by omega), Option.bind_some, if_pos rfl, if_pos rfl, if_pos rfl, if_pos hd2, calls_Check.f, hOk (K + 2) (by omega), Option.bind_some, Option.bind_some, bne_self_eq_false]
    rw [capstanlaw11_CallsTells.j1, if_neg (by decide), sameInts_f pw.1 (by omega) (K + 1) (by omega), Option.bind_some, if_pos rfl, sameInts_f po.1 (by omega) (K + 1) (by omega), Option.bind_some, if_pos rfl, sameInts_f pl.1 (by omega) (K + 1) (by omega), Option.bind_some, if_pos rfl, sameInts_f pd.1 (by omega) (K + 1) (by omega), Option.bind_some, if_pos rfl, same_f hs hf h0 h1 (K + 1) (by omega), Option.bind_some]
    rw [capstanlaw11_CallsTells.j2, if_neg (by decide), e1, Option.bind_some, e2, Option.bind_some, e3, Option.bind_some, e4, Option.bind_some]
  refine ⟨q + 300000100, ?_⟩
  unfold capstanlaw11_CallsTells.f
  rw [up (f := fun k => capstanlaw08_Great.f k l0 l1 ms a3) (fun k => capstanlaw08_Great.mono _ _ _ _ k) h (q + 300000100) (by omega), Option.bind_some, if_neg (by decide), copy_f hs hf h0 h1 (q + 300000100) (by omega), Option.bind_some, hWr (q + 300000100) (by omega), Option.bind_some, rOrder_f hs (q + 300000100) (by omega), ho, Option.bind_some, hlr (q + 300000100) (by omega), Option.bind_some, hdr, Option.bind_some]
  have e1 := turn (q + 300000097) (by omega) 0 (by decide) (by decide)
  have e2 := turn (q + 300000094) (by omega) 1 (by decide) (by decide)
  have w1 : wrap64 ((0 : Int) + 1) = 1 := by unfold wrap64; omega
  have w2 : wrap64 ((1 : Int) + 1) = 2 := by unfold wrap64; omega
  rw [w1] at e1
  rw [w2] at e2
  refine e1.trans (e2.trans ?_)
  rw [show q + 300000094 = (q + 300000093) + 1 from rfl, capstanlaw11_CallsTells.l0, if_neg (by decide)]
end Go.Proofs.Ytkmnachdibhdhaa.Pure
