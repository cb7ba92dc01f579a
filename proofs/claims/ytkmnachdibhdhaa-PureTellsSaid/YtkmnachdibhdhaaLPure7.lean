/- Layer 13 in plain terms: the reference's Say is the program's, and all that PureTells asks (of capstanref13_Say.f, pure_Say.f, capstanref08_Copy.f, capstanref08_Same.f). -/
import Derived.Test.YtkmnachdibhdhaaU4
import Derived.Test.YtkmnachdibhdhaaU5
import Derived.Test.YtkmnachdibhdhaaU7
import Derived.Test.YtkmnachdibhdhaaU8
import Derived.Test.YtkmnachdibhdhaaU10
import Derived.Test.YtkmnachdibhdhaaU11
import Derived.Test.YtkmnachdibhdhaaU12
import Derived.Test.YtkmnachdibhdhaaU14
import Derived.Test.YtkmnachdibhdhaaU15
import Derived.Test.YtkmnachdibhdhaaU16
import Derived.Test.YtkmnachdibhdhaaLCS
import Derived.Test.YtkmnachdibhdhaaLPureB
namespace Go.Proofs.Ytkmnachdibhdhaa.M
open Go.RowKit Go.Proofs.Ytkmnachdibhdhaa.U Go.Proofs.YtkmnachdibhdhaaW.PrintWords Go.Proofs.YtkmnachdibhdhaaW.PrintLast Go.Proofs.YtkmnachdibhdhaaW.PrintMore

theorem rdm_set {x : List S52} {i : Int} (h0 : 0 ≤ i) (h1 : i < (x.length : Int)) (y : S52) (j : Int) (j0 : 0 ≤ j) : rd_T52 (x.set i.toNat y) j = if j = i then y else rd_T52 x j := by
  unfold rd_T52
  by_cases e : j = i
  · subst e
    rw [if_pos rfl, List.getD_eq_getElem?_getD, List.getElem?_set_self (by omega)]
    rfl
  · rw [if_neg e, List.getD_eq_getElem?_getD, List.getElem?_set_ne (by omega), ← List.getD_eq_getElem?_getD]
/-- The same rows in each method. -/
def Rows (ms w : List S52) : Prop := w.length = ms.length ∧ ∀ j : Int, 0 ≤ j → j < (ms.length : Int) → (rd_T52 w j).f7 = (rd_T52 ms j).f7 ∧ (rd_T52 w j).f0 = (rd_T52 ms j).f0 ∧ (rd_T52 w j).f1 = (rd_T52 ms j).f1
section
variable {l0 l1 : List S86} {ms : List S52} {a3 : Int}
theorem says_l0 (o : List Bool) (ho : o.length = ms.length) (hl : ms.length ≤ 40) : ∀ (m i : Nat) (x : List S52), m + i = ms.length → Rows ms x → ∃ w, pure_Say.l0 (m + 1) o (ms.length : Int) (i : Int) l0 l1 x a3 = some (l0, l1, w, a3, 0) ∧ capstanref13_Say.l0 (m + 1) o (i : Int) l0 l1 x a3 = some (l0, l1, w, a3, 0) ∧ Rows ms w := by
  intro m
  induction m with
  | zero =>
    intro i x hi hx
    exact ⟨x, by rw [pure_Say.l0, if_neg (by omega)], by rw [capstanref13_Say.l0, if_neg (by omega)], hx⟩
  | succ m ih =>
    intro i x hi hx
    have hxl := hx.1
    have hw : wrap64 ((i : Int) + 1) = ((i + 1 : Nat) : Int) := by unfold wrap64; omega
    obtain ⟨w, h1, h2, h3⟩ := ih (i + 1) (x.set (i : Int).toNat (⟨(rd_T52 x (i : Int)).f0, (rd_T52 x (i : Int)).f1, (rd_T52 x (i : Int)).f2, rdOf false o (i : Int), (rd_T52 x (i : Int)).f4, (rd_T52 x (i : Int)).f5, (rd_T52 x (i : Int)).f6, (rd_T52 x (i : Int)).f7⟩ : S52)) (by omega) ⟨by rw [List.length_set]; exact hxl, fun j j0 j1 => by
      rw [rdm_set (by omega) (by omega) _ j j0]
      by_cases e : j = (i : Int)
      · subst e; rw [if_pos rfl]; exact hx.2 _ j0 j1
      · rw [if_neg e]; exact hx.2 j j0 j1⟩
    refine ⟨w, ?_, ?_, h3⟩
    · rw [pure_Say.l0, if_pos (by omega), if_pos (by omega), if_pos (by omega), if_pos (by omega), hw]; exact h1
    · rw [capstanref13_Say.l0, if_pos (by omega), if_pos (by omega), if_pos (by omega), hw]; exact h2
/-- All that PureTells asks. -/
theorem tells (hs : Small ms) (hf : Few ms) (hv0 : l0.length ≤ 100) (hv1 : l1.length ≤ 100) (hgood : mcGood ms = true) (a1 : Int) : ∃ (F : Nat) (s : Bool) (e c f : Int) (o : List Bool) (w0 w1 : List S86) (w2 : List S52) (w3 : Int), 60 ≤ F ∧
    capstanref08_Copy.f F l0 l1 ms a3 = some (l0, l1, ms, a3) ∧ capstanref13_Stores.f F l0 l1 ms a3 a1 = some (s, e) ∧ pure_Stores.f F l0 l1 ms a3 a1 = some (s, e) ∧ capstanref13_Pure.f F l0 l1 ms a3 = some (o, f) ∧ pure_Pure.f F l0 l1 ms a3 = some (o, f) ∧
    capstanref13_Say.f F l0 l1 ms a3 = some (w0, w1, w2, w3, f) ∧ pure_Say.f F l0 l1 ms a3 = some (w0, w1, w2, w3, f) ∧ capstanref13_Same.f F o o = some true ∧ capstanref08_Same.f F w0 w1 w2 w3 w0 w1 w2 w3 = some true ∧ capstanref08_Same.f F l0 l1 ms a3 l0 l1 ms a3 = some true ∧
    pure_Check.f F l0 l1 ms a3 = some c ∧ capstanref13_Check.f F l0 l1 ms a3 = some c ∧ o.length ≤ 40 ∧ w0.length ≤ 10000 ∧ w1.length ≤ 10000 ∧ w2.length ≤ 10000 ∧ mcGood w2 = true := by
  have hlen := hs.len
  obtain ⟨F1, p, h1, h2, h3, h4⟩ := rPure_f (l0 := l0) (l1 := l1) (a3 := a3) hs
  obtain ⟨F2, c, h5, h6⟩ := rCheck_f (l0 := l0) (l1 := l1) (a3 := a3) hs
  have hcopy : module_Copy.f l0 l1 ms a3 = some (l0, l1, ms, a3) := by
    unfold module_Copy.f
    rw [if_pos ⟨by omega, by omega, by omega, hgood⟩]
  obtain ⟨F, hF⟩ : ∃ F, F = F1 + F2 + 300000 := ⟨_, rfl⟩
  have u1 := up (f := fun k => capstanref13_Pure.f k l0 l1 ms a3) (fun k => capstanref13_Pure.mono _ _ _ _ k) h1 F (by omega)
  have u2 := up (f := fun k => pure_Pure.f k l0 l1 ms a3) (fun k => pure_Pure.mono _ _ _ _ k) h2 F (by omega)
  have u5 := up (f := fun k => capstanref13_Check.f k l0 l1 ms a3) (fun k => capstanref13_Check.mono _ _ _ _ k) h5 F (by omega)
  have u6 := up (f := fun k => pure_Check.f k l0 l1 ms a3) (fun k => pure_Check.mono _ _ _ _ k) h6 F (by omega)
  have uc := copy_f (l0 := l0) (l1 := l1) (a3 := a3) hs hf hv0 hv1 F (by omega)
  have us := same_f (l0 := l0) (l1 := l1) (a3 := a3) hs hf hv0 hv1 F (by omega)
  have st : ∃ s e, capstanref13_Stores.f F l0 l1 ms a3 a1 = some (s, e) ∧ pure_Stores.f F l0 l1 ms a3 a1 = some (s, e) := ⟨_, _, rStores_f hs a1 F (by omega), Stores_f hs a1 F (by omega)⟩
  obtain ⟨s, e, s1, s2⟩ := st
  by_cases ho : okAll ms
  · obtain ⟨p2, hrow⟩ := h3 ho
    obtain ⟨o, f⟩ := p
    dsimp only at p2 hrow
    subst p2
    have hol : o.length = ms.length := by have := hrow.1; rw [ws_len] at this; exact this
    obtain ⟨w, q1, q2, q3⟩ := says_l0 (l0 := l0) (l1 := l1) (a3 := a3) o hol hlen ms.length 0 ms (by omega) ⟨rfl, fun _ _ _ => ⟨rfl, rfl, rfl⟩⟩
    have hws : Small w := ⟨by rw [q3.1]; exact hlen, fun j j0 j1 => by rw [q3.1] at j1; rw [(q3.2 j j0 j1).1]; exact hs.code j j0 j1⟩
    have hwf : Few w := fun j hj => by
      rw [q3.1] at hj
      have h := q3.2 (j : Int) (by omega) (by omega)
      rw [h.2.1, h.2.2]
      exact hf j hj
    have hg2 : mcGood w = true := by
      refine List.all_eq_true.2 fun x hx => ?_
      obtain ⟨j, hj, rfl⟩ := List.mem_iff_getElem.1 hx
      have e : rd_T52 w (j : Int) = w[j] := by simp [rd_T52, hj]
      have a := hwf j hj
      have b := hws.code (j : Int) (by omega) (by omega)
      rw [e] at a b
      simp only [Bool.and_eq_true, decide_eq_true_eq]
      exact ⟨⟨by omega, by omega⟩, by omega⟩
    refine ⟨F, s, e, c, 0, o, l0, l1, w, a3, by omega, uc, s1, s2, u1, u2, ?_, ?_, rSame_f o (by omega) F (by omega), same_f hws hwf hv0 hv1 F (by omega), us, u6, u5, by omega, by omega, by omega, by have := hws.len; omega, hg2⟩
    · unfold capstanref13_Say.f
      rw [u1, Option.bind_some]
      dsimp only
      rw [if_pos rfl, uc, Option.bind_some]
      exact up (f := fun k => capstanref13_Say.l0 k o 0 l0 l1 ms a3) (fun k => capstanref13_Say.mono_l k _ _ _ _ _ _) q2 F (by omega)
    · unfold pure_Say.f
      rw [u2, Option.bind_some]
      dsimp only
      rw [if_pos rfl, hcopy, Option.bind_some]
      exact up (f := fun k => pure_Say.l0 k o (ms.length : Int) 0 l0 l1 ms a3) (fun k => pure_Say.mono_l k _ _ _ _ _ _ _) q1 F (by omega)
  · obtain rfl := h4 ho
    have es : Small ([] : List S52) := ⟨by simp, fun j j0 j1 => by simp at j1; omega⟩
    have ef : Few ([] : List S52) := fun j hj => by simp at hj
    refine ⟨F, s, e, c, 2, [], [], [], [], 0, by omega, uc, s1, s2, u1, u2, ?_, ?_, rSame_f [] (by simp) F (by simp; omega), same_f es ef (by simp) (by simp) F (by omega), us, u6, u5, by simp, by simp, by simp, by simp, rfl⟩
    · unfold capstanref13_Say.f
      rw [u1, Option.bind_some]
      rfl
    · unfold pure_Say.f
      rw [u2, Option.bind_some]
      rfl
end
end Go.Proofs.Ytkmnachdibhdhaa.M
