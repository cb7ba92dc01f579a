/- Layer 11 in plain terms: the reference's Deep; a module is the same as its copy (of capstanref11_Deep.f, capstanref08_Copy.f, capstanref08_Same.f, capstanref09_SameInts.f). -/
import Derived.Test.YtkmnachdibhdhaaP3
import Derived.Test.YtkmnachdibhdhaaP4
import Derived.Test.YtkmnachdibhdhaaP5
import Derived.Test.YtkmnachdibhdhaaP6
import Derived.Test.YtkmnachdibhdhaaP12
import Derived.Test.YtkmnachdibhdhaaP13
import Derived.Test.YtkmnachdibhdhaaP15
import Derived.Test.YtkmnachdibhdhaaLCalls4
import Derived.Test.YtkmnachdibhdhaaLCalls7
namespace Go.Proofs.Ytkmnachdibhdhaa.M
open Go.RowKit Go.Proofs.Ytkmnachdibhdhaa.P Go.Proofs.YtkmnachdibhdhaaW.PrintWords Go.Proofs.YtkmnachdibhdhaaW.PrintLast Go.Proofs.YtkmnachdibhdhaaW.PrintMore

section
variable {l0 l1 : List S86} {ms : List S52} {a3 : Int}
theorem rD_l1 (o W : List Int) (n : Nat) (hW : ∀ x ∈ W, 0 ≤ x ∧ x < (n : Int)) (hWl : W.length ≤ 1000000) (k : Nat) (hk : k < n) (t : Int) : ∀ q p : Nat, p + q = W.length → ∀ d : List Int, d.length = n → ∀ F, q + 1 ≤ F →
    ∃ F', F ≤ F' + q + 1 ∧ capstanref11_Deep.l1 F o d t (k : Int) W (p : Int) l0 l1 ms a3 = capstanref11_Deep.l0 F' o (dpRow k d (W.drop p)) (wrap64 (t + 1)) l0 l1 ms a3 := by
  intro q
  induction q with
  | zero =>
    intro p hp d hd F hF
    obtain ⟨F, rfl⟩ : ∃ F', F = F' + 1 := ⟨F - 1, by omega⟩
    refine ⟨F, by omega, ?_⟩
    rw [capstanref11_Deep.l1, if_neg (by omega), List.drop_eq_nil_of_le (by omega)]
    rfl
  | succ q ih =>
    intro p hp d hd F hF
    obtain ⟨F, rfl⟩ : ∃ F', F = F' + 1 := ⟨F - 1, by omega⟩
    have hpl : p < W.length := by omega
    have hw : wrap64 ((p : Int) + 1) = ((p + 1 : Nat) : Int) := by unfold wrap64; omega
    have hr : rd W (p : Int) = W[p] := by simp [rd, hpl]
    have hx := hW _ (List.getElem_mem hpl)
    have hrk : rd d (k : Int) = d.getD k 0 := by simp [rd]
    have hrx : rd d W[p] = d.getD W[p].toNat 0 := by simp [rd]
    rw [capstanref11_Deep.l1, if_pos (by omega), if_pos (by omega), hr, if_pos hx.1, if_pos (by omega), if_pos (by omega), if_pos (by omega), hw, hrk, hrx, List.drop_eq_getElem_cons hpl, Int.toNat_natCast]
    have hc : ∀ t : List Int, dpRow k d (W[p] :: t) = dpRow k (d.set k (max (d.getD k 0) (wrap64 (d.getD W[p].toNat 0 + 1)))) t := fun _ => rfl
    rw [hc]
    by_cases h : wrap64 (d.getD W[p].toNat 0 + 1) > d.getD k 0
    · rw [if_pos h, Int.max_eq_right (by omega)]
      obtain ⟨F', h1, h2⟩ := ih (p + 1) (by omega) (d.set k (wrap64 (d.getD W[p].toNat 0 + 1))) (by rw [List.length_set]; exact hd) F (by omega)
      exact ⟨F', by omega, h2⟩
    · rw [if_neg h, Int.max_eq_left (by omega)]
      have : d.set k (d.getD k 0) = d := by
        rw [List.getD_eq_getElem?_getD, List.getElem?_eq_getElem (by omega), Option.getD_some, List.set_getElem_self]
      rw [this]
      obtain ⟨F', h1, h2⟩ := ih (p + 1) (by omega) d hd F (by omega)
      exact ⟨F', by omega, h2⟩
theorem rD_l0 (hs : Small ms) (ho : okAll ms) (o : List Int) (hol : o.length ≤ 1000000) (hor : ∀ z ∈ o, 0 ≤ z ∧ z < (ms.length : Int)) : ∀ q i : Nat, i + q = o.length → ∀ d : List Int, d.length = ms.length → ∀ F, 100010 * q + 300001 ≤ F →
    capstanref11_Deep.l0 F o d (i : Int) l0 l1 ms a3 = some (dpAll (fun z => sset (nm ms z)) d (o.drop i), 0) := by
  have hlen := hs.len
  intro q
  induction q with
  | zero =>
    intro i hi d hd F hF
    obtain ⟨F, rfl⟩ : ∃ F', F = F' + 1 := ⟨F - 1, by omega⟩
    rw [capstanref11_Deep.l0, if_neg (by omega), List.drop_eq_nil_of_le (by omega)]
    rfl
  | succ q ih =>
    intro i hi d hd F hF
    obtain ⟨F, rfl⟩ : ∃ F', F = F' + 1 := ⟨F - 1, by omega⟩
    have hil : i < o.length := by omega
    have hw : wrap64 ((i : Int) + 1) = ((i + 1 : Nat) : Int) := by unfold wrap64; omega
    have hr : rd o (i : Int) = o[i] := by simp [rd, hil]
    have hz := hor _ (List.getElem_mem hil)
    have hk : cl_ok ms.length (nm ms o[i]) = true := by
      have := ho o[i].toNat (by omega)
      rw [Int.toNat_of_nonneg hz.1] at this
      exact this
    have hl := nm_len hs hz.1 hz.2
    have hWf := rWhom_f (l0 := l0) (l1 := l1) (a3 := a3) hs o[i] F (by omega)
    rw [if_pos ⟨hz.1, hz.2, hk⟩] at hWf
    rw [capstanref11_Deep.l0, if_pos (by omega), if_pos (by omega), hr, hWf, Option.bind_some, if_pos hz.1, if_pos (by omega), List.drop_eq_getElem_cons hil]
    obtain ⟨F', h1, h2⟩ := rD_l1 (l0 := l0) (l1 := l1) (ms := ms) (a3 := a3) o (sset (nm ms o[i])) ms.length (fun x hx => cl_ok_mem.1 hk x (mem_sset.1 hx)) (by omega) o[i].toNat (by omega) (i : Int) _ 0 (Nat.zero_add _) (d.set o[i].toNat 1) (by rw [List.length_set]; exact hd) F (by omega)
    rw [Int.toNat_of_nonneg hz.1, List.drop_zero, hw] at h2
    refine h2.trans ?_
    exact ih (i + 1) (by omega) _ (by rw [dpRow_length, List.length_set]; exact hd) F' (by omega)
theorem rDeep_f (hs : Small ms) (F : Nat) (hF : 300000000 ≤ F) : ∃ p, capstanref11_Deep.f F l0 l1 ms a3 = some p ∧ calls_Deep.f 41 l0 l1 ms a3 = some p ∧ p.1.length ≤ 40 ∧ ∀ r, calls_Order.f 41 l0 l1 ms a3 = some r → p.2 = r.2 := by
  have hlen := hs.len
  unfold capstanref11_Deep.f
  rw [rOrder_f hs F hF]
  rcases Order_f (l0 := l0) (l1 := l1) (a3 := a3) hs with ⟨ho, o, h, hO⟩ | ⟨_, _, h⟩ | ⟨_, h⟩
  · obtain ⟨d, h1, h2⟩ := Deep_f hs ho h hO
    have hol := hO.length
    rw [ws_len] at hol
    refine ⟨(d, 0), ?_, h1, by rw [h2.len]; exact hlen, fun r hr => by rw [h] at hr; cases hr; rfl⟩
    rw [h, Option.bind_some]
    dsimp only
    rw [if_pos rfl, if_pos (by omega), Int.toNat_natCast, if_pos (by omega)]
    have h3 := dpAll_spec hO (fun z => sset (nm ms z)) (fun z z0 z1 x => by rw [mem_sset]; exact nm_ws z0 z1 x) (by rw [ws_len]; omega) o.length 0 (List.replicate o.length 0) (by omega) ⟨by simp [ws_len, hol], fun j _ hj => absurd hj (Nat.not_lt_zero _), fun j _ hj => absurd hj (Nat.not_lt_zero _)⟩
    rw [ws_len] at h3
    have he : dpAll (fun z => sset (nm ms z)) (List.replicate o.length 0) (o.drop 0) = d := deep_one (n := ms.length) (o := o) (fun z _ x => mem_sset) (fun i z hz x hx => by
      have := hO.inv.behind i z hz x
      obtain ⟨z0, z1⟩ := hO.inv.range z (List.mem_of_getElem? hz)
      rw [← nm_ws z0 z1, ← mem_sset] at this
      exact this hx) (fun z z0 z1 => hO.all z z0 (by rw [ws_len]; exact z1)) h3 h2
    rw [← he]
    have hq : 100010 * o.length ≤ 100010 * 40 := Nat.mul_le_mul_left _ (by omega)
    exact rD_l0 hs ho o (by omega) (fun z hz => by have := hO.inv.range z hz; rw [ws_len] at this; exact this) o.length 0 (Nat.zero_add _) _ (by rw [List.length_replicate]; exact hol) F (by omega)
  · refine ⟨([], 110), by rw [h]; rfl, by unfold calls_Deep.f; rw [h]; rfl, by decide, fun r hr => by rw [h] at hr; cases hr; rfl⟩
  · refine ⟨([], 2), by rw [h]; rfl, by unfold calls_Deep.f; rw [h]; rfl, by decide, fun r hr => by rw [h] at hr; cases hr; rfl⟩
end
/-! A row is the same as itself. -/
theorem sameInts_l0 (l : List Int) (hl : l.length ≤ 1000000) : ∀ q i : Nat, i + q = l.length → ∀ k, q + 1 ≤ k → capstanref09_SameInts.l0 k l l (i : Int) = some true := by
  intro q
  induction q with
  | zero =>
    intro i hi k hk
    obtain ⟨k, rfl⟩ : ∃ k', k = k' + 1 := ⟨k - 1, by omega⟩
    rw [capstanref09_SameInts.l0, if_neg (by omega)]
  | succ q ih =>
    intro i hi k hk
    obtain ⟨k, rfl⟩ : ∃ k', k = k' + 1 := ⟨k - 1, by omega⟩
    have hw : wrap64 ((i : Int) + 1) = ((i + 1 : Nat) : Int) := by unfold wrap64; omega
    rw [capstanref09_SameInts.l0, if_pos (by omega), if_pos (by omega), if_pos (by omega), if_pos rfl, hw]
    exact ih (i + 1) (by omega) k (by omega)
theorem sameInts_f (l : List Int) (hl : l.length ≤ 1000000) (k : Nat) (hk : l.length + 1 ≤ k) : capstanref09_SameInts.f k l l = some true := by
  unfold capstanref09_SameInts.f
  rw [if_pos rfl]
  exact sameInts_l0 l hl l.length 0 (Nat.zero_add _) k hk
theorem spoil_l0 : ∀ q i : Nat, ∀ l : List Int, l.length ≤ 1000000 → i + q = l.length → ∀ k, q + 1 ≤ k → ∃ r, capstanlaw11_spoil.l0 k l (i : Int) = some r := by
  intro q
  induction q with
  | zero =>
    intro i l hl hi k hk
    obtain ⟨k, rfl⟩ : ∃ k', k = k' + 1 := ⟨k - 1, by omega⟩
    rw [capstanlaw11_spoil.l0, if_neg (by omega)]
    exact ⟨_, rfl⟩
  | succ q ih =>
    intro i l hl hi k hk
    obtain ⟨k, rfl⟩ : ∃ k', k = k' + 1 := ⟨k - 1, by omega⟩
    have hw : wrap64 ((i : Int) + 1) = ((i + 1 : Nat) : Int) := by unfold wrap64; omega
    rw [capstanlaw11_spoil.l0, if_pos (by omega), if_pos (by omega), hw]
    exact ih (i + 1) _ (by rw [List.length_set]; exact hl) (by rw [List.length_set]; omega) k (by omega)
theorem spoil_f (l : List Int) (hl : l.length ≤ 1000000) (k : Nat) (hk : l.length + 1 ≤ k) : ∃ r, capstanlaw11_spoil.f k l = some r := spoil_l0 l.length 0 l hl (Nat.zero_add _) k hk
theorem sameV_l0 (l : List S86) (hl : l.length ≤ 1000000) : ∀ q i : Nat, i + q = l.length → ∀ k, q + 1 ≤ k → capstanref03_Same.l0 k l l (i : Int) = some true := by
  intro q
  induction q with
  | zero =>
    intro i hi k hk
    obtain ⟨k, rfl⟩ : ∃ k', k = k' + 1 := ⟨k - 1, by omega⟩
    rw [capstanref03_Same.l0, if_neg (by omega)]
  | succ q ih =>
    intro i hi k hk
    obtain ⟨k, rfl⟩ : ∃ k', k = k' + 1 := ⟨k - 1, by omega⟩
    have hw : wrap64 ((i : Int) + 1) = ((i + 1 : Nat) : Int) := by unfold wrap64; omega
    rw [capstanref03_Same.l0, if_pos (by omega), if_pos (by omega), if_pos (by omega), if_neg (by simp), hw]
    exact ih (i + 1) (by omega) k (by omega)
theorem sameV_f (l : List S86) (hl : l.length ≤ 1000000) (k : Nat) (hk : l.length + 1 ≤ k) : capstanref03_Same.f k l l = some true := by
  unfold capstanref03_Same.f
  rw [if_pos rfl]
  exact sameV_l0 l hl l.length 0 (Nat.zero_add _) k hk
theorem sameK_l0 (l : List Int) (hl : l.length ≤ 1000000) : ∀ q i : Nat, i + q = l.length → ∀ k, q + 1 ≤ k → capstanref07_SameKinds.l0 k l l (i : Int) = some true := by
  intro q
  induction q with
  | zero =>
    intro i hi k hk
    obtain ⟨k, rfl⟩ : ∃ k', k = k' + 1 := ⟨k - 1, by omega⟩
    rw [capstanref07_SameKinds.l0, if_neg (by omega)]
  | succ q ih =>
    intro i hi k hk
    obtain ⟨k, rfl⟩ : ∃ k', k = k' + 1 := ⟨k - 1, by omega⟩
    have hw : wrap64 ((i : Int) + 1) = ((i + 1 : Nat) : Int) := by unfold wrap64; omega
    rw [capstanref07_SameKinds.l0, if_pos (by omega), if_pos (by omega), if_pos (by omega), if_pos rfl, hw]
    exact ih (i + 1) (by omega) k (by omega)
theorem sameK_f (l : List Int) (hl : l.length ≤ 1000000) (k : Nat) (hk : l.length + 1 ≤ k) : capstanref07_SameKinds.f k l l = some true := by
  unfold capstanref07_SameKinds.f
  rw [if_pos rfl]
  exact sameK_l0 l hl l.length 0 (Nat.zero_add _) k hk
theorem sameC_l0 (l : List S70) (hl : l.length ≤ 1000000) : ∀ q i : Nat, i + q = l.length → ∀ k, q + 1 ≤ k → capstanref05_Same.l0 k l l (i : Int) = some true := by
  intro q
  induction q with
  | zero =>
    intro i hi k hk
    obtain ⟨k, rfl⟩ : ∃ k', k = k' + 1 := ⟨k - 1, by omega⟩
    rw [capstanref05_Same.l0, if_neg (by omega)]
  | succ q ih =>
    intro i hi k hk
    obtain ⟨k, rfl⟩ : ∃ k', k = k' + 1 := ⟨k - 1, by omega⟩
    have hw : wrap64 ((i : Int) + 1) = ((i + 1 : Nat) : Int) := by unfold wrap64; omega
    rw [capstanref05_Same.l0, if_pos (by omega), if_pos (by omega), if_pos (by omega), if_neg (by simp), hw]
    exact ih (i + 1) (by omega) k (by omega)
theorem sameC_f (l : List S70) (hl : l.length ≤ 1000000) (k : Nat) (hk : l.length + 1 ≤ k) : capstanref05_Same.f k l l = some true := by
  unfold capstanref05_Same.f
  rw [if_pos rfl]
  exact sameC_l0 l hl l.length 0 (Nat.zero_add _) k hk
section
variable {l0 l1 : List S86} {ms : List S52} {a3 : Int}
/-- The kinds of a module's methods are few. -/
def Few (ms : List S52) : Prop := ∀ j : Nat, j < ms.length → (rd_T52 ms (j : Int)).f0.length ≤ 100 ∧ (rd_T52 ms (j : Int)).f1.length ≤ 100
theorem great_few0 (hn : ms.length ≤ 40) : ∀ m i : Nat, i + m = ms.length → capstanlaw08_Great.l0 (m + 1) (i : Int) l0 l1 ms a3 = some false → ∀ j : Nat, i ≤ j → j < ms.length → (rd_T52 ms (j : Int)).f0.length ≤ 100 ∧ (rd_T52 ms (j : Int)).f1.length ≤ 100 := by
  intro m
  induction m with
  | zero => intro i hi _ j h1 h2; omega
  | succ m ih =>
    intro i hi h j h1 h2
    have hw : wrap64 ((i : Int) + 1) = ((i + 1 : Nat) : Int) := by unfold wrap64; omega
    rw [capstanlaw08_Great.l0, if_pos (by omega), if_pos (by omega), hw] at h
    have h7 : (rd_T52 ms (i : Int)).f0.length ≤ 100 ∧ (rd_T52 ms (i : Int)).f1.length ≤ 100 ∧ capstanlaw08_Great.l0 (m + 1) ((i + 1 : Nat) : Int) l0 l1 ms a3 = some false := by
      unfold capstanlaw07_Great.f at h
      by_cases c0 : ((rd_T52 ms (i : Int)).f0.length : Int) > 100
      · rw [if_pos c0, Option.bind_some, if_pos rfl] at h; cases h
      · rw [if_neg c0, Option.bind_some] at h
        by_cases c1 : ((rd_T52 ms (i : Int)).f1.length : Int) > 100
        · rw [decide_eq_true c1, if_pos rfl] at h; cases h
        · rw [decide_eq_false c1, if_neg (by decide)] at h
          by_cases c2 : ((rd_T52 ms (i : Int)).f7.length : Int) > 300
          · rw [if_pos c2] at h; cases h
          · rw [if_neg c2] at h
            exact ⟨by omega, by omega, h⟩
    by_cases e : j = i
    · subst e; exact ⟨h7.1, h7.2.1⟩
    · exact ih (i + 1) (by omega) h7.2.2 j (by omega) h2
theorem great_few (hn : ms.length ≤ 40) (h : capstanlaw08_Great.f 60 l0 l1 ms a3 = some false) : Few ms := by
  unfold capstanlaw08_Great.f at h
  have ht : capstanlaw08_Great.j0 60 true l0 l1 ms a3 = some true := by rw [capstanlaw08_Great.j0, if_pos rfl]
  by_cases h0 : (l0.length : Int) > 100
  · rw [if_pos h0, ht] at h; cases h
  · rw [if_neg h0] at h
    by_cases h1 : (l1.length : Int) > 100
    · rw [if_pos h1, ht] at h; cases h
    · rw [if_neg h1, decide_eq_false (by omega), capstanlaw08_Great.j0, if_neg (by decide)] at h
      have h3 : capstanlaw08_Great.l0 (ms.length + 1) ((0 : Nat) : Int) l0 l1 ms a3 = some false := by
        rcases great_l0 (l0 := l0) (l1 := l1) (a3 := a3) hn ms.length 0 (by omega) with h4 | ⟨h4, _⟩
        · have := up (f := fun k => capstanlaw08_Great.l0 k 0 l0 l1 ms a3) (fun k => (capstanlaw08_Great.mono_l k).2 _ _ _ _ _) h4 59 (by omega)
          rw [h] at this; cases this
        · exact h4
      exact fun j hj => great_few0 hn ms.length 0 (by omega) h3 j (Nat.zero_le _) hj
theorem copy_l0 (hs : Small ms) (hf : Few ms) (t0 t1 : List S86) (a : Int) : ∀ q i : Nat, i + q = ms.length → ∀ k, q + 1 ≤ k → capstanref08_Copy.l0 k (i : Int) l0 l1 ms a3 t0 t1 (ms.take i) a = some (t0, t1, ms, a) := by
  have hlen := hs.len
  intro q
  induction q with
  | zero =>
    intro i hi k hk
    obtain ⟨k, rfl⟩ : ∃ k', k = k' + 1 := ⟨k - 1, by omega⟩
    rw [capstanref08_Copy.l0, if_neg (by omega), List.take_of_length_le (by omega)]
  | succ q ih =>
    intro i hi k hk
    obtain ⟨k, rfl⟩ : ∃ k', k = k' + 1 := ⟨k - 1, by omega⟩
    have hw : wrap64 ((i : Int) + 1) = ((i + 1 : Nat) : Int) := by unfold wrap64; omega
    have hil : i < ms.length := by omega
    have hr : rd_T52 ms (i : Int) = ms[i] := by simp [rd_T52, hil]
    obtain ⟨f0, f1⟩ := hf i hil
    have hc := hs.code i (by omega) (by omega)
    rw [capstanref08_Copy.l0, if_pos (by omega), if_pos (by omega), Option.bind_some, if_pos (by rw [List.length_nil]; omega), Option.bind_some, if_pos (by rw [List.length_nil]; omega), capstanref05_Copy.f, if_pos (by rw [List.length_nil]; omega), Option.bind_some, if_pos (by rw [List.length_take]; omega), hw, List.nil_append, List.nil_append, List.nil_append, hr]
    have ht : ms.take i ++ [(⟨ms[i].f0, ms[i].f1, ms[i].f2, ms[i].f3, ms[i].f4, ms[i].f5, ms[i].f6, ms[i].f7⟩ : S52)] = ms.take (i + 1) := (List.take_succ_eq_append_getElem hil).symm
    rw [ht]
    exact ih (i + 1) (by omega) k (by omega)
theorem copy_f (hs : Small ms) (hf : Few ms) (h0 : l0.length ≤ 100) (h1 : l1.length ≤ 100) (k : Nat) (hk : 41 ≤ k) : capstanref08_Copy.f k l0 l1 ms a3 = some (l0, l1, ms, a3) := by
  have hlen := hs.len
  unfold capstanref08_Copy.f capstanref03_Copy.f
  rw [if_pos (by rw [List.length_nil]; omega), Option.bind_some, if_pos (by rw [List.length_nil]; omega), Option.bind_some, List.nil_append, List.nil_append]
  exact copy_l0 hs hf l0 l1 a3 ms.length 0 (Nat.zero_add _) k (by omega)
theorem same_l0 (hs : Small ms) (hf : Few ms) : ∀ q i : Nat, i + q = ms.length → ∀ k, 100100 + q ≤ k → capstanref08_Same.l0 k (i : Int) l0 l1 ms a3 l0 l1 ms a3 = some true := by
  have hlen := hs.len
  intro q
  induction q with
  | zero =>
    intro i hi k hk
    obtain ⟨k, rfl⟩ : ∃ k', k = k' + 1 := ⟨k - 1, by omega⟩
    rw [capstanref08_Same.l0, if_neg (by omega)]
  | succ q ih =>
    intro i hi k hk
    obtain ⟨k, rfl⟩ : ∃ k', k = k' + 1 := ⟨k - 1, by omega⟩
    have hw : wrap64 ((i : Int) + 1) = ((i + 1 : Nat) : Int) := by unfold wrap64; omega
    have hil : i < ms.length := by omega
    obtain ⟨f0, f1⟩ := hf i hil
    have hc := hs.code i (by omega) (by omega)
    rw [capstanref08_Same.l0, if_pos (by omega), if_pos (by omega), if_pos (by omega), capstanref07_Same.f, sameK_f _ (by omega) k (by omega), Option.bind_some, if_pos rfl, sameK_f _ (by omega) k (by omega), Option.bind_some, if_pos rfl, if_pos rfl, if_pos (by simp), if_pos rfl, if_pos rfl, Option.bind_some, if_pos (by simp), sameC_f _ (by omega) k (by omega), Option.bind_some, if_pos rfl, hw]
    exact ih (i + 1) (by omega) k (by omega)
theorem same_f (hs : Small ms) (hf : Few ms) (h0 : l0.length ≤ 100) (h1 : l1.length ≤ 100) (k : Nat) (hk : 100200 ≤ k) : capstanref08_Same.f k l0 l1 ms a3 l0 l1 ms a3 = some true := by
  have hlen := hs.len
  obtain ⟨k, rfl⟩ : ∃ k', k = k' + 1 := ⟨k - 1, by omega⟩
  unfold capstanref08_Same.f
  rw [if_pos rfl, sameV_f l0 (by omega) _ (by omega), Option.bind_some, if_pos rfl, sameV_f l1 (by omega) _ (by omega), Option.bind_some, if_pos rfl, bne_self_eq_false, capstanref08_Same.j0, if_neg (by decide)]
  exact same_l0 hs hf ms.length 0 (Nat.zero_add _) k (by omega)
end
end Go.Proofs.Ytkmnachdibhdhaa.M
