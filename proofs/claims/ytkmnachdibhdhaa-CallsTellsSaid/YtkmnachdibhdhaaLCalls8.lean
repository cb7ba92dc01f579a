/- Layer 11 in plain terms: to whom the reference's method leads (of capstanref11_Leads.f). -/
import Derived.Test.YtkmnachdibhdhaaP7
import Derived.Test.YtkmnachdibhdhaaP11
import Derived.Test.YtkmnachdibhdhaaP13
import Derived.Test.YtkmnachdibhdhaaLCalls5
import Derived.Test.YtkmnachdibhdhaaLCalls7
namespace Go.Proofs.Ytkmnachdibhdhaa.M
open Go.RowKit Go.Proofs.Ytkmnachdibhdhaa.P Go.Proofs.YtkmnachdibhdhaaW.PrintWords Go.Proofs.YtkmnachdibhdhaaW.PrintLast Go.Proofs.YtkmnachdibhdhaaW.PrintMore

theorem set_at (b : List Bool) (n : Nat) (v : Bool) (x : Nat) : (b.set n v).getD x false = if x = n ∧ n < b.length then v else b.getD x false := by
  rw [List.getD_eq_getElem?_getD, List.getD_eq_getElem?_getD, List.getElem?_set]
  by_cases h : n = x
  · subst h
    by_cases h2 : n < b.length
    · simp [h2]
    · simp [h2]
  · rw [if_neg h, if_neg fun e => h e.1.symm]
theorem rdB (b : List Bool) (n : Nat) : rdOf false b (n : Int) = b.getD n false := by simp [rdOf]
section
variable {l0 l1 : List S86} {ms : List S52} {a3 : Int}
/-- A row of methods to which one leads. -/
structure InRow (ms : List S52) (k : Int) (b : List Bool) : Prop where
  len : b.length = ms.length
  sound : ∀ x : Nat, b.getD x false = true → LeadsTo (ws ms) k x
theorem InRow.put {k : Int} {b : List Bool} (h : InRow ms k b) (n : Nat) (v : Bool) (hv : v = true → LeadsTo (ws ms) k n) : InRow ms k (b.set n v) := by
  refine ⟨by rw [List.length_set]; exact h.len, fun x hx => ?_⟩
  rw [set_at] at hx
  by_cases e : x = n ∧ n < b.length
  · rw [if_pos e] at hx
    rw [e.1]
    exact hv hx
  · rw [if_neg e] at hx
    exact h.sound x hx
theorem calls_at (hs : Small ms) (y n : Nat) (hy : y < ms.length) (F : Nat) (hF : 100001 ≤ F) : capstanref11_calls.f F (rd_T52 ms (y : Int)).f0 (rd_T52 ms (y : Int)).f1 (rd_T52 ms (y : Int)).f2 (rd_T52 ms (y : Int)).f3 (rd_T52 ms (y : Int)).f4 (rd_T52 ms (y : Int)).f5 (rd_T52 ms (y : Int)).f6 (rd_T52 ms (y : Int)).f7 (n : Int) = some ((nm ms y).contains (n : Int)) := by
  have hc := hs.code y (by omega) (by omega)
  exact rcalls_f _ _ _ _ _ _ _ _ _ (by omega) F (by omega)
theorem rL_l2 (hs : Small ms) (k : Int) (t : Int) (n : Nat) (hn : n < ms.length) : ∀ q i : Nat, i + q = ms.length → ∀ b, InRow ms k b → ∀ F, 100002 + q ≤ F →
    ∃ b' F', F ≤ F' + q + 1 ∧ InRow ms k b' ∧ (∀ x : Nat, b.getD x false = true → b'.getD x false = true) ∧ (∀ y : Nat, i ≤ y → y < ms.length → b.getD y false = true → (n : Int) ∈ nm ms y → b'.getD n false = true) ∧
      capstanref11_Leads.l2 F k b t (n : Int) (i : Int) l0 l1 ms a3 = capstanref11_Leads.l1 F' k b' t ((n + 1 : Nat) : Int) l0 l1 ms a3 := by
  have hlen := hs.len
  have hwn : wrap64 ((n : Int) + 1) = ((n + 1 : Nat) : Int) := by unfold wrap64; omega
  intro q
  induction q with
  | zero =>
    intro i hi b hb F hF
    obtain ⟨F, rfl⟩ : ∃ F', F = F' + 1 := ⟨F - 1, by omega⟩
    refine ⟨b, F, by omega, hb, fun _ h => h, fun y h1 h2 => absurd h2 (by omega), ?_⟩
    rw [capstanref11_Leads.l2, if_neg (by omega), hwn]
  | succ q ih =>
    intro i hi b hb F hF
    obtain ⟨F, rfl⟩ : ∃ F', F = F' + 1 := ⟨F - 1, by omega⟩
    have hbl := hb.len
    have hw : wrap64 ((i : Int) + 1) = ((i + 1 : Nat) : Int) := by unfold wrap64; omega
    have step : ∀ v : Bool, (v = true → LeadsTo (ws ms) k n) → (b.getD n false = true → v = true) → (b.getD i false = true → (n : Int) ∈ nm ms i → v = true) →
        ∃ b' F', F + 1 ≤ F' + (q + 1) + 1 ∧ InRow ms k b' ∧ (∀ x : Nat, b.getD x false = true → b'.getD x false = true) ∧ (∀ y : Nat, i ≤ y → y < ms.length → b.getD y false = true → (n : Int) ∈ nm ms y → b'.getD n false = true) ∧
          capstanref11_Leads.l2 F k (b.set n v) t (n : Int) ((i + 1 : Nat) : Int) l0 l1 ms a3 = capstanref11_Leads.l1 F' k b' t ((n + 1 : Nat) : Int) l0 l1 ms a3 := by
      intro v hv h1 h2
      obtain ⟨b', F', e1, e2, e3, e4, e5⟩ := ih (i + 1) (by omega) (b.set n v) (hb.put n v hv) F (by omega)
      have hmono : ∀ x : Nat, b.getD x false = true → (b.set n v).getD x false = true := fun x hx => by
        rw [set_at]
        by_cases e : x = n ∧ n < b.length
        · rw [if_pos e]; exact h1 (e.1 ▸ hx)
        · rw [if_neg e]; exact hx
      refine ⟨b', F', by omega, e2, fun x hx => e3 x (hmono x hx), fun y hy1 hy2 hy3 hy4 => ?_, e5⟩
      by_cases e : y = i
      · subst e
        refine e3 n ?_
        rw [set_at, if_pos ⟨rfl, by omega⟩]
        exact h2 hy3 hy4
      · exact e4 y (by omega) hy2 (hmono y hy3) hy4
    rw [capstanref11_Leads.l2, if_pos (by omega), if_pos (by omega), if_pos (by omega), rdB, rdB, hw, Int.toNat_natCast]
    by_cases c1 : b.getD n false = true
    · rw [if_pos c1]
      exact step true (fun _ => hb.sound n c1) (fun _ => rfl) (fun _ _ => rfl)
    · rw [if_neg c1, if_pos (by omega), if_pos (by omega)]
      by_cases c2 : b.getD i false = true
      · rw [if_pos c2, calls_at hs i n (by omega) F (by omega), Option.bind_some]
        refine step _ (fun hv => ?_) (fun h => absurd h c1) (fun _ h => List.contains_iff_mem.2 h)
        refine .step (hb.sound i c2) ?_
        rw [← nm_ws (by omega) (by rw [ws_len]; omega)]
        exact List.contains_iff_mem.1 hv
      · rw [if_neg c2]
        exact step false (fun h => absurd h (by decide)) (fun h => absurd h c1) (fun h => absurd h c2)
theorem rL_l1 (hs : Small ms) (k : Nat) (hk : k < ms.length) (t : Int) (ht : 0 ≤ t ∧ t ≤ 100) : ∀ q n : Nat, n + q = ms.length → ∀ b, InRow ms k b → ∀ F, 100100 + 50 * q ≤ F →
    ∃ b' F', F ≤ F' + 50 * q + 1 ∧ InRow ms k b' ∧ (∀ x : Nat, b.getD x false = true → b'.getD x false = true) ∧
      (∀ x : Nat, n ≤ x → x < ms.length → (x : Int) ∈ nm ms k → b'.getD x false = true) ∧ (∀ x y : Nat, n ≤ x → x < ms.length → y < ms.length → b.getD y false = true → (x : Int) ∈ nm ms y → b'.getD x false = true) ∧
      capstanref11_Leads.l1 F k b t (n : Int) l0 l1 ms a3 = capstanref11_Leads.l0 F' k b' (t + 1) l0 l1 ms a3 := by
  have hlen := hs.len
  have hwt : wrap64 (t + 1) = t + 1 := by unfold wrap64; omega
  intro q
  induction q with
  | zero =>
    intro n hn b hb F hF
    obtain ⟨F, rfl⟩ : ∃ F', F = F' + 1 := ⟨F - 1, by omega⟩
    refine ⟨b, F, by omega, hb, fun _ h => h, fun x h1 h2 => absurd h2 (by omega), fun x y h1 h2 => absurd h2 (by omega), ?_⟩
    rw [capstanref11_Leads.l1, if_neg (by omega), hwt]
  | succ q ih =>
    intro n hn b hb F hF
    obtain ⟨F, rfl⟩ : ∃ F', F = F' + 2 := ⟨F - 2, by omega⟩
    have hbl := hb.len
    have step : ∀ v : Bool, (v = true → LeadsTo (ws ms) k n) → (b.getD n false = true → v = true) → ((n : Int) ∈ nm ms k → v = true) →
        ∃ b' F', F + 2 ≤ F' + 50 * (q + 1) + 1 ∧ InRow ms k b' ∧ (∀ x : Nat, b.getD x false = true → b'.getD x false = true) ∧
          (∀ x : Nat, n ≤ x → x < ms.length → (x : Int) ∈ nm ms k → b'.getD x false = true) ∧ (∀ x y : Nat, n ≤ x → x < ms.length → y < ms.length → b.getD y false = true → (x : Int) ∈ nm ms y → b'.getD x false = true) ∧
          capstanref11_Leads.j3 (F + 1) k (b.set n v) t (n : Int) l0 l1 ms a3 = capstanref11_Leads.l0 F' k b' (t + 1) l0 l1 ms a3 := by
      intro v hv h1 h2
      obtain ⟨b1, F1, d1, d2, d3, d4, d5⟩ := rL_l2 (l0 := l0) (l1 := l1) (a3 := a3) hs k t n (by omega) ms.length 0 (Nat.zero_add _) (b.set n v) (hb.put n v hv) F (by omega)
      obtain ⟨b', F', e1, e2, e3, e4, e5, e6⟩ := ih (n + 1) (by omega) b1 d2 F1 (by omega)
      have hmono : ∀ x : Nat, b.getD x false = true → (b.set n v).getD x false = true := fun x hx => by
        rw [set_at]
        by_cases e : x = n ∧ n < b.length
        · rw [if_pos e]; exact h1 (e.1 ▸ hx)
        · rw [if_neg e]; exact hx
      refine ⟨b', F', by omega, e2, fun x hx => e3 x (d3 x (hmono x hx)), fun x hx1 hx2 hx3 => ?_, fun x y hx1 hx2 hy hy2 hx3 => ?_, ?_⟩
      · by_cases e : x = n
        · subst e
          refine e3 x (d3 x ?_)
          rw [set_at, if_pos ⟨rfl, by omega⟩]
          exact h2 hx3
        · exact e4 x (by omega) hx2 hx3
      · by_cases e : x = n
        · subst e
          exact e3 x (d4 y (by omega) hy (hmono y hy2) hx3)
        · exact e5 x y (by omega) hx2 hy (d3 y (hmono y hy2)) hx3
      · rw [capstanref11_Leads.j3]
        exact d5.trans e6
    rw [capstanref11_Leads.l1, if_pos (by omega), if_pos (by omega), if_pos (by omega), rdB, Int.toNat_natCast]
    by_cases c1 : b.getD n false = true
    · rw [if_pos c1]
      exact step true (fun _ => hb.sound n c1) (fun _ => rfl) (fun _ => rfl)
    · rw [if_neg c1, if_pos (by omega), if_pos (by omega), calls_at hs k n hk (F + 1) (by omega), Option.bind_some]
      refine step _ (fun hv => ?_) (fun h => absurd h c1) (fun h => List.contains_iff_mem.2 h)
      refine .one ?_
      rw [← nm_ws (by omega) (by rw [ws_len]; omega)]
      exact List.contains_iff_mem.1 hv
/-- All that is led to, from some place of the order on. -/
def Far (ms : List S52) (o : List Int) (k : Int) (t : Nat) (b : List Bool) : Prop := ∀ x : Nat, x < ms.length → LeadsTo (ws ms) k x → ms.length ≤ pos o x + t → b.getD x false = true
theorem leads_in (ho : okAll ms) {k x : Int} (hk : 0 ≤ k ∧ k < (ms.length : Int)) (h : LeadsTo (ws ms) k x) : 0 ≤ x ∧ x < (ms.length : Int) := by
  induction h with
  | one h =>
    have := (ws_ok ho k.toNat (by rw [ws_len]; omega)).2 _ h
    rw [ws_len] at this
    exact this
  | step _ h ih =>
    have := (ws_ok ho _ (by rw [ws_len]; omega)).2 _ h
    rw [ws_len] at this
    exact this
theorem rL_l0 (hs : Small ms) (ho : okAll ms) {o : List Int} (hO : Ord (ws ms) o) (k : Nat) (hk : k < ms.length) : ∀ q t : Nat, t + q = ms.length + 1 → ∀ b, InRow ms k b → Far ms o k t b → ∀ F, 200000 + 2100 * q ≤ F →
    ∃ b' F', 100000 ≤ F' ∧ InRow ms k b' ∧ Far ms o k (ms.length + 1) b' ∧ capstanref11_Leads.l0 F k b (t : Int) l0 l1 ms a3 = capstanref11_Leads.l3 F' b' [] 0 := by
  have hlen := hs.len
  intro q
  induction q with
  | zero =>
    intro t ht b hb hf F hF
    obtain ⟨F, rfl⟩ : ∃ F', F = F' + 1 := ⟨F - 1, by omega⟩
    obtain rfl : t = ms.length + 1 := by omega
    exact ⟨b, F, by omega, hb, hf, by rw [capstanref11_Leads.l0, if_neg (by omega)]⟩
  | succ q ih =>
    intro t ht b hb hf F hF
    obtain ⟨F, rfl⟩ : ∃ F', F = F' + 1 := ⟨F - 1, by omega⟩
    obtain ⟨b1, F1, d1, d2, d3, d4, d5, d6⟩ := rL_l1 (l0 := l0) (l1 := l1) (a3 := a3) hs k hk t ⟨by omega, by omega⟩ ms.length 0 (Nat.zero_add _) b hb F (by omega)
    obtain ⟨b', F', e1, e2, e3, e4⟩ := ih (t + 1) (by omega) b1 d2 (fun x hx h hp => by
      generalize hxx : (x : Int) = z at h
      cases h with
      | one h =>
        subst hxx
        refine d4 x (Nat.zero_le _) hx ?_
        rw [nm_ws (by omega) (by rw [ws_len]; omega)]
        exact h
      | @step y _ hy h =>
        subst hxx
        obtain ⟨y0, y1⟩ := leads_in ho ⟨by omega, by omega⟩ hy
        have hp2 := pos_call hO y0 (by rw [ws_len]; exact y1) h
        obtain ⟨y, rfl⟩ : ∃ j : Nat, y = (j : Int) := ⟨y.toNat, by omega⟩
        refine d5 x y (Nat.zero_le _) hx (by omega) (hf y (by omega) hy (by omega)) ?_
        rw [nm_ws (by omega) (by rw [ws_len]; omega)]
        exact h) F1 (by omega)
    refine ⟨b', F', e1, e2, e3, ?_⟩
    rw [capstanref11_Leads.l0, if_pos (by omega)]
    exact d6.trans (by rw [show (t : Int) + 1 = ((t + 1 : Nat) : Int) by omega]; exact e4)
theorem rL_l3 (b : List Bool) (hb : b.length ≤ 40) : ∀ q i : Nat, i + q = b.length → ∀ F, q + 1 ≤ F → capstanref11_Leads.l3 F b (below i fun x => b.getD x.toNat false) (i : Int) = some (below b.length fun x => b.getD x.toNat false, 0) := by
  intro q
  induction q with
  | zero =>
    intro i hi F hF
    obtain ⟨F, rfl⟩ : ∃ F', F = F' + 1 := ⟨F - 1, by omega⟩
    obtain rfl : i = b.length := by omega
    rw [capstanref11_Leads.l3, if_neg (by omega)]
  | succ q ih =>
    intro i hi F hF
    obtain ⟨F, rfl⟩ : ∃ F', F = F' + 1 := ⟨F - 1, by omega⟩
    have hw : wrap64 ((i : Int) + 1) = ((i + 1 : Nat) : Int) := by unfold wrap64; omega
    have hl := below_len i fun x => b.getD x.toNat false
    have h2 := ih (i + 1) (by omega) F (by omega)
    rw [below_succ, Int.toNat_natCast] at h2
    rw [capstanref11_Leads.l3, if_pos (by omega), if_pos (by omega), rdB, hw]
    by_cases h : b.getD i false = true
    · rw [if_pos h] at h2 ⊢
      rw [if_pos (by omega)]
      exact h2
    · rw [if_neg h] at h2 ⊢
      rw [List.append_nil] at h2
      exact h2
theorem rLeads_f (hs : Small ms) (ho : okAll ms) {o : List Int} (h : calls_Order.f 41 l0 l1 ms a3 = some (o, 0)) (hO : Ord (ws ms) o) (k : Nat) (hk : k < ms.length) (F : Nat) (hF : 300000000 ≤ F) : ∃ l, capstanref11_Leads.f F l0 l1 ms a3 k = some (l, 0) ∧ l.Pairwise (fun a b => a < b) ∧ ∀ x, x ∈ l ↔ LeadsTo (ws ms) k x := by
  have hlen := hs.len
  obtain ⟨F, rfl⟩ : ∃ F', F = F' + 1 := ⟨F - 1, by omega⟩
  have hr : ∀ x : Nat, (List.replicate ms.length false).getD x false = false := fun x => by
    rw [List.getD_eq_getElem?_getD, List.getElem?_replicate]
    split <;> rfl
  obtain ⟨b, F1, h1, h2, h3, h4⟩ := rL_l0 (l0 := l0) (l1 := l1) (a3 := a3) hs ho hO k hk (ms.length + 1) 0 (Nat.zero_add _) (List.replicate ms.length false) ⟨List.length_replicate, fun x hx => by rw [hr] at hx; cases hx⟩ (fun x hx _ hp => by
    have := pos_get (hO.all x (by omega) (by rw [ws_len]; omega))
    have := (List.getElem?_eq_some_iff.1 this).1
    have := hO.length
    rw [ws_len] at this
    omega) F (by have := hF; have h2 : 2100 * (ms.length + 1) ≤ 2100 * 41 := Nat.mul_le_mul_left _ (by omega); exact Nat.le_trans (Nat.add_le_add_left h2 _) (by clear h2; omega))
  have hbl := h2.len
  refine ⟨below b.length fun x => b.getD x.toNat false, ?_, below_rise _ _, fun x => ?_⟩
  · unfold capstanref11_Leads.f
    rw [rOrder_f hs (F + 1) hF, h, Option.bind_some, if_pos rfl, if_neg (by omega), capstanref11_Leads.j0, decide_eq_false (by omega), if_neg (by decide), if_pos (by omega), Int.toNat_natCast, if_pos (by omega)]
    exact h4.trans (rL_l3 b (by omega) b.length 0 (Nat.zero_add _) F1 (by omega))
  · rw [mem_below]
    constructor
    · rintro ⟨hx, hb⟩
      have := h2.sound x.toNat hb
      rw [Int.toNat_of_nonneg hx.1] at this
      exact this
    · intro hx
      obtain ⟨x0, x1⟩ := leads_in ho ⟨by omega, by omega⟩ hx
      refine ⟨⟨x0, by omega⟩, h3 x.toNat (by omega) (by rw [Int.toNat_of_nonneg x0]; exact hx) (by omega)⟩
end
end Go.Proofs.Ytkmnachdibhdhaa.M
