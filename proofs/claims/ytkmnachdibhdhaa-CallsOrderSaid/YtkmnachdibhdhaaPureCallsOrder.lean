/- CallsOrder: in the order each method stands once, behind all to which it leads; it leads to those that it calls and those to which these lead, never to itself; where none calls another one, the order is 0, 1, 2, .. -/
import Derived.Test.YtkmnachdibhdhaaQ1
import Derived.Test.YtkmnachdibhdhaaQ2
import Derived.Test.YtkmnachdibhdhaaQ3
import Derived.Test.YtkmnachdibhdhaaQ6
import Derived.Test.YtkmnachdibhdhaaLCalls4
import Derived.Test.YtkmnachdibhdhaaLCalls5
namespace Go.Proofs.Ytkmnachdibhdhaa.Pure
open Go.RowKit Go.Proofs.Ytkmnachdibhdhaa.Q Go.Proofs.Ytkmnachdibhdhaa.M Go.Proofs.YtkmnachdibhdhaaW.PrintWords Go.Proofs.YtkmnachdibhdhaaW.PrintLast Go.Proofs.YtkmnachdibhdhaaW.PrintMore

theorem set_at (b : List Bool) (n : Nat) (v : Bool) (x : Nat) : (b.set n v).getD x false = if x = n ∧ n < b.length then v else b.getD x false := by
  rw [List.getD_eq_getElem?_getD, List.getD_eq_getElem?_getD, List.getElem?_set]
  by_cases h : n = x
  · subst h
    by_cases h2 : n < b.length
    · simp [h2]
    · simp [h2]
  · rw [if_neg h, if_neg fun e => h e.1.symm]
theorem set_int (b : List Int) (n : Nat) (v : Int) (x : Nat) : (b.set n v).getD x 0 = if x = n ∧ n < b.length then v else b.getD x 0 := by
  rw [List.getD_eq_getElem?_getD, List.getD_eq_getElem?_getD, List.getElem?_set]
  by_cases h : n = x
  · subst h
    by_cases h2 : n < b.length
    · simp [h2]
    · simp [h2]
  · rw [if_neg h, if_neg fun e => h e.1.symm]
theorem rdB (b : List Bool) (z : Int) : rdOf false b z = b.getD z.toNat false := by simp [rdOf]
theorem rdI (l : List Int) (z : Int) : rd l z = l.getD z.toNat 0 := by simp [rd]
theorem rdN (l : List Int) (i : Nat) (h : i < l.length) : rd l (i : Int) = l[i] := by simp [rd, h]
theorem wrap_up (i : Nat) (h : i ≤ 1000000) : wrap64 ((i : Int) + 1) = ((i + 1 : Nat) : Int) := by unfold wrap64; omega
theorem head_leads {whom : List (List Int)} {k z x : Int} (hz : z ∈ whom.getD k.toNat []) (h : LeadsTo whom z x) : LeadsTo whom k x := by
  induction h with
  | one h => exact .step (.one hz) h
  | step _ h ih => exact .step ih h
/-- The numbers below a bound. -/
def upto (n : Nat) : List Int := (List.range n).map fun (j : Nat) => (j : Int)
theorem upto_succ (n : Nat) : upto (n + 1) = upto n ++ [(n : Int)] := by unfold upto; rw [List.range_succ, List.map_append]; rfl
theorem mem_upto {n : Nat} {x : Int} : x ∈ upto n ↔ 0 ≤ x ∧ x < (n : Int) := by
  unfold upto
  rw [List.mem_map]
  constructor
  · rintro ⟨j, hj, rfl⟩
    rw [List.mem_range] at hj
    omega
  · intro h
    exact ⟨x.toNat, by rw [List.mem_range]; omega, by omega⟩
theorem upto_get (n i : Nat) (h : i < n) : rd (upto n) (i : Int) = (i : Int) := by simp [rd, upto, h]
/-- Where none calls another one: 0, 1, 2, .. -/
theorem plain_loop {whom : List (List Int)} (h : ∀ z : Nat, whom.getD z [] = []) (n : Nat) : ∀ q i : Nat, i + q = n → odLoop whom n (q + 1) (upto i) = some (upto n, 0) := by
  intro q
  induction q with
  | zero =>
    intro i hi
    obtain rfl : i = n := by omega
    rw [odLoop, if_pos]
    refine List.eq_nil_iff_forall_not_mem.2 fun x hx => ?_
    obtain ⟨h1, h2⟩ := odKeys_mem.1 hx
    exact h2 (mem_upto.2 h1)
  | succ q ih =>
    intro i hi
    have hk : odKeys n (upto i) = (List.range' i (q + 1)).map fun (j : Nat) => (j : Int) := by
      refine rise_ext ?_ ?_ fun x => ?_
      · unfold odKeys
        refine List.Pairwise.filter _ ?_
        rw [List.pairwise_map]
        exact List.pairwise_lt_range.imp fun h => by omega
      · rw [List.pairwise_map]
        exact List.Pairwise.imp (fun h => by omega) (List.pairwise_lt_range' (s := i) (n := q + 1))
      · rw [odKeys_mem, mem_upto, List.mem_map]
        constructor
        · rintro ⟨h1, h2⟩
          refine ⟨x.toNat, List.mem_range'_1.2 ?_, by omega⟩
          omega
        · rintro ⟨j, hj, rfl⟩
          have := List.mem_range'_1.1 hj
          omega
    have hc : odCnt whom (upto i) (i : Int) = 0 := by
      unfold odCnt
      rw [Int.toNat_natCast, h]
      simp
    rw [odLoop, hk, List.range'_succ, List.map_cons, if_neg (by simp), List.find?_cons_of_pos (by rw [hc]; rfl)]
    dsimp only
    rw [← upto_succ]
    exact ih (i + 1) (by omega)
section
variable {l0 l1 : List S86} {ms : List S52} {a3 : Int}
theorem leads_in (ho : okAll ms) {k x : Int} (hk : 0 ≤ k ∧ k < (ms.length : Int)) (h : LeadsTo (ws ms) k x) : 0 ≤ x ∧ x < (ms.length : Int) := by
  induction h with
  | one h =>
    have := (ws_ok ho k.toNat (by rw [ws_len]; omega)).2 _ h
    rw [ws_len] at this
    exact this
  | step _ h ih =>
    have := (ws_ok ho _ (by rw [ws_len]; omega)).2 _ h
    rw [ws_len] at this
    exact this
theorem pos_leads {o : List Int} (hO : Ord (ws ms) o) (ho : okAll ms) {k x : Int} (hk : 0 ≤ k ∧ k < (ms.length : Int)) (h : LeadsTo (ws ms) k x) : pos o x < pos o k := by
  induction h with
  | one h => exact pos_call hO hk.1 (by rw [ws_len]; exact hk.2) h
  | step hy h ih =>
    obtain ⟨y0, y1⟩ := leads_in ho hk hy
    have := pos_call hO y0 (by rw [ws_len]; exact y1) h
    omega
theorem Leads_k (hs : Small ms) (ho : okAll ms) {o : List Int} (h : calls_Order.f 41 l0 l1 ms a3 = some (o, 0)) (hO : Ord (ws ms) o) (n : Nat) (hn : n ≤ ms.length) : ∃ q, ∀ k : Nat, k < n → ∃ l, (∀ F, q ≤ F → calls_Leads.f F l0 l1 ms a3 k = some (l, 0)) ∧ l.Pairwise (fun a b => a < b) ∧ (∀ x, x ∈ l ↔ LeadsTo (ws ms) k x) ∧ l.length ≤ 40 := by
  have hlen := hs.len
  induction n with
  | zero => exact ⟨0, fun k hk => absurd hk (Nat.not_lt_zero _)⟩
  | succ n ih =>
    obtain ⟨q, hq⟩ := ih (by omega)
    obtain ⟨q2, l, h1, h2, h3⟩ := Leads_f hs ho h hO n ⟨by omega, by omega⟩
    have hl : l.length ≤ ms.length := by
      have := nodup_sub (b := upto ms.length) (h2.imp fun h => by omega) fun x hx => mem_upto.2 (leads_in ho ⟨by omega, by omega⟩ ((h3 x).1 hx))
      unfold upto at this
      rw [List.length_map, List.length_range] at this
      exact this
    refine ⟨max q q2, fun k hk => ?_⟩
    by_cases e : k = n
    · subst e
      exact ⟨l, fun F hF => up (f := fun F => calls_Leads.f F l0 l1 ms a3 k) (fun F => calls_Leads.mono _ _ _ _ _ F) h1 F (by omega), h2, h3, by omega⟩
    · obtain ⟨l, e1, e2⟩ := hq k (by omega)
      exact ⟨l, fun F hF => e1 F (by omega), e2⟩
theorem whom_len (hs : Small ms) (ho : okAll ms) (k : Nat) (hk : k < ms.length) : (sset (nm ms k)).length ≤ 40 := by
  have hlen := hs.len
  have := nodup_sub (b := upto ms.length) (sset_nodup (nm ms k)) fun x hx => mem_upto.2 (cl_ok_mem.1 (ho k hk) x (mem_sset.1 hx))
  unfold upto at this
  rw [List.length_map, List.length_range] at this
  omega
theorem co_l0 (hs : Small ms) (ho : okAll ms) {o : List Int} (hO : Ord (ws ms) o) : ∀ q i : Nat, i + q = o.length → ∀ (at_ : List Int) (seen : List Bool), at_.length = 40 → seen.length = 40 →
    (∀ (j : Nat) (z : Int), j < i → o[j]? = some z → at_.getD z.toNat 0 = (j : Int)) → (∀ x : Nat, seen.getD x false = true → (x : Int) ∈ o.take i) → ∀ p : Bool, (p = true ↔ ∀ j : Nat, j < i → sset (nm ms j) = []) → ∀ F, 2 * q + 10 ≤ F →
    ∃ F' at2 p2, F ≤ F' + 2 * q + 1 ∧ (∀ (j : Nat) (z : Int), o[j]? = some z → at2.getD z.toNat 0 = (j : Int)) ∧ (p2 = true ↔ ∀ j : Nat, j < ms.length → sset (nm ms j) = []) ∧
      capstanlaw11_CallsOrder.l0 F o at_ seen p (i : Int) l0 l1 ms a3 = capstanlaw11_CallsOrder.l1 F' o at2 p2 0 l0 l1 ms a3 := by
  have hlen := hs.len
  have hol := hO.length
  rw [ws_len] at hol
  intro q
  induction q with
  | zero =>
    intro i hi at_ seen h1 h2 h3 h4 p hp F hF
    obtain ⟨F, rfl⟩ : ∃ F', F = F' + 1 := ⟨F - 1, by omega⟩
    obtain rfl : i = o.length := by omega
    refine ⟨F, at_, p, by omega, fun j z hz => h3 j z (List.getElem?_eq_some_iff.1 hz).1 hz, by rw [← hol]; exact hp, ?_⟩
    rw [capstanlaw11_CallsOrder.l0, if_neg (by omega)]
  | succ q ih =>
    intro i hi at_ seen h1 h2 h3 h4 p hp F hF
    obtain ⟨F, rfl⟩ : ∃ F', F = F' + 2 := ⟨F - 2, by omega⟩
    have hil : i < o.length := by omega
    have hw := wrap_up i (by omega)
    have hr := rdN o i hil
    have hz := hO.inv.range o[i] (List.getElem_mem hil)
    rw [ws_len] at hz
    have hns : rdOf false seen o[i] = false := by
      rw [rdB, Bool.eq_false_iff]
      intro h
      have := h4 o[i].toNat h
      rw [Int.toNat_of_nonneg hz.1] at this
      obtain ⟨j, hj, e⟩ := List.mem_iff_getElem.1 this
      have hj2 : j < i := by simp at hj; omega
      rw [List.getElem_take] at e
      have := (List.getElem_inj hO.inv.nodup).1 e
      omega
    have hW := Whom_f (l0 := l0) (l1 := l1) (a3 := a3) hs (i : Int)
    rw [if_pos ⟨by omega, by omega, ho i (by omega)⟩] at hW
    have next : ∀ b : Bool, (b = true ↔ ∀ j : Nat, j < i + 1 → sset (nm ms j) = []) → ∃ F' at2 p2, F + 2 ≤ F' + 2 * (q + 1) + 1 ∧ (∀ (j : Nat) (z : Int), o[j]? = some z → at2.getD z.toNat 0 = (j : Int)) ∧ (p2 = true ↔ ∀ j : Nat, j < ms.length → sset (nm ms j) = []) ∧
        capstanlaw11_CallsOrder.l0 F o (at_.set o[i].toNat (i : Int)) (seen.set o[i].toNat true) b ((i + 1 : Nat) : Int) l0 l1 ms a3 = capstanlaw11_CallsOrder.l1 F' o at2 p2 0 l0 l1 ms a3 := by
      intro b hb
      obtain ⟨F', at2, p2, e1, e2⟩ := ih (i + 1) (by omega) (at_.set o[i].toNat (i : Int)) (seen.set o[i].toNat true) (by rw [List.length_set]; exact h1) (by rw [List.length_set]; exact h2) (fun j z hj hjz => by
        rw [set_int]
        by_cases e : j = i
        · subst e
          have : z = o[j] := by rw [List.getElem?_eq_getElem hil] at hjz; exact (Option.some.inj hjz).symm
          rw [if_pos ⟨by rw [this], by omega⟩]
        · rw [if_neg]
          · exact h3 j z (by omega) hjz
          · intro e2
            have hzr := hO.inv.range z (List.mem_of_getElem? hjz)
            have : z = o[i] := by have := e2.1; omega
            obtain ⟨hj2, hj3⟩ := List.getElem?_eq_some_iff.1 hjz
            rw [this] at hj3
            exact e ((List.getElem_inj hO.inv.nodup).1 hj3)) (fun x hx => by
        rw [set_at] at hx
        by_cases e : x = o[i].toNat ∧ o[i].toNat < seen.length
        · rw [List.take_succ_eq_append_getElem hil, e.1, Int.toNat_of_nonneg hz.1]
          exact List.mem_append_right _ (List.mem_singleton_self _)
        · rw [if_neg e] at hx
          rw [List.take_succ_eq_append_getElem hil]
          exact List.mem_append_left _ (h4 x hx)) b hb F (by omega)
      exact ⟨F', at2, p2, by omega, e2⟩
    rw [capstanlaw11_CallsOrder.l0, if_pos (by omega), if_pos (by omega), hr, if_neg (by omega), if_neg (by omega), if_pos (by omega), if_pos (by omega), hns, capstanlaw11_CallsOrder.j1, if_neg (by decide), if_pos (by omega), if_pos (by omega), hr, if_pos (by omega), if_pos (by omega), Option.bind_some, Option.bind_some, hW, Option.bind_some]
    dsimp only
    rw [if_pos rfl, if_pos rfl, hw]
    cases p with
    | true =>
      rw [if_pos rfl]
      refine next _ ?_
      have hp := hp.1 rfl
      rw [beq_iff_eq]
      constructor
      · intro h j hj
        by_cases e : j = i
        · subst e; exact List.eq_nil_of_length_eq_zero (by omega)
        · exact hp j (by omega)
      · intro h
        rw [h i (by omega)]
        rfl
    | false =>
      rw [if_neg (by decide)]
      refine next _ ?_
      constructor
      · intro h; cases h
      · intro h
        exact absurd (hp.2 fun j hj => h j (by omega)) (by decide)
section
variable {o : List Int} {at_ : List Int} {q0 : Nat} {p : Bool} (hs : Small ms) (ho : okAll ms) (hO : Ord (ws ms) o)
  (hq : ∀ k : Nat, k < ms.length → ∃ l, (∀ F, q0 ≤ F → calls_Leads.f F l0 l1 ms a3 k = some (l, 0)) ∧ l.Pairwise (fun a b => a < b) ∧ (∀ x, x ∈ l ↔ LeadsTo (ws ms) k x) ∧ l.length ≤ 40)
  (hat : ∀ (j : Nat) (z : Int), o[j]? = some z → at_.getD z.toNat 0 = (j : Int))
include hs hO
theorem co_l4 {k : Int} (inn : List Bool) (W : List Int) (t : Int) (m : List Int) (hm : ∀ x ∈ m, (0 ≤ x ∧ x < (ms.length : Int)) ∧ inn.getD x.toNat false = true) (hml : m.length ≤ 40) (ht : 0 ≤ t ∧ t ≤ 1000) : ∀ q i : Nat, i + q = m.length → ∀ F, q + 10 ≤ F →
    ∃ F', F ≤ F' + q + 1 ∧ capstanlaw11_CallsOrder.l4 F o at_ p k inn W t m (i : Int) l0 l1 ms a3 = capstanlaw11_CallsOrder.l3 F' o at_ p k inn W (t + 1) l0 l1 ms a3 := by
  have hlen := hs.len
  have hol := hO.length
  rw [ws_len] at hol
  have hwt : wrap64 (t + 1) = t + 1 := by unfold wrap64; omega
  intro q
  induction q with
  | zero =>
    intro i hi F hF
    obtain ⟨F, rfl⟩ : ∃ F', F = F' + 1 := ⟨F - 1, by omega⟩
    refine ⟨F, by omega, ?_⟩
    rw [capstanlaw11_CallsOrder.l4, if_neg (by omega), hwt]
  | succ q ih =>
    intro i hi F hF
    obtain ⟨F, rfl⟩ : ∃ F', F = F' + 1 := ⟨F - 1, by omega⟩
    have hil : i < m.length := by omega
    obtain ⟨hx, hb⟩ := hm _ (List.getElem_mem hil)
    obtain ⟨F', h1, h2⟩ := ih (i + 1) (by omega) F (by omega)
    refine ⟨F', by omega, ?_⟩
    rw [capstanlaw11_CallsOrder.l4, if_pos (by omega), if_pos (by omega), rdN m i hil, if_neg (by omega), if_neg (by omega), if_pos (by omega), if_pos (by omega), if_pos (by rw [rdB]; exact hb), wrap_up i (by omega)]
    exact h2
include ho hq
theorem co_l3 (k : Nat) (hk : k < ms.length) (inn : List Bool) (hin : ∀ x : Int, LeadsTo (ws ms) k x → inn.getD x.toNat false = true) (W : List Int) (hW : ∀ x ∈ W, x ∈ (ws ms).getD k []) (hWl : W.length ≤ 40) : ∀ q i : Nat, i + q = W.length → ∀ F, q0 + 50 * q + 100 ≤ F →
    ∃ F', F ≤ F' + 50 * q + 1 ∧ capstanlaw11_CallsOrder.l3 F o at_ p k inn W (i : Int) l0 l1 ms a3 = capstanlaw11_CallsOrder.l1 F' o at_ p ((k + 1 : Nat) : Int) l0 l1 ms a3 := by
  have hlen := hs.len
  have hol := hO.length
  rw [ws_len] at hol
  intro q
  induction q with
  | zero =>
    intro i hi F hF
    obtain ⟨F, rfl⟩ : ∃ F', F = F' + 1 := ⟨F - 1, by omega⟩
    refine ⟨F, by omega, ?_⟩
    rw [capstanlaw11_CallsOrder.l3, if_neg (by omega), wrap_up k (by omega)]
  | succ q ih =>
    intro i hi F hF
    obtain ⟨F, rfl⟩ : ∃ F', F = F' + 2 := ⟨F - 2, by omega⟩
    have hil : i < W.length := by omega
    have hz := hW _ (List.getElem_mem hil)
    have hzl : LeadsTo (ws ms) k W[i] := .one hz
    have hzr := leads_in ho ⟨by omega, by omega⟩ hzl
    obtain ⟨m, e1, _, e3, e4⟩ := hq W[i].toNat (by omega)
    rw [Int.toNat_of_nonneg hzr.1] at e1 e3
    obtain ⟨F1, f1, f2⟩ := co_l4 (l0 := l0) (l1 := l1) (a3 := a3) (at_ := at_) (p := p) (k := (k : Int)) hs hO inn W (i : Int) m (fun x hx => by
      have h2 := (e3 x).1 hx
      exact ⟨leads_in ho hzr h2, hin x (head_leads hz h2)⟩) e4 ⟨by omega, by omega⟩ m.length 0 (Nat.zero_add _) F (by omega)
    obtain ⟨F', g1, g2⟩ := ih (i + 1) (by omega) F1 (by omega)
    refine ⟨F', by omega, ?_⟩
    rw [capstanlaw11_CallsOrder.l3, if_pos (by omega), if_pos (by omega), rdN W i hil, e1 (F + 1) (by omega), Option.bind_some, if_neg (by omega), if_neg (by omega), if_pos (by omega), if_pos (by omega), if_pos (by rw [rdB]; exact hin _ hzl)]
    rw [show (((m, (0 : Int)).2 != 0) = false) from rfl, capstanlaw11_CallsOrder.j6, if_neg (by decide)]
    exact f2.trans g2
include hat
theorem co_l2 (k : Nat) (hk : k < ms.length) (l : List Int) (hr : l.Pairwise fun a b => a < b) (hl : ∀ x, x ∈ l ↔ LeadsTo (ws ms) k x) (hll : l.length ≤ 40) : ∀ q i : Nat, i + q = l.length → ∀ inn : List Bool, inn.length = 40 → (∀ x ∈ l.take i, inn.getD x.toNat false = true) → ∀ F, q0 + 2500 + q ≤ F →
    ∃ F', F ≤ F' + 2300 + q ∧ capstanlaw11_CallsOrder.l2 F o at_ p k l inn (i : Int) l0 l1 ms a3 = capstanlaw11_CallsOrder.l1 F' o at_ p ((k + 1 : Nat) : Int) l0 l1 ms a3 := by
  have hlen := hs.len
  have hol := hO.length
  rw [ws_len] at hol
  have hko := pos_get (hO.all (k : Int) (by omega) (by rw [ws_len]; omega))
  intro q
  induction q with
  | zero =>
    intro i hi inn hil hin F hF
    obtain ⟨F, rfl⟩ : ∃ F', F = F' + 1 := ⟨F - 1, by omega⟩
    rw [List.take_of_length_le (by omega)] at hin
    have hW := Whom_f (l0 := l0) (l1 := l1) (a3 := a3) hs (k : Int)
    rw [if_pos ⟨by omega, by omega, ho k hk⟩] at hW
    have hwl := whom_len hs ho k hk
    obtain ⟨F', h1, h2⟩ := co_l3 (l0 := l0) (l1 := l1) (a3 := a3) (at_ := at_) (p := p) hs ho hO hq k hk inn (fun x hx => hin x ((hl x).2 hx)) (sset (nm ms k)) (fun x hx => by rw [ws_get ms k hk]; exact hx) hwl (sset (nm ms k)).length 0 (Nat.zero_add _) F (by omega)
    refine ⟨F', by omega, ?_⟩
    rw [capstanlaw11_CallsOrder.l2, if_neg (by omega), hW, Option.bind_some]
    exact h2
  | succ q ih =>
    intro i hi inn hil hin F hF
    obtain ⟨F, rfl⟩ : ∃ F', F = F' + 1 := ⟨F - 1, by omega⟩
    have hll2 : i < l.length := by omega
    have hz : LeadsTo (ws ms) k l[i] := (hl _).1 (List.getElem_mem hll2)
    have hzr := leads_in ho ⟨by omega, by omega⟩ hz
    have hp := pos_leads hO ho ⟨by omega, by omega⟩ hz
    have hzo := pos_get (hO.all l[i] hzr.1 (by rw [ws_len]; exact hzr.2))
    have ha := hat _ _ hzo
    have hb := hat _ _ hko
    have hne : l[i] ≠ (k : Int) := fun e => by rw [e] at hp; omega
    have hset : (List.set inn l[i].toNat true).length = 40 := by rw [List.length_set]; exact hil
    obtain ⟨F', h1, h2⟩ := ih (i + 1) (by omega) (inn.set l[i].toNat true) hset (fun x hx => by
      rw [set_at]
      by_cases e : x.toNat = l[i].toNat ∧ l[i].toNat < inn.length
      · rw [if_pos e]
      · rw [if_neg e]
        rw [List.take_succ_eq_append_getElem hll2] at hx
        rcases List.mem_append.1 hx with hx | hx
        · exact hin x hx
        · exact absurd ⟨by rw [List.mem_singleton.1 hx], by omega⟩ e) F (by omega)
    refine ⟨F', by omega, ?_⟩
    rw [capstanlaw11_CallsOrder.l2, if_pos (by omega), if_pos (by omega), rdN l i hll2, if_neg (by omega), if_neg (by omega), if_neg hne, if_pos (by omega), if_pos (by omega), if_pos (by omega), if_pos (by omega), rdI, rdI, ha, hb, if_neg (by omega), wrap_up i (by omega)]
    by_cases h0 : (i : Int) > 0
    · have hw : wrap64 ((i : Int) - 1) = ((i - 1 : Nat) : Int) := by unfold wrap64; omega
      have hlt : l[i - 1] < l[i] := List.pairwise_iff_getElem.1 hr (i - 1) i (by omega) hll2 (by omega)
      rw [if_pos h0, hw, if_pos (by omega), if_pos (by omega), rdN l (i - 1) (by omega), if_neg (by omega)]
      exact h2
    · rw [if_neg h0]
      exact h2
set_option maxRecDepth 20000 in
theorem co_l1 (hp : p = true → (∀ j : Nat, j < ms.length → sset (nm ms j) = []) ∧ o = upto ms.length) : ∀ q i : Nat, i + q = ms.length → ∀ F, q0 + 3000 * q + 10 ≤ F → capstanlaw11_CallsOrder.l1 F o at_ p (i : Int) l0 l1 ms a3 = some true := by
  have hlen := hs.len
  have hol := hO.length
  rw [ws_len] at hol
  intro q
  induction q with
  | zero =>
    intro i hi F hF
    obtain ⟨F, rfl⟩ : ∃ F', F = F' + 1 := ⟨F - 1, by omega⟩
    rw [capstanlaw11_CallsOrder.l1, if_neg (by omega)]
  | succ q ih =>
    intro i hi F hF
    have hF2 : q0 + 3000 * q + 3010 ≤ F := by rw [Nat.mul_add] at hF; omega
    clear hF
    obtain ⟨F, rfl⟩ : ∃ F', F = F' + 2 := ⟨F - 2, by omega⟩
    obtain ⟨l, e1, e2, e3, e4⟩ := hq i (by omega)
    obtain ⟨F', f1, f2⟩ := co_l2 (l0 := l0) (l1 := l1) (a3 := a3) (at_ := at_) (p := p) hs ho hO hq hat i (by omega) l e2 e3 e4 l.length 0 (Nat.zero_add _) (List.replicate 40 false) List.length_replicate (fun x hx => absurd hx (by simp)) F (by omega)
    have g := ih (i + 1) (by omega) F' (by omega)
    rw [capstanlaw11_CallsOrder.l1, if_pos (by omega), e1 (F + 1) (by omega), Option.bind_some]
    dsimp only
    rw [if_pos rfl]
    have hj : capstanlaw11_CallsOrder.j3 (F + 1) o at_ p (i : Int) l false l0 l1 ms a3 = some true := by
      rw [capstanlaw11_CallsOrder.j3, if_neg (by decide)]
      exact f2.trans g
    cases hpp : p with
    | true =>
      obtain ⟨h1, h2⟩ := hp hpp
      have hn : l = [] := by
        refine List.eq_nil_iff_forall_not_mem.2 fun x hx => ?_
        have hx := (e3 x).1 hx
        have : ∀ z : Int, z ∉ (ws ms).getD i [] := fun z hz => by
          rw [ws_get ms i (by omega), h1 i (by omega)] at hz
          cases hz
        have : ∀ k z : Int, LeadsTo (ws ms) k z → k = (i : Int) → False := by
          intro k z h
          induction h with
          | one h => rintro rfl; exact this _ h
          | step _ _ ih => exact ih
        exact this _ _ hx rfl
      rw [if_pos rfl, if_pos (by omega), h2, upto_get _ _ (by omega), if_pos rfl, hn]
      rw [h2, hpp, hn] at hj
      exact hj
    | false =>
      rw [if_neg (by decide)]
      rw [hpp] at hj
      exact hj
end
end
set_option maxRecDepth 20000 in
theorem CallsOrder : capstanlaw11_CallsOrder.Pure := by
  intro l0 l1 ms a3 _
  rcases great_f (l0 := l0) (l1 := l1) (ms := ms) (a3 := a3) with h | ⟨h, hs, _⟩
  · refine ⟨200, ?_⟩
    unfold capstanlaw11_CallsOrder.f
    rw [awake_f 200 (Nat.le_refl _), Option.bind_some, if_pos rfl, up (f := fun k => capstanlaw08_Great.f k l0 l1 ms a3) (fun k => capstanlaw08_Great.mono _ _ _ _ k) h 200 (by omega), Option.bind_some, if_pos rfl]
  have hlen := hs.len
  have err : ∀ e : Int, e ≠ 0 → calls_Order.f 41 l0 l1 ms a3 = some ([], e) → ∃ k, capstanlaw11_CallsOrder.f k l0 l1 ms a3 = some true := by
    intro e he ho
    refine ⟨200, ?_⟩
    unfold capstanlaw11_CallsOrder.f
    rw [awake_f 200 (Nat.le_refl _), Option.bind_some, if_pos rfl, up (f := fun k => capstanlaw08_Great.f k l0 l1 ms a3) (fun k => capstanlaw08_Great.mono _ _ _ _ k) h 200 (by omega), Option.bind_some, if_neg (by decide), up (f := fun k => calls_Order.f k l0 l1 ms a3) (fun k => calls_Order.mono _ _ _ _ k) ho 200 (by omega), Option.bind_some]
    dsimp only
    rw [if_neg he]
    rfl
  rcases Order_f (l0 := l0) (l1 := l1) (a3 := a3) hs with ⟨hok, o, ho, hO⟩ | ⟨_, _, ho⟩ | ⟨_, ho⟩
  · have hol := hO.length
    rw [ws_len] at hol
    obtain ⟨q0, hq⟩ := Leads_k hs hok ho hO ms.length (Nat.le_refl _)
    obtain ⟨K, hK⟩ : ∃ K, q0 + 200000 ≤ K := ⟨_, Nat.le_refl _⟩
    have hol2 : 2 * o.length + 10 ≤ 90 := by omega
    obtain ⟨F', at2, p2, h1, h2, h3, h4⟩ := co_l0 (l0 := l0) (l1 := l1) (a3 := a3) hs hok hO o.length 0 (Nat.zero_add _) (List.replicate 40 0) (List.replicate 40 false) List.length_replicate List.length_replicate (fun j z hj => absurd hj (Nat.not_lt_zero _)) (fun x hx => by
      rw [List.getD_eq_getElem?_getD, List.getElem?_replicate] at hx
      split at hx <;> cases hx) true ⟨fun _ j hj => absurd hj (Nat.not_lt_zero _), fun _ => rfl⟩ K (Nat.le_trans hol2 (by omega))
    refine ⟨K, ?_⟩
    unfold capstanlaw11_CallsOrder.f
    rw [awake_f K (by omega), Option.bind_some, if_pos rfl, up (f := fun k => capstanlaw08_Great.f k l0 l1 ms a3) (fun k => capstanlaw08_Great.mono _ _ _ _ k) h K (by omega), Option.bind_some, if_neg (by decide), up (f := fun k => calls_Order.f k l0 l1 ms a3) (fun k => calls_Order.mono _ _ _ _ k) ho K (by omega), Option.bind_some]
    dsimp only
    rw [if_pos rfl, if_pos (by omega)]
    refine h4.trans ?_
    have hn : 3000 * ms.length ≤ 3000 * 40 := Nat.mul_le_mul_left _ hlen
    have hF : q0 + 120010 ≤ F' := by clear hn; omega
    refine co_l1 hs hok hO hq h2 (fun hp => ?_) ms.length 0 (Nat.zero_add _) F' (Nat.le_trans (Nat.add_le_add_right (Nat.add_le_add_left hn q0) 10) hF)
    have hpl := h3.1 hp
    refine ⟨hpl, ?_⟩
    have hz : ∀ z : Nat, (ws ms).getD z [] = [] := fun z => by
      by_cases hz : z < ms.length
      · rw [ws_get ms z hz]; exact hpl z hz
      · rw [List.getD_eq_getElem?_getD, List.getElem?_eq_none (by rw [ws_len]; omega)]; rfl
    have e := plain_loop hz ms.length ms.length 0 (Nat.zero_add _)
    rw [order_eq hs hs.code hok, ws_len] at ho
    have e2 := ho.symm.trans e
    simpa using e2
  · exact err 110 (by decide) ho
  · exact err 2 (by decide) ho
end Go.Proofs.Ytkmnachdibhdhaa.Pure
