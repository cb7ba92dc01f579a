/- Layer 13 in plain terms: what the reference tells of who is pure, by rounds (of capstanref13_Pure.f, capstanref13_Stores.f). Layer 13 in plain terms: the reference's Pure and Stores are the program's (of capstanref13_Pure.f, capstanref13_Stores.f). Layer 13 in plain terms: the reference's Check and Say are the program's (of capstanref13_Check.f, capstanref13_Say.f, capstanref13_Same.f, pure_Say.f). -/
import Derived.Test.YtkmnachdibhdhaaU5
import Derived.Test.YtkmnachdibhdhaaU7
import Derived.Test.YtkmnachdibhdhaaU8
import Derived.Test.YtkmnachdibhdhaaU10
import Derived.Test.YtkmnachdibhdhaaU12
import Derived.Test.YtkmnachdibhdhaaU15
import Derived.Test.YtkmnachdibhdhaaU16
import Derived.Test.YtkmnachdibhdhaaLCallsM
import Derived.Test.YtkmnachdibhdhaaLPureA
namespace Go.Proofs.Ytkmnachdibhdhaa.M
open Go.RowKit Go.Proofs.Ytkmnachdibhdhaa.U Go.Proofs.YtkmnachdibhdhaaW.PrintWords Go.Proofs.YtkmnachdibhdhaaW.PrintLast Go.Proofs.YtkmnachdibhdhaaW.PrintMore

section S1

/-- One method's turn. -/
def rstep (whom : List (List Int)) (out : List Bool) (k : Nat) : List Bool := out.set k (tr out (k : Int) && (whom.getD k []).all (tr out))
def rround (whom : List (List Int)) : Nat → Nat → List Bool → List Bool
  | 0, _, out => out
  | m + 1, k, out => rround whom m (k + 1) (rstep whom out k)
/-- What holds all along. -/
structure RInv (whom : List (List Int)) (s : Int → Bool) (out : List Bool) : Prop where
  len : out.length = whom.length
  sound : ∀ k : Int, 0 ≤ k → k < (whom.length : Int) → tr out k = false → Bad whom s k
  st : ∀ k : Int, 0 ≤ k → k < (whom.length : Int) → s k = true → tr out k = false
def Shut (whom : List (List Int)) (out : List Bool) : Prop := ∀ k : Int, 0 ≤ k → k < (whom.length : Int) → tr out k = true → ∀ x ∈ whom.getD k.toNat [], tr out x = true
/-- Nothing becomes true. -/
def Less (n : Nat) (a b : List Bool) : Prop := ∀ k : Int, 0 ≤ k → k < (n : Int) → tr a k = true → tr b k = true
section
variable {whom : List (List Int)} {s : Int → Bool}
theorem rstep_tr {out : List Bool} (hl : out.length = whom.length) {k : Nat} (hk : k < whom.length) (j : Int) (hj : 0 ≤ j) : tr (rstep whom out k) j = if j = (k : Int) then (tr out (k : Int) && (whom.getD k []).all (tr out)) else tr out j := by
  unfold rstep
  exact tr_set (by omega) j hj
theorem rstep_inv (hw : ∀ k : Int, 0 ≤ k → k < (whom.length : Int) → ∀ x ∈ whom.getD k.toNat [], 0 ≤ x ∧ x < (whom.length : Int)) {out : List Bool} (h : RInv whom s out) {k : Nat} (hk : k < whom.length) : RInv whom s (rstep whom out k) := by
  refine ⟨by unfold rstep; rw [List.length_set]; exact h.len, fun j j0 j1 hj => ?_, fun j j0 j1 hs => ?_⟩
  · rw [rstep_tr h.len hk j j0] at hj
    by_cases e : j = (k : Int)
    · subst e
      rw [if_pos rfl] at hj
      cases ht : tr out (k : Int) with
      | false => exact h.sound _ j0 j1 ht
      | true =>
        rw [ht, Bool.true_and] at hj
        obtain ⟨x, hx, hxf⟩ := List.all_eq_false.1 hj
        have hxr := hw (k : Int) j0 j1 x (by rw [Int.toNat_natCast]; exact hx)
        exact .call j0 j1 (by rw [Int.toNat_natCast]; exact hx) (h.sound x hxr.1 hxr.2 (by simpa using hxf))
    · rw [if_neg e] at hj; exact h.sound j j0 j1 hj
  · rw [rstep_tr h.len hk j j0]
    have := h.st j j0 j1 hs
    by_cases e : j = (k : Int)
    · subst e; rw [if_pos rfl, this]; rfl
    · rw [if_neg e]; exact this
theorem rstep_less {out : List Bool} (hl : out.length = whom.length) {k : Nat} (hk : k < whom.length) : Less whom.length (rstep whom out k) out := by
  intro j j0 j1 hj
  rw [rstep_tr hl hk j j0] at hj
  by_cases e : j = (k : Int)
  · subst e; rw [if_pos rfl] at hj; exact (Bool.and_eq_true_iff.1 hj).1
  · rw [if_neg e] at hj; exact hj
theorem rround_inv (hw : ∀ k : Int, 0 ≤ k → k < (whom.length : Int) → ∀ x ∈ whom.getD k.toNat [], 0 ≤ x ∧ x < (whom.length : Int)) : ∀ m k out, m + k = whom.length → RInv whom s out → RInv whom s (rround whom m k out) ∧ Less whom.length (rround whom m k out) out := by
  intro m
  induction m with
  | zero => intro k out _ h; exact ⟨h, fun _ _ _ h => h⟩
  | succ m ih =>
    intro k out hk h
    obtain ⟨h1, h2⟩ := ih (k + 1) _ (by omega) (rstep_inv hw h (k := k) (by omega))
    exact ⟨h1, fun j j0 j1 hj => rstep_less h.len (k := k) (by omega) j j0 j1 (h2 j j0 j1 hj)⟩
theorem rstep_shut {out : List Bool} (h : Shut whom out) (_hl : out.length = whom.length) {k : Nat} (hk : k < whom.length) : rstep whom out k = out := by
  unfold rstep
  have e : (tr out (k : Int) && (whom.getD k []).all (tr out)) = tr out (k : Int) := by
    cases ht : tr out (k : Int) with
    | false => rfl
    | true =>
      rw [Bool.true_and]
      refine List.all_eq_true.2 fun x hx => h (k : Int) (by omega) (by omega) ht x (by rw [Int.toNat_natCast]; exact hx)
  rw [e]
  refine List.ext_getElem (by simp) fun i h1 h2 => ?_
  rw [List.getElem_set]
  split
  · rename_i e2; subst e2; unfold tr; simp [h2]
  · rfl
theorem rround_shut {out : List Bool} (h : Shut whom out) (hl : out.length = whom.length) : ∀ m k, m + k = whom.length → rround whom m k out = out := by
  intro m
  induction m with
  | zero => intro k _; rfl
  | succ m ih => intro k hk; rw [rround, rstep_shut h hl (k := k) (by omega)]; exact ih (k + 1) (by omega)
/-- Who is still told pure. -/
def trues (n : Nat) (out : List Bool) : List Int := ((List.range n).map fun (k : Nat) => (k : Int)).filter (tr out)
theorem mem_trues {n : Nat} {out : List Bool} {k : Int} : k ∈ trues n out ↔ (0 ≤ k ∧ k < (n : Int)) ∧ tr out k = true := by
  unfold trues
  rw [List.mem_filter, List.mem_map]
  constructor
  · rintro ⟨⟨i, hi, rfl⟩, h⟩; exact ⟨⟨by omega, by have := List.mem_range.1 hi; omega⟩, h⟩
  · rintro ⟨⟨h0, h1⟩, h⟩; exact ⟨⟨k.toNat, List.mem_range.2 (by omega), by omega⟩, h⟩
theorem trues_nodup (n : Nat) (out : List Bool) : (trues n out).Nodup := by
  unfold trues
  refine List.Pairwise.filter _ ?_
  rw [List.pairwise_map]
  exact (List.nodup_range (n := n)).imp fun h e => h (by omega)
theorem trues_len (n : Nat) (out : List Bool) : (trues n out).length ≤ n := by
  unfold trues
  refine Nat.le_trans (List.length_filter_le _ _) ?_
  simp
/-- In a round something becomes false, or all was well before. -/
theorem rround_down (hw : ∀ k : Int, 0 ≤ k → k < (whom.length : Int) → ∀ x ∈ whom.getD k.toNat [], 0 ≤ x ∧ x < (whom.length : Int)) {y x : Int} (y0 : 0 ≤ y) (y1 : y < (whom.length : Int)) (hx : x ∈ whom.getD y.toNat []) : ∀ m k out, m + k = whom.length → (k : Int) ≤ y → RInv whom s out → tr out x = false → tr (rround whom m k out) y = false := by
  have hxr := hw y y0 y1 x hx
  intro m
  induction m with
  | zero => intro k out hk hky; omega
  | succ m ih =>
    intro k out hk hky h hf
    rw [rround]
    by_cases e : y = (k : Int)
    · have hi := rstep_inv hw h (k := k) (by omega)
      have hf2 : tr (rstep whom out k) y = false := by
        rw [rstep_tr h.len (by omega) y y0, if_pos e]
        have : (whom.getD k []).all (tr out) = false := by
          refine List.all_eq_false.2 ⟨x, ?_, by rw [hf]; decide⟩
          have e2 : y.toNat = k := by omega
          rw [← e2]; exact hx
        rw [this, Bool.and_false]
      obtain ⟨_, h2⟩ := rround_inv (s := s) hw m (k + 1) _ (by omega) hi
      cases ht : tr (rround whom m (k + 1) (rstep whom out k)) y with
      | false => rfl
      | true => have := h2 y y0 y1 ht; rw [hf2] at this; cases this
    · refine ih (k + 1) _ (by omega) (by omega) (rstep_inv hw h (by omega)) ?_
      cases ht : tr (rstep whom out k) x with
      | false => rfl
      | true => have := rstep_less h.len (k := k) (by omega) x hxr.1 hxr.2 ht; rw [hf] at this; cases this
/-- Behind r rounds: all is well, or r are no longer told pure. -/
theorem round_less (hw : ∀ k : Int, 0 ≤ k → k < (whom.length : Int) → ∀ x ∈ whom.getD k.toNat [], 0 ≤ x ∧ x < (whom.length : Int)) {out : List Bool} (h : RInv whom s out) : Shut whom out ∨ (trues whom.length (rround whom whom.length 0 out)).length + 1 ≤ (trues whom.length out).length := by
  by_cases hs : Shut whom out
  · exact .inl hs
  · refine .inr ?_
    have hex : ∃ k : Int, 0 ≤ k ∧ k < (whom.length : Int) ∧ tr out k = true ∧ ∃ x ∈ whom.getD k.toNat [], tr out x = false := by
      refine Classical.byContradiction fun hno => hs fun k k0 k1 hk x hx => ?_
      cases ht : tr out x with
      | true => rfl
      | false => exact absurd ⟨k, k0, k1, hk, x, hx, ht⟩ hno
    obtain ⟨y, y0, y1, hy, x, hx, hf⟩ := hex
    obtain ⟨_, h2⟩ := rround_inv (s := s) hw whom.length 0 out (by omega) h
    have hd := rround_down (s := s) hw y0 y1 hx whom.length 0 out (by omega) (by omega) h hf
    have := nodup_sub (a := y :: trues whom.length (rround whom whom.length 0 out)) (b := trues whom.length out) (List.nodup_cons.2 ⟨fun hm => (by rw [(mem_trues.1 hm).2] at hd; cases hd), trues_nodup _ _⟩) fun z hz => by
      rcases List.mem_cons.1 hz with rfl | hz
      · exact mem_trues.2 ⟨⟨y0, y1⟩, hy⟩
      · obtain ⟨hr, ht⟩ := mem_trues.1 hz
        exact mem_trues.2 ⟨hr, h2 z hr.1 hr.2 ht⟩
    rw [List.length_cons] at this
    exact this
def rounds (whom : List (List Int)) : Nat → List Bool → List Bool
  | 0, out => out
  | t + 1, out => rounds whom t (rround whom whom.length 0 out)
theorem rounds_spec (hw : ∀ k : Int, 0 ≤ k → k < (whom.length : Int) → ∀ x ∈ whom.getD k.toNat [], 0 ≤ x ∧ x < (whom.length : Int)) : ∀ t out, RInv whom s out → (trues whom.length out).length < t ∨ Shut whom out → RInv whom s (rounds whom t out) ∧ Shut whom (rounds whom t out) := by
  intro t
  induction t with
  | zero =>
    intro out h ht
    rcases ht with ht | ht
    · omega
    · exact ⟨h, ht⟩
  | succ t ih =>
    intro out h ht
    rw [rounds]
    rcases round_less hw h with hs | hl
    · rw [rround_shut hs h.len whom.length 0 (by omega)]
      exact ih out h (.inr hs)
    · refine ih _ (rround_inv hw whom.length 0 out (by omega) h).1 ?_
      rcases ht with ht | ht
      · exact .inl (by omega)
      · rw [rround_shut ht h.len whom.length 0 (by omega)] at hl
        omega
/-- By rounds, as many as there are methods and one: those that aren't bad. -/
theorem rounds_row (hw : ∀ k : Int, 0 ≤ k → k < (whom.length : Int) → ∀ x ∈ whom.getD k.toNat [], 0 ≤ x ∧ x < (whom.length : Int)) {out : List Bool} (h : RInv whom s out) : PureRow whom s (rounds whom (whom.length + 1) out) := by
  obtain ⟨h1, h2⟩ := rounds_spec hw (whom.length + 1) out h (.inl (by have := trues_len whom.length out; omega))
  refine ⟨h1.len, fun k k0 k1 => ⟨h1.sound k k0 k1, fun hb => ?_⟩⟩
  induction hb with
  | store a0 a1 a2 => exact h1.st _ a0 a1 a2
  | call a0 a1 a2 _ ih =>
    rename_i k x _
    have hr := hw _ a0 a1 _ a2
    cases ht : tr (rounds whom (whom.length + 1) out) k with
    | false => rfl
    | true => have := h2 k a0 a1 ht x a2; rw [ih hr.1 hr.2] at this; cases this
end
/-- Two such rows are one. -/
theorem row_one {whom : List (List Int)} {s : Int → Bool} {a b : List Bool} (ha : PureRow whom s a) (hb : PureRow whom s b) : a = b := by
  refine List.ext_getElem (ha.1.trans hb.1.symm) fun i h1 h2 => ?_
  have e1 : tr a (i : Int) = a[i] := by unfold tr; simp [h1]
  have e2 : tr b (i : Int) = b[i] := by unfold tr; simp [h2]
  have h := (ha.2 (i : Int) (by omega) (by have := ha.1; omega)).trans (hb.2 (i : Int) (by omega) (by have := ha.1; omega)).symm
  rw [e1, e2] at h
  cases hx : a[i] <;> cases hy : b[i] <;> simp_all
end S1
section S2

section
variable {l0 l1 : List S86} {ms : List S52} {a3 : Int}
theorem rS_l0 (hs : Small ms) {j : Int} (h0 : 0 ≤ j) (h1 : j < (ms.length : Int)) : ∀ m i : Nat, m + i = (rd_T52 ms j).f7.length → ∀ k, m + 1 ≤ k → capstanref13_Stores.l0 k j (i : Int) l0 l1 ms a3 = some (((rd_T52 ms j).f7.drop i).any (fun i => i.f0 == 5), 0) := by
  have hc := hs.code j h0 h1
  intro m
  induction m with
  | zero =>
    intro i hi k hk
    obtain ⟨k, rfl⟩ : ∃ k', k = k' + 1 := ⟨k - 1, by omega⟩
    rw [capstanref13_Stores.l0, if_pos h0, if_pos h1, if_neg (by omega), List.drop_of_length_le (by omega)]
    rfl
  | succ m ih =>
    intro i hi k hk
    obtain ⟨k, rfl⟩ : ∃ k', k = k' + 1 := ⟨k - 1, by omega⟩
    have hlt : i < (rd_T52 ms j).f7.length := by omega
    have hw : wrap64 ((i : Int) + 1) = ((i + 1 : Nat) : Int) := by unfold wrap64; omega
    have hrd : rd_T70 (rd_T52 ms j).f7 (i : Int) = (rd_T52 ms j).f7[i] := by simp [rd_T70, hlt]
    rw [capstanref13_Stores.l0, if_pos h0, if_pos h1, if_pos (by omega), if_pos (by omega), hrd, List.drop_eq_getElem_cons hlt, List.any_cons, hw]
    by_cases e : (rd_T52 ms j).f7[i].f0 = 5
    · rw [if_pos e, e]; rfl
    · rw [if_neg e, ih (i + 1) (by omega) k (by omega), beq_false_of_ne e, Bool.false_or]
theorem rStores_f (hs : Small ms) (j : Int) (k : Nat) (hk : 100003 ≤ k) : capstanref13_Stores.f k l0 l1 ms a3 j = some (if 0 ≤ j ∧ j < (ms.length : Int) then (sto ms j, 0) else (false, 2)) := by
  obtain ⟨k, rfl⟩ : ∃ k', k = k' + 1 := ⟨k - 1, by omega⟩
  unfold capstanref13_Stores.f
  by_cases h0 : j < 0
  · rw [if_pos h0, capstanref13_Stores.j0, if_pos rfl, if_neg (by omega)]
  · by_cases h1 : j ≥ (ms.length : Int)
    · rw [if_neg h0, capstanref13_Stores.j0, decide_eq_true h1, if_pos rfl, if_neg (by omega)]
    · have hc := hs.code j (by omega) (by omega)
      rw [if_neg h0, capstanref13_Stores.j0, decide_eq_false h1, if_neg (by decide), if_pos ⟨by omega, by omega⟩]
      exact rS_l0 hs (by omega) (by omega) (rd_T52 ms j).f7.length 0 (by omega) k (by omega)
/-- One method's turn. -/
theorem rP_l3 (out : List Bool) (hl : out.length = ms.length) (hn : ms.length ≤ 40) {k : Nat} (hk : k < ms.length) (W : List Int) (hW : ∀ x ∈ W, 0 ≤ x ∧ x < (ms.length : Int)) (hWl : W.length ≤ 1000000) (t : Int) {r : List Bool × Int} (hnext : ∃ F, capstanref13_Pure.l2 F (out.set k (tr out (k : Int) && W.all (tr out))) t (wrap64 ((k : Int) + 1)) l0 l1 ms a3 = some r) :
    ∀ q p : Nat, p + q = W.length → ∃ F, capstanref13_Pure.l3 F (out.set k (tr out (k : Int) && (W.take p).all (tr out))) t (k : Int) W (p : Int) l0 l1 ms a3 = some r := by
  intro q
  induction q with
  | zero =>
    intro p hp
    obtain ⟨F, hF⟩ := hnext
    exact ⟨F + 1, by rw [capstanref13_Pure.l3, if_neg (by omega), List.take_of_length_le (by omega)]; exact hF⟩
  | succ q ih =>
    intro p hp
    obtain ⟨F, hF⟩ := ih (p + 1) (by omega)
    have hlt : p < W.length := by omega
    have hw : wrap64 ((p : Int) + 1) = ((p + 1 : Nat) : Int) := by unfold wrap64; omega
    have hrd : rd W (p : Int) = W[p] := by simp [rd, hlt]
    obtain ⟨x0, x1⟩ := hW _ (List.getElem_mem hlt)
    have hko : k < out.length := by omega
    rw [List.take_succ_eq_append_getElem hlt, List.all_append, List.all_cons, List.all_nil, Bool.and_true] at hF
    refine ⟨F + 1, ?_⟩
    rw [capstanref13_Pure.l3, if_pos (by omega), if_pos (by omega), if_pos (by rw [List.length_set]; omega), hrd, hw, Int.toNat_natCast]
    change (if tr (out.set k (tr out (k : Int) && (W.take p).all (tr out))) (k : Int) = true then _ else _) = _
    rw [tr_set hko (k : Int) (by omega), if_pos rfl]
    generalize hb : (tr out (k : Int) && (W.take p).all (tr out)) = b at *
    cases b with
    | true =>
      rw [if_pos rfl, if_pos (by omega), if_pos x0, if_pos (by rw [List.length_set]; omega), List.set_set]
      have hv : rdOf false (out.set k true) W[p] = (tr out (k : Int) && ((W.take p).all (tr out) && tr out W[p])) := by
        change tr (out.set k true) W[p] = _
        rw [tr_set hko _ x0, ← Bool.and_assoc, hb, Bool.true_and]
        by_cases e : W[p] = (k : Int)
        · rw [if_pos e, e]; exact (Bool.and_eq_true_iff.1 hb).1.symm
        · rw [if_neg e]
      rw [hv]
      exact hF
    | false =>
      rw [if_neg (by decide), List.set_set]
      rw [← Bool.and_assoc, hb, Bool.false_and] at hF
      exact hF
theorem rP_l2 (hs : Small ms) (ho : okAll ms) (t : Int) {r : List Bool × Int} : ∀ (m k : Nat) (out : List Bool), m + k = ms.length → out.length = ms.length → (∃ F, capstanref13_Pure.l1 F (rround (ws ms) m k out) (wrap64 (t + 1)) l0 l1 ms a3 = some r) → ∃ F, capstanref13_Pure.l2 F out t (k : Int) l0 l1 ms a3 = some r := by
  have hlen := hs.len
  intro m
  induction m with
  | zero =>
    intro k out hk hl ⟨F, hF⟩
    exact ⟨F + 1, by rw [capstanref13_Pure.l2, if_neg (by omega)]; exact hF⟩
  | succ m ih =>
    intro k out hk hl hF
    have hw : wrap64 ((k : Int) + 1) = ((k + 1 : Nat) : Int) := by unfold wrap64; omega
    have hget := ws_get ms k (by omega)
    have hin := ws_in ho (k : Int) (by omega) (by rw [ws_len]; omega)
    rw [Int.toNat_natCast, hget, ws_len] at hin
    have h2 := sset_len (nm ms (k : Int))
    have h3 : (nm ms (k : Int)).length ≤ (rd_T52 ms (k : Int)).f7.length := by unfold nm cl_names; rw [List.length_map]; exact List.length_filter_le _ _
    have h4 := hs.code (k : Int) (by omega) (by omega)
    have hn := ih (k + 1) (rstep (ws ms) out k) (by omega) (by unfold rstep; rw [List.length_set]; exact hl) hF
    have hr : rstep (ws ms) out k = out.set k (tr out (k : Int) && (sset (nm ms (k : Int))).all (tr out)) := by unfold rstep; rw [hget]
    rw [hr, ← hw] at hn
    obtain ⟨F1, hF1⟩ := rP_l3 (l0 := l0) (l1 := l1) (a3 := a3) out hl hlen (by omega) (sset (nm ms (k : Int))) hin (by omega) t hn _ 0 (Nat.zero_add _)
    have h00 : out.set k (tr out (k : Int) && ((sset (nm ms (k : Int))).take 0).all (tr out)) = out := by
      rw [List.take_zero, List.all_nil, Bool.and_true]
      refine List.ext_getElem (by simp) fun i h1 h2 => ?_
      rw [List.getElem_set]
      split
      · rename_i e2; subst e2; unfold tr; simp [h2]
      · rfl
    rw [h00] at hF1
    have hW := rWhom_f (l0 := l0) (l1 := l1) (a3 := a3) hs (k : Int) (F1 + 300000) (by omega)
    rw [if_pos ⟨by omega, by omega, ho k (by omega)⟩] at hW
    refine ⟨F1 + 300000 + 1, ?_⟩
    rw [capstanref13_Pure.l2, if_pos (by omega), hW, Option.bind_some]
    exact up (f := fun F => capstanref13_Pure.l3 F out t (k : Int) (sset (nm ms (k : Int))) 0 l0 l1 ms a3) (fun F => (capstanref13_Pure.mono_l F).2.2.2.2 _ _ _ _ _ _ _ _ _) hF1 _ (by omega)
theorem rP_l1 (hs : Small ms) (ho : okAll ms) : ∀ (m t : Nat) (out : List Bool), m + t = ms.length + 1 → RInv (ws ms) (sto ms) out → ∃ F, capstanref13_Pure.l1 F out (t : Int) l0 l1 ms a3 = some (rounds (ws ms) m out, 0) := by
  have hlen := hs.len
  intro m
  induction m with
  | zero =>
    intro t out ht hI
    have hl := hI.len
    rw [ws_len] at hl
    exact ⟨1, by rw [capstanref13_Pure.l1, if_neg (by omega), rounds]⟩
  | succ m ih =>
    intro t out ht hI
    have hl := hI.len
    rw [ws_len] at hl
    have hw : wrap64 ((t : Int) + 1) = ((t + 1 : Nat) : Int) := by unfold wrap64; omega
    have hI2 := (rround_inv (ws_in ho) (ws ms).length 0 out (by omega) hI).1
    have hn := ih (t + 1) _ (by omega) hI2
    rw [← hw, ws_len] at hn
    obtain ⟨F, hF⟩ := rP_l2 (l0 := l0) (l1 := l1) (a3 := a3) hs ho (t : Int) ms.length 0 out (by omega) hl hn
    refine ⟨F + 1, ?_⟩
    rw [capstanref13_Pure.l1, if_pos (by omega), rounds, ws_len]
    exact hF
theorem rP_l0 (hs : Small ms) : ∀ (m i : Nat) (out : List Bool), m + i = ms.length → out.length = ms.length → (∀ j : Nat, j < i → cl_ok ms.length (nm ms j) = true) → (∀ j : Int, 0 ≤ j → j < (i : Int) → tr out j = !sto ms j) →
    (okAll ms ∧ ∃ o, PureRow (ws ms) (sto ms) o ∧ ∃ F, capstanref13_Pure.l0 F out (i : Int) l0 l1 ms a3 = some (o, 0)) ∨ (¬ okAll ms ∧ ∃ F, capstanref13_Pure.l0 F out (i : Int) l0 l1 ms a3 = some ([], 2)) := by
  have hlen := hs.len
  intro m
  induction m with
  | zero =>
    intro i out hi hl hok hout
    have ho : okAll ms := fun j hj => hok j (by omega)
    have hwl := ws_len (ms := ms)
    have hI : RInv (ws ms) (sto ms) out := ⟨by omega, fun k k0 k1 hk => by
      rw [hout k k0 (by omega)] at hk
      exact .store k0 k1 (by simpa using hk), fun k k0 k1 hk => by rw [hout k k0 (by omega), hk]; rfl⟩
    obtain ⟨F, hF⟩ := rP_l1 (l0 := l0) (l1 := l1) (a3 := a3) hs ho (ms.length + 1) 0 out (by omega) hI
    have hrow := rounds_row (ws_in ho) hI
    rw [hwl] at hrow
    exact .inl ⟨ho, _, hrow, F + 1, by rw [capstanref13_Pure.l0, if_neg (by omega)]; exact hF⟩
  | succ m ih =>
    intro i out hi hl hok hout
    have hw : wrap64 ((i : Int) + 1) = ((i + 1 : Nat) : Int) := by unfold wrap64; omega
    by_cases hc : cl_ok ms.length (nm ms (i : Int)) = true
    · have hlo : i < out.length := by omega
      have step : ∀ (F : Nat) (r : List Bool × Int), capstanref13_Pure.l0 F (out.set i (!sto ms (i : Int))) ((i + 1 : Nat) : Int) l0 l1 ms a3 = some r → ∃ F, capstanref13_Pure.l0 F out (i : Int) l0 l1 ms a3 = some r := fun F r hF => by
        have hW := rWhom_f (l0 := l0) (l1 := l1) (a3 := a3) hs (i : Int) (F + 300000 + 1) (by omega)
        rw [if_pos ⟨by omega, by omega, hc⟩] at hW
        have hS := rStores_f (l0 := l0) (l1 := l1) (a3 := a3) hs (i : Int) (F + 300000 + 1) (by omega)
        rw [if_pos ⟨by omega, by omega⟩] at hS
        refine ⟨F + 300000 + 1 + 1, ?_⟩
        rw [capstanref13_Pure.l0, if_pos (by omega), hW, Option.bind_some]
        dsimp only
        rw [if_pos rfl, hS, Option.bind_some]
        dsimp only
        rw [capstanref13_Pure.j1, if_pos (by omega), if_pos (by omega), Int.toNat_natCast, hw]
        exact up (f := fun F => capstanref13_Pure.l0 F (out.set i (!sto ms (i : Int))) ((i + 1 : Nat) : Int) l0 l1 ms a3) (fun F => (capstanref13_Pure.mono_l F).1 _ _ _ _ _ _) hF _ (by omega)
      rcases ih (i + 1) (out.set i (!sto ms (i : Int))) (by omega) (by rw [List.length_set]; exact hl) (fun j hj => by
          by_cases e : j = i
          · subst e; exact hc
          · exact hok j (by omega)) (fun j j0 j1 => by
          rw [tr_set hlo j j0]
          by_cases e : j = (i : Int)
          · rw [if_pos e, e]
          · rw [if_neg e]; exact hout j j0 (by omega)) with ⟨ho, o, h1, F, hF⟩ | ⟨ho, F, hF⟩
      · exact .inl ⟨ho, o, h1, step F _ hF⟩
      · exact .inr ⟨ho, step F _ hF⟩
    · refine .inr ⟨fun ho => hc (ho i (by omega)), 300001, ?_⟩
      have hW := rWhom_f (l0 := l0) (l1 := l1) (a3 := a3) hs (i : Int) 300000 (by omega)
      rw [if_neg (fun h => hc h.2.2)] at hW
      rw [capstanref13_Pure.l0, if_pos (by omega), hW, Option.bind_some]
      rfl
/-- The reference's row is the program's. -/
theorem rPure_f (hs : Small ms) : ∃ (F : Nat) (p : List Bool × Int), capstanref13_Pure.f F l0 l1 ms a3 = some p ∧ pure_Pure.f F l0 l1 ms a3 = some p ∧ (okAll ms → p.2 = 0 ∧ PureRow (ws ms) (sto ms) p.1) ∧ (¬ okAll ms → p = ([], 2)) := by
  have hlen := hs.len
  have hwl := ws_len (ms := ms)
  have start : ∀ (F : Nat) (p : List Bool × Int), capstanref13_Pure.l0 F (List.replicate ms.length false) 0 l0 l1 ms a3 = some p → capstanref13_Pure.f (F + 100001) l0 l1 ms a3 = some p := fun F p hF => by
    unfold capstanref13_Pure.f
    rw [if_pos (by omega), if_pos (by omega), Int.toNat_natCast]
    exact up (f := fun F => capstanref13_Pure.l0 F (List.replicate ms.length false) 0 l0 l1 ms a3) (fun F => (capstanref13_Pure.mono_l F).1 _ _ _ _ _ _) hF _ (by omega)
  rcases rP_l0 (l0 := l0) (l1 := l1) (a3 := a3) hs ms.length 0 (List.replicate ms.length false) (by omega) (by simp) (fun j hj => absurd hj (Nat.not_lt_zero _)) (fun j j0 j1 => by omega) with ⟨ho, o, h1, F, hF⟩ | ⟨ho, F, hF⟩
  · rcases Pure_f (l0 := l0) (l1 := l1) (a3 := a3) hs (F + 100001) (by omega) with ⟨_, o2, p1, p2, p3⟩ | ⟨h, _⟩
    · have hrow : PureRow (ws ms) (sto ms) o2 := ⟨by omega, fun j j0 j1 => p3 j j0 (by omega)⟩
      obtain rfl := row_one h1 hrow
      exact ⟨F + 100001, (o, 0), start F _ hF, p1, fun _ => ⟨rfl, h1⟩, fun h => absurd ho h⟩
    · exact absurd ho h
  · rcases Pure_f (l0 := l0) (l1 := l1) (a3 := a3) hs (F + 100001) (by omega) with ⟨h, _⟩ | ⟨_, h⟩
    · exact absurd h ho
    · exact ⟨F + 100001, ([], 2), start F _ hF, h, fun h => absurd h ho, fun _ => rfl⟩
end
end S2
section S3

theorem rSame_l0 (o : List Bool) (hl : o.length ≤ 1000000) : ∀ m i : Nat, m + i = o.length → ∀ k, m + 1 ≤ k → capstanref13_Same.l0 k o o (i : Int) = some true := by
  intro m
  induction m with
  | zero =>
    intro i hi k hk
    obtain ⟨k, rfl⟩ : ∃ k', k = k' + 1 := ⟨k - 1, by omega⟩
    rw [capstanref13_Same.l0, if_neg (by omega)]
  | succ m ih =>
    intro i hi k hk
    obtain ⟨k, rfl⟩ : ∃ k', k = k' + 1 := ⟨k - 1, by omega⟩
    have hw : wrap64 ((i : Int) + 1) = ((i + 1 : Nat) : Int) := by unfold wrap64; omega
    rw [capstanref13_Same.l0, if_pos (by omega), if_pos (by omega), if_pos (by omega), if_neg (by simp), hw]
    exact ih (i + 1) (by omega) k (by omega)
theorem rSame_f (o : List Bool) (hl : o.length ≤ 1000000) (k : Nat) (hk : o.length + 1 ≤ k) : capstanref13_Same.f k o o = some true := by
  unfold capstanref13_Same.f
  rw [if_pos rfl]
  exact rSame_l0 o hl o.length 0 (by omega) k hk
section
variable {l0 l1 : List S86} {ms : List S52} {a3 : Int}
theorem rC_l2 (W : List Int) (hW : ∀ x ∈ W, 0 ≤ x ∧ x < (ms.length : Int)) (hWl : W.length ≤ 1000000) (j : Int) {r : Int} : ∀ (q p : Nat) (b : Bool), p + q = W.length → ((b || (W.drop p).any (pcLoud ms)) = true → r = 130) → ((b || (W.drop p).any (pcLoud ms)) = false → ∃ F, capstanref13_Check.l1 F (wrap64 (j + 1)) l0 l1 ms a3 = some r) →
    ∃ F, capstanref13_Check.l2 F j b W (p : Int) l0 l1 ms a3 = some r := by
  intro q
  induction q with
  | zero =>
    intro p b hp h1 h2
    rw [List.drop_of_length_le (by omega), List.any_nil, Bool.or_false] at h1 h2
    cases b with
    | true => exact ⟨1, by rw [capstanref13_Check.l2, if_neg (by omega), if_pos rfl, h1 rfl]⟩
    | false =>
      obtain ⟨F, hF⟩ := h2 rfl
      exact ⟨F + 1, by rw [capstanref13_Check.l2, if_neg (by omega), if_neg (by decide)]; exact hF⟩
  | succ q ih =>
    intro p b hp h1 h2
    have hlt : p < W.length := by omega
    have hw : wrap64 ((p : Int) + 1) = ((p + 1 : Nat) : Int) := by unfold wrap64; omega
    have hrd : rd W (p : Int) = W[p] := by simp [rd, hlt]
    obtain ⟨x0, x1⟩ := hW _ (List.getElem_mem hlt)
    rw [List.drop_eq_getElem_cons hlt, List.any_cons] at h1 h2
    cases b with
    | true =>
      obtain ⟨F, hF⟩ := ih (p + 1) true (by omega) (fun _ => h1 (by rw [Bool.true_or])) (fun h => by rw [Bool.true_or] at h; cases h)
      exact ⟨F + 1, by rw [capstanref13_Check.l2, if_pos (by omega), if_pos rfl, hw]; exact hF⟩
    | false =>
      obtain ⟨F, hF⟩ := ih (p + 1) (pcLoud ms W[p]) (by omega) (fun h => h1 (by rw [Bool.false_or]; exact h)) (fun h => h2 (by rw [Bool.false_or]; exact h))
      exact ⟨F + 1, by rw [capstanref13_Check.l2, if_pos (by omega), if_neg (by decide), if_pos (by omega), hrd, if_pos x0, if_pos x1, hw]; exact hF⟩
theorem rC_l1 (hs : Small ms) (ho : okAll ms) : ∀ (m i : Nat), m + i = ms.length → (∀ j : Int, 0 ≤ j → j < (i : Int) → WellAt ms j) → ∃ r F, capstanref13_Check.l1 F (i : Int) l0 l1 ms a3 = some r ∧ (Well ms → r = 0) ∧ (¬ Well ms → r = 130) := by
  have hlen := hs.len
  intro m
  induction m with
  | zero =>
    intro i hi h
    exact ⟨0, 1, by rw [capstanref13_Check.l1, if_neg (by omega)], fun _ => rfl, fun hn => absurd (fun j j0 j1 => h j j0 (by omega)) hn⟩
  | succ m ih =>
    intro i hi h
    have hw : wrap64 ((i : Int) + 1) = ((i + 1 : Nat) : Int) := by unfold wrap64; omega
    have next : WellAt ms (i : Int) → ∃ r F, capstanref13_Check.l1 F ((i + 1 : Nat) : Int) l0 l1 ms a3 = some r ∧ (Well ms → r = 0) ∧ (¬ Well ms → r = 130) := fun hi2 => ih (i + 1) (by omega) fun j j0 j1 => by
      by_cases e : j = (i : Int)
      · rw [e]; exact hi2
      · exact h j j0 (by omega)
    by_cases hr : (rd_T52 ms (i : Int)).f3 = true
    · have hin := ws_in ho (i : Int) (by omega) (by rw [ws_len]; omega)
      rw [Int.toNat_natCast, ws_get ms i (by omega), ws_len] at hin
      have hget : (ws ms).getD (i : Int).toNat [] = sset (nm ms (i : Int)) := by rw [Int.toNat_natCast, ws_get ms i (by omega)]
      have h2 := sset_len (nm ms (i : Int))
      have h3 : (nm ms (i : Int)).length ≤ (rd_T52 ms (i : Int)).f7.length := by unfold nm cl_names; rw [List.length_map]; exact List.length_filter_le _ _
      have h4 := hs.code (i : Int) (by omega) (by omega)
      have fin : ∀ r, (∃ F, capstanref13_Check.l2 F (i : Int) (sto ms (i : Int)) (sset (nm ms (i : Int))) ((0 : Nat) : Int) l0 l1 ms a3 = some r) → ∃ F, capstanref13_Check.l1 F (i : Int) l0 l1 ms a3 = some r := fun r ⟨F, hF⟩ => by
        have hW := rWhom_f (l0 := l0) (l1 := l1) (a3 := a3) hs (i : Int) (F + 300000) (by omega)
        rw [if_pos ⟨by omega, by omega, ho i (by omega)⟩] at hW
        have hS := rStores_f (l0 := l0) (l1 := l1) (a3 := a3) hs (i : Int) (F + 300000 + 1) (by omega)
        rw [if_pos ⟨by omega, by omega⟩] at hS
        refine ⟨F + 300000 + 1 + 1, ?_⟩
        rw [capstanref13_Check.l1, if_pos (by omega), if_pos (by omega), if_pos hr, hS, Option.bind_some]
        dsimp only
        rw [capstanref13_Check.j2, hW, Option.bind_some]
        exact up (f := fun F => capstanref13_Check.l2 F (i : Int) (sto ms (i : Int)) (sset (nm ms (i : Int))) 0 l0 l1 ms a3) (fun F => (capstanref13_Check.mono_l F).2.2.2 _ _ _ _ _ _ _ _) hF _ (by omega)
      cases hb : (sto ms (i : Int) || (sset (nm ms (i : Int))).any (pcLoud ms)) with
      | true =>
        obtain ⟨F, hF⟩ := fin 130 (rC_l2 _ hin (by omega) (i : Int) _ 0 _ (Nat.zero_add _) (fun _ => rfl) (fun h => by rw [List.drop_zero, hb] at h; cases h))
        refine ⟨130, F, hF, fun hW => ?_, fun _ => rfl⟩
        have hwa := hW (i : Int) (by omega) (by omega) hr
        rw [hget] at hwa
        rw [hwa.1, Bool.false_or] at hb
        obtain ⟨x, hx, hl⟩ := List.any_eq_true.1 hb
        have h1 := hwa.2 x hx
        have h2 : (!reads ms x) = true := hl
        rw [h1] at h2; cases h2
      | false =>
        obtain ⟨hb1, hb2⟩ := Bool.or_eq_false_iff.1 hb
        obtain ⟨r, F, hF, hr1⟩ := next fun _ => ⟨hb1, fun x hx => by
          rw [hget] at hx
          have h1 := List.any_eq_false.1 hb2 x hx
          have h2 : ¬ (!reads ms x) = true := h1
          simpa using h2⟩
        rw [← hw] at hF
        obtain ⟨F2, hF2⟩ := fin r (rC_l2 _ hin (by omega) (i : Int) _ 0 _ (Nat.zero_add _) (fun h => by rw [List.drop_zero, hb] at h; cases h) (fun _ => ⟨F, hF⟩))
        exact ⟨r, F2, hF2, hr1⟩
    · obtain ⟨r, F, hF, hr1⟩ := next fun h2 => absurd h2 hr
      exact ⟨r, F + 1, by rw [capstanref13_Check.l1, if_pos (by omega), if_pos (by omega), if_neg hr, hw]; exact hF, hr1⟩
theorem rC_l0 (hs : Small ms) : ∀ (m i : Nat), m + i = ms.length → (∀ j : Nat, j < i → cl_ok ms.length (nm ms j) = true) → ∃ r F, capstanref13_Check.l0 F (i : Int) l0 l1 ms a3 = some r ∧ (okAll ms → Well ms → r = 0) ∧ (okAll ms → ¬ Well ms → r = 130) ∧ (¬ okAll ms → r = 2) := by
  have hlen := hs.len
  intro m
  induction m with
  | zero =>
    intro i hi h
    have ho : okAll ms := fun j hj => h j (by omega)
    obtain ⟨r, F, hF, h1, h2⟩ := rC_l1 (l0 := l0) (l1 := l1) (a3 := a3) hs ho ms.length 0 (by omega) (fun j j0 j1 => by omega)
    exact ⟨r, F + 1, by rw [capstanref13_Check.l0, if_neg (by omega)]; exact hF, fun _ => h1, fun _ => h2, fun hn => absurd ho hn⟩
  | succ m ih =>
    intro i hi h
    have hw : wrap64 ((i : Int) + 1) = ((i + 1 : Nat) : Int) := by unfold wrap64; omega
    by_cases hc : cl_ok ms.length (nm ms (i : Int)) = true
    · obtain ⟨r, F, hF, hr⟩ := ih (i + 1) (by omega) fun j hj => by
        by_cases e : j = i
        · subst e; exact hc
        · exact h j (by omega)
      have hW := rWhom_f (l0 := l0) (l1 := l1) (a3 := a3) hs (i : Int) (F + 300000) (by omega)
      rw [if_pos ⟨by omega, by omega, hc⟩] at hW
      refine ⟨r, F + 300000 + 1, ?_, hr⟩
      rw [capstanref13_Check.l0, if_pos (by omega), hW, Option.bind_some]
      dsimp only
      rw [if_pos rfl, hw]
      exact up (f := fun F => capstanref13_Check.l0 F ((i + 1 : Nat) : Int) l0 l1 ms a3) (fun F => (capstanref13_Check.mono_l F).1 _ _ _ _ _) hF _ (by omega)
    · have hno : ¬ okAll ms := fun ho => hc (ho i (by omega))
      have hW := rWhom_f (l0 := l0) (l1 := l1) (a3 := a3) hs (i : Int) 300000 (by omega)
      rw [if_neg (fun h => hc h.2.2)] at hW
      refine ⟨2, 300001, ?_, fun ho => absurd ho hno, fun ho => absurd ho hno, fun _ => rfl⟩
      rw [capstanref13_Check.l0, if_pos (by omega), hW, Option.bind_some]
      rfl
/-- The reference's Check is the program's. -/
theorem rCheck_f (hs : Small ms) : ∃ (F : Nat) (r : Int), capstanref13_Check.f F l0 l1 ms a3 = some r ∧ pure_Check.f F l0 l1 ms a3 = some r := by
  obtain ⟨r, F, hF, h1, h2, h3⟩ := rC_l0 (l0 := l0) (l1 := l1) (a3 := a3) hs ms.length 0 (by omega) (fun j hj => absurd hj (Nat.not_lt_zero _))
  refine ⟨F + 100001, r, up (f := fun F => capstanref13_Check.l0 F 0 l0 l1 ms a3) (fun F => (capstanref13_Check.mono_l F).1 _ _ _ _ _) hF _ (by omega), ?_⟩
  rcases Check_f (l0 := l0) (l1 := l1) (a3 := a3) hs (F + 100001) (by omega) with ⟨ho, hW, h⟩ | ⟨ho, hW, h⟩ | ⟨ho, h⟩
  · rw [h, h1 ho hW]
  · rw [h, h2 ho hW]
  · rw [h, h3 ho]
end
end S3
end Go.Proofs.Ytkmnachdibhdhaa.M
