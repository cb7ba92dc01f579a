/- Layer 11 in plain terms: the reference's Whom (of capstanref11_has.f, capstanref11_calls.f, capstanref11_Whom.f). -/
import Derived.Test.YtkmnachdibhdhaaP7
import Derived.Test.YtkmnachdibhdhaaP8
import Derived.Test.YtkmnachdibhdhaaP9
import Derived.Test.YtkmnachdibhdhaaP10
import Derived.Test.YtkmnachdibhdhaaP13
import Derived.Test.YtkmnachdibhdhaaLCalls2
namespace Go.Proofs.Ytkmnachdibhdhaa.M
open Go.RowKit Go.Proofs.Ytkmnachdibhdhaa.P Go.Proofs.YtkmnachdibhdhaaW.PrintWords Go.Proofs.YtkmnachdibhdhaaW.PrintLast Go.Proofs.YtkmnachdibhdhaaW.PrintMore

theorem has_l0 (l : List Int) (x : Int) (hl : l.length ≤ 1000000) : ∀ q i : Nat, i + q = l.length → capstanref11_has.l0 (q + 1) l x (i : Int) = some ((l.drop i).contains x) := by
  intro q
  induction q with
  | zero =>
    intro i hi
    rw [capstanref11_has.l0, if_neg (by omega), List.drop_eq_nil_of_le (by omega)]
    rfl
  | succ q ih =>
    intro i hi
    have hil : i < l.length := by omega
    have hw : wrap64 ((i : Int) + 1) = ((i + 1 : Nat) : Int) := by unfold wrap64; omega
    have hrd : rd l (i : Int) = l[i] := by simp [rd, hil]
    rw [capstanref11_has.l0, if_pos (by omega), if_pos (by omega), hrd, List.drop_eq_getElem_cons hil, List.contains_cons]
    by_cases h : l[i] = x
    · rw [if_pos h, h]; simp
    · rw [if_neg h, hw, ih (i + 1) (by omega), show (x == l[i]) = false from by simpa using Ne.symm h, Bool.false_or]
theorem has_f (l : List Int) (x : Int) (hl : l.length ≤ 1000000) (k : Nat) (hk : l.length < k) : capstanref11_has.f k l x = some (l.contains x) :=
  up (f := fun k => capstanref11_has.f k l x) (fun k => capstanref11_has.mono _ _ k) (k0 := l.length + 1) (has_l0 l x hl l.length 0 (by omega)) k (by omega)
theorem names_drop (c : List S70) (i : Nat) (h : i < c.length) : cl_names (c.drop i) = (if (rd_T70 c (i : Int)).f0 = 30 then [(rd_T70 c (i : Int)).f1] else []) ++ cl_names (c.drop (i + 1)) := by
  have hr : rd_T70 c (i : Int) = c[i] := by simp [rd_T70, h]
  rw [hr, List.drop_eq_getElem_cons h]
  unfold cl_names
  rw [List.filter_cons]
  by_cases e : c[i].f0 = 30
  · simp [e]
  · simp [e]
theorem rcalls_l0 (b1 b2 : List Int) (b3 : Int) (b4 : Bool) (b5 b6 b7 : Int) (c : List S70) (x : Int) (hl : c.length ≤ 1000000) : ∀ q i : Nat, i + q = c.length → capstanref11_calls.l0 (q + 1) x (i : Int) b1 b2 b3 b4 b5 b6 b7 c = some ((cl_names (c.drop i)).contains x) := by
  intro q
  induction q with
  | zero =>
    intro i hi
    rw [capstanref11_calls.l0, if_neg (by omega), List.drop_eq_nil_of_le (by omega)]
    rfl
  | succ q ih =>
    intro i hi
    have hil : i < c.length := by omega
    have hw : wrap64 ((i : Int) + 1) = ((i + 1 : Nat) : Int) := by unfold wrap64; omega
    rw [capstanref11_calls.l0, if_pos (by omega), if_pos (by omega), names_drop c i hil, hw, ih (i + 1) (by omega)]
    by_cases h : (rd_T70 c (i : Int)).f0 = 30
    · rw [if_pos h, if_pos h]
      by_cases h2 : (rd_T70 c (i : Int)).f1 = x
      · rw [if_pos h2, h2]; simp
      · rw [if_neg h2, List.singleton_append, List.contains_cons, show (x == (rd_T70 c (i : Int)).f1) = false from by simpa using Ne.symm h2, Bool.false_or]
    · rw [if_neg h, if_neg h, List.nil_append]
theorem rcalls_f (b1 b2 : List Int) (b3 : Int) (b4 : Bool) (b5 b6 b7 : Int) (c : List S70) (x : Int) (hl : c.length ≤ 1000000) (k : Nat) (hk : c.length < k) : capstanref11_calls.f k b1 b2 b3 b4 b5 b6 b7 c x = some ((cl_names c).contains x) :=
  up (f := fun k => capstanref11_calls.f k b1 b2 b3 b4 b5 b6 b7 c x) (fun k => capstanref11_calls.mono _ _ _ _ _ _ _ _ _ k) (k0 := c.length + 1) (rcalls_l0 b1 b2 b3 b4 b5 b6 b7 c x hl c.length 0 (by omega)) k (by omega)
section
variable {l0 l1 : List S86} {ms : List S52} {a3 : Int}
/-- The numbers below a bound that are so. -/
def below (n : Nat) (p : Int → Bool) : List Int := ((List.range n).map fun (j : Nat) => (j : Int)).filter p
theorem below_succ (n : Nat) (p : Int → Bool) : below (n + 1) p = below n p ++ (if p (n : Int) = true then [(n : Int)] else []) := by
  unfold below
  rw [List.range_succ, List.map_append, List.filter_append]
  by_cases h : p (n : Int) = true
  · simp [h]
  · simp [h]
theorem below_rise (n : Nat) (p : Int → Bool) : (below n p).Pairwise fun a b => a < b := by
  unfold below
  refine List.Pairwise.filter _ ?_
  rw [List.pairwise_map]
  exact List.pairwise_lt_range.imp fun h => by omega
theorem mem_below {n : Nat} {p : Int → Bool} {x : Int} : x ∈ below n p ↔ (0 ≤ x ∧ x < (n : Int)) ∧ p x = true := by
  unfold below
  rw [List.mem_filter, List.mem_map]
  constructor
  · rintro ⟨⟨k, hk, rfl⟩, h⟩
    rw [List.mem_range] at hk
    exact ⟨by omega, h⟩
  · rintro ⟨h, h2⟩
    exact ⟨⟨x.toNat, by rw [List.mem_range]; omega, by omega⟩, h2⟩
theorem below_len (n : Nat) (p : Int → Bool) : (below n p).length ≤ n := by
  unfold below
  have := List.length_filter_le p ((List.range n).map fun (j : Nat) => (j : Int))
  rw [List.length_map, List.length_range] at this
  exact this
section
variable (b1 b2 : List Int) (b3 : Int) (b4 : Bool) (b5 b6 b7 : Int) (c : List S70) (hc : c.length ≤ 1000000)
include hc
theorem rW_l1 (hn : ms.length ≤ 40) : ∀ q i : Nat, i + q = ms.length → ∀ k, c.length + 2 + q ≤ k →
    capstanref11_Whom.l1 k (below i fun x => (cl_names c).contains x) (i : Int) l0 l1 ms a3 b1 b2 b3 b4 b5 b6 b7 c = some (below ms.length fun x => (cl_names c).contains x, 0) := by
  intro q
  induction q with
  | zero =>
    intro i hi k hk
    obtain ⟨k, rfl⟩ : ∃ k', k = k' + 1 := ⟨k - 1, by omega⟩
    obtain rfl : i = ms.length := by omega
    rw [capstanref11_Whom.l1, if_neg (by omega)]
  | succ q ih =>
    intro i hi k hk
    obtain ⟨k, rfl⟩ : ∃ k', k = k' + 1 := ⟨k - 1, by omega⟩
    have hw : wrap64 ((i : Int) + 1) = ((i + 1 : Nat) : Int) := by unfold wrap64; omega
    have hb := below_len i fun x => (cl_names c).contains x
    have h2 := ih (i + 1) (by omega) k (by omega)
    rw [below_succ] at h2
    rw [capstanref11_Whom.l1, if_pos (by omega), rcalls_f _ _ _ _ _ _ _ c _ hc k (by omega), Option.bind_some, hw]
    by_cases h : (cl_names c).contains (i : Int) = true
    · rw [if_pos h] at h2 ⊢
      rw [if_pos (by omega)]
      exact h2
    · rw [if_neg h] at h2 ⊢
      rw [List.append_nil] at h2
      exact h2
theorem rW_l0 (hn : ms.length ≤ 40) : ∀ q i : Nat, i + q = c.length → ∀ k, c.length + 3 + ms.length + q ≤ k →
    capstanref11_Whom.l0 k (i : Int) l0 l1 ms a3 b1 b2 b3 b4 b5 b6 b7 c = some (if cl_ok ms.length (cl_names (c.drop i)) = true then (below ms.length fun x => (cl_names c).contains x, 0) else ([], 2)) := by
  intro q
  induction q with
  | zero =>
    intro i hi k hk
    obtain ⟨k, rfl⟩ : ∃ k', k = k' + 1 := ⟨k - 1, by omega⟩
    rw [capstanref11_Whom.l0, if_neg (by omega), List.drop_eq_nil_of_le (by omega), if_pos (by rfl)]
    exact rW_l1 b1 b2 b3 b4 b5 b6 b7 c hc hn ms.length 0 (by omega) k (by omega)
  | succ q ih =>
    intro i hi k hk
    obtain ⟨k, rfl⟩ : ∃ k', k = k' + 1 := ⟨k - 1, by omega⟩
    have hil : i < c.length := by omega
    have hw : wrap64 ((i : Int) + 1) = ((i + 1 : Nat) : Int) := by unfold wrap64; omega
    rw [capstanref11_Whom.l0, if_pos (by omega), if_pos (by omega), names_drop c i hil, hw, ih (i + 1) (by omega) k (by omega)]
    by_cases h : (rd_T70 c (i : Int)).f0 = 30
    · rw [if_pos h, if_pos h]
      by_cases h2 : (rd_T70 c (i : Int)).f1 < 0
      · rw [if_pos h2, if_neg fun hh => by have := cl_ok_mem.1 hh _ (List.mem_append_left _ (List.mem_singleton_self _)); omega]
      · rw [if_neg h2]
        by_cases h3 : (rd_T70 c (i : Int)).f1 ≥ (ms.length : Int)
        · rw [if_pos h3, if_neg fun hh => by have := cl_ok_mem.1 hh _ (List.mem_append_left _ (List.mem_singleton_self _)); omega]
        · rw [if_neg h3]
          have e : cl_ok ms.length ([(rd_T70 c (i : Int)).f1] ++ cl_names (c.drop (i + 1))) = cl_ok ms.length (cl_names (c.drop (i + 1))) := by
            rw [Bool.eq_iff_iff, cl_ok_mem, cl_ok_mem]
            refine ⟨fun hh x hx => hh x (List.mem_append_right _ hx), fun hh x hx => ?_⟩
            rcases List.mem_append.1 hx with hx | hx
            · rw [List.mem_singleton.1 hx]; omega
            · exact hh x hx
          rw [e]
    · rw [if_neg h, if_neg h, List.nil_append]
end
theorem rWhom_f (hs : Small ms) (x : Int) (k : Nat) (hk : 300000 ≤ k) : capstanref11_Whom.f k l0 l1 ms a3 x = some (if 0 ≤ x ∧ x < (ms.length : Int) ∧ cl_ok ms.length (nm ms x) = true then (sset (nm ms x), 0) else ([], 2)) := by
  obtain ⟨k, rfl⟩ : ∃ k', k = k' + 1 := ⟨k - 1, by omega⟩
  have hlen := hs.len
  unfold capstanref11_Whom.f
  by_cases h0 : x < 0
  · rw [if_pos h0, capstanref11_Whom.j0, if_pos rfl, if_neg fun h => absurd h.1 (by omega)]
  · rw [if_neg h0, capstanref11_Whom.j0]
    by_cases h1 : x ≥ (ms.length : Int)
    · rw [decide_eq_true h1, if_pos rfl, if_neg fun h => absurd h.2.1 (by omega)]
    · rw [decide_eq_false h1, if_neg (by decide), if_pos (by omega), if_pos (by omega)]
      have hc := hs.code x (by omega) (by omega)
      have h2 := rW_l0 (l0 := l0) (l1 := l1) (ms := ms) (a3 := a3) (rd_T52 ms x).f0 (rd_T52 ms x).f1 (rd_T52 ms x).f2 (rd_T52 ms x).f3 (rd_T52 ms x).f4 (rd_T52 ms x).f5 (rd_T52 ms x).f6 (rd_T52 ms x).f7 (by omega) hlen _ 0 (Nat.zero_add _) k (by omega)
      rw [List.drop_zero] at h2
      refine h2.trans ?_
      show some (if cl_ok ms.length (nm ms x) = true then _ else _) = _
      by_cases hk : cl_ok ms.length (nm ms x) = true
      · rw [if_pos hk, if_pos ⟨by omega, by omega, hk⟩]
        have : (below ms.length fun x_1 => (cl_names (rd_T52 ms x).f7).contains x_1) = sset (nm ms x) := rise_ext (below_rise _ _) (sset_sorted _) fun y => by
          rw [mem_below, mem_sset, List.contains_iff_mem]
          exact ⟨fun h => h.2, fun h => ⟨cl_ok_mem.1 hk y h, h⟩⟩
        rw [this]
      · rw [if_neg hk, if_neg fun h => hk h.2.2]
theorem rO_l0 (hs : Small ms) : ∀ q i : Nat, i + q = ms.length → (∀ j : Nat, j < i → cl_ok ms.length (nm ms j) = true) → ∀ k, 300001 + q ≤ k →
    (okAll ms ∧ ∃ k', k ≤ k' + q + 1 ∧ capstanref11_Order.l0 k (i : Int) l0 l1 ms a3 = capstanref11_Order.l1 k' [] l0 l1 ms a3) ∨ (¬ okAll ms ∧ capstanref11_Order.l0 k (i : Int) l0 l1 ms a3 = some ([], 2)) := by
  have hlen := hs.len
  intro q
  induction q with
  | zero =>
    intro i hi h k hk
    obtain ⟨k, rfl⟩ : ∃ k', k = k' + 1 := ⟨k - 1, by omega⟩
    obtain rfl : i = ms.length := by omega
    rw [capstanref11_Order.l0, if_neg (by omega)]
    exact .inl ⟨h, k, by omega, rfl⟩
  | succ q ih =>
    intro i hi h k hk
    obtain ⟨k, rfl⟩ : ∃ k', k = k' + 1 := ⟨k - 1, by omega⟩
    have hw : wrap64 ((i : Int) + 1) = ((i + 1 : Nat) : Int) := by unfold wrap64; omega
    have hW := rWhom_f (l0 := l0) (l1 := l1) (a3 := a3) hs (i : Int) k (by omega)
    by_cases hc : cl_ok ms.length (nm ms i) = true
    · rw [if_pos ⟨by omega, by omega, hc⟩] at hW
      rw [capstanref11_Order.l0, if_pos (by omega), hW, Option.bind_some, hw]
      dsimp only
      rw [if_pos rfl]
      rcases ih (i + 1) (by omega) (fun j hj => by
        by_cases e : j = i
        · subst e; exact hc
        · exact h j (by omega)) k (by omega) with ⟨h1, k', h2, h3⟩ | h1
      · exact .inl ⟨h1, k', by omega, h3⟩
      · exact .inr h1
    · rw [if_neg fun h2 => hc h2.2.2] at hW
      rw [capstanref11_Order.l0, if_pos (by omega), hW, Option.bind_some]
      exact .inr ⟨fun ho => hc (ho i (by omega)), rfl⟩
theorem rO_l3 (out W : List Int) (hout : out.length ≤ 1000000) (hW : W.length ≤ 1000000) (n9 z : Int) : ∀ q p : Nat, p + q = W.length → ∀ (b : Bool) (k : Nat), out.length + 2 + q ≤ k →
    ∃ k', k ≤ k' + q + 1 ∧ capstanref11_Order.l3 k out n9 z W b (p : Int) l0 l1 ms a3 = capstanref11_Order.l2 k' out (if (b && (W.drop p).all fun x => out.contains x) = true then z else n9) (wrap64 (z + 1)) l0 l1 ms a3 := by
  intro q
  induction q with
  | zero =>
    intro p hp b k hk
    obtain ⟨k, rfl⟩ : ∃ k', k = k' + 1 := ⟨k - 1, by omega⟩
    rw [capstanref11_Order.l3, if_neg (by omega), List.drop_eq_nil_of_le (by omega)]
    refine ⟨k, by omega, ?_⟩
    cases b <;> rfl
  | succ q ih =>
    intro p hp b k hk
    obtain ⟨k, rfl⟩ : ∃ k', k = k' + 1 := ⟨k - 1, by omega⟩
    have hpl : p < W.length := by omega
    have hw : wrap64 ((p : Int) + 1) = ((p + 1 : Nat) : Int) := by unfold wrap64; omega
    have hr : rd W (p : Int) = W[p] := by simp [rd, hpl]
    rw [capstanref11_Order.l3, if_pos (by omega), hw, hr, List.drop_eq_getElem_cons hpl, List.all_cons]
    cases b with
    | true =>
      rw [if_pos rfl, if_pos (by omega), has_f out _ hout k (by omega), Option.bind_some]
      obtain ⟨k', h1, h2⟩ := ih (p + 1) (by omega) (out.contains W[p]) k (by omega)
      exact ⟨k', by omega, by rw [h2, Bool.true_and]⟩
    | false =>
      rw [if_neg (by decide)]
      obtain ⟨k', h1, h2⟩ := ih (p + 1) (by omega) false k (by omega)
      exact ⟨k', by omega, by rw [h2]; rfl⟩
theorem nm_len (hs : Small ms) {z : Int} (h0 : 0 ≤ z) (h1 : z < (ms.length : Int)) : (sset (nm ms z)).length ≤ 100000 := by
  have h2 := sset_len (nm ms z)
  have h3 : (nm ms z).length ≤ (rd_T52 ms z).f7.length := by unfold nm cl_names; rw [List.length_map]; exact List.length_filter_le _ _
  have h4 := hs.code z h0 h1
  omega
theorem rO_l2 (hs : Small ms) (ho : okAll ms) (out : List Int) (hn : out.Nodup) (hout : out.length ≤ 40) (K : Nat) (hK : 400000 ≤ K) : ∀ q i : Nat, i + q = ms.length → ∀ k, 100100 * q + K + 10 ≤ k →
    ((((List.range' i q).map fun (j : Nat) => (j : Int)).find? fun z => !out.contains z && odCnt (ws ms) out z == 0) = none ∧ capstanref11_Order.l2 k out (-1) (i : Int) l0 l1 ms a3 = some ([], 110)) ∨
    ∃ z k', (((List.range' i q).map fun (j : Nat) => (j : Int)).find? fun z => !out.contains z && odCnt (ws ms) out z == 0) = some z ∧ K ≤ k' ∧ capstanref11_Order.l2 k out (-1) (i : Int) l0 l1 ms a3 = capstanref11_Order.l1 k' (out ++ [z]) l0 l1 ms a3 := by
  have hlen := hs.len
  intro q
  induction q with
  | zero =>
    intro i hi k hk
    obtain ⟨k, rfl⟩ : ∃ k', k = k' + 2 := ⟨k - 2, by omega⟩
    rw [capstanref11_Order.l2, if_neg (by omega), capstanref11_Order.j3, if_neg (by decide), if_pos (by decide)]
    exact .inl ⟨rfl, rfl⟩
  | succ q ih =>
    intro i hi k hk
    obtain ⟨k, rfl⟩ : ∃ k', k = k' + 3 := ⟨k - 3, by omega⟩
    have hw : wrap64 ((i : Int) + 1) = ((i + 1 : Nat) : Int) := by unfold wrap64; omega
    have hi1 : (i : Int) < (ms.length : Int) := by omega
    have hc := ho i (by omega)
    have hl := nm_len hs (Int.natCast_nonneg i) hi1
    rw [capstanref11_Order.l2, if_pos hi1, capstanref11_Order.j3, if_pos (by decide), rWhom_f hs (i : Int) (k + 1) (by omega), Option.bind_some, has_f out (i : Int) (by omega) (k + 1) (by omega), Option.bind_some, if_pos ⟨by omega, hi1, hc⟩]
    dsimp only
    rw [capstanref11_Order.j4]
    obtain ⟨k1, h1, h2⟩ := rO_l3 (l0 := l0) (l1 := l1) (ms := ms) (a3 := a3) out (sset (nm ms i)) (by omega) (by omega) (-1) (i : Int) _ 0 (Nat.zero_add _) (!out.contains (i : Int)) k (by omega)
    rw [List.drop_zero, hw] at h2
    have hz : ((sset (nm ms i)).all fun x => out.contains x) = (odCnt (ws ms) out (i : Int) == 0) := by
      rw [Bool.eq_iff_iff, beq_iff_eq, cnt_zero (ws_ok ho) hn (by rw [ws_len]; omega), List.all_eq_true, Int.toNat_natCast, ws_get ms i (by omega)]
      exact ⟨fun h x hx => List.contains_iff_mem.1 (h x hx), fun h x hx => List.contains_iff_mem.2 (h x hx)⟩
    rw [hz] at h2
    rw [List.range'_succ, List.map_cons, List.find?_cons]
    by_cases hb : (!out.contains (i : Int) && odCnt (ws ms) out (i : Int) == 0) = true
    · rw [if_pos hb] at h2
      rw [hb]
      obtain ⟨k1, rfl⟩ : ∃ k', k1 = k' + 2 := ⟨k1 - 2, by omega⟩
      refine .inr ⟨(i : Int), k1, rfl, by omega, h2.trans ?_⟩
      rw [capstanref11_Order.l2]
      have hj : capstanref11_Order.j3 (k1 + 1) out (i : Int) ((i + 1 : Nat) : Int) false l0 l1 ms a3 = capstanref11_Order.l1 k1 (out ++ [(i : Int)]) l0 l1 ms a3 := by
        rw [capstanref11_Order.j3, if_neg (by decide), if_neg (by omega), if_pos (by omega)]
      rw [decide_eq_false (show ¬ (i : Int) < 0 by omega), hj]
      exact ite_self _
    · rw [if_neg hb] at h2
      rw [Bool.eq_false_iff.2 hb]
      rcases ih (i + 1) (by omega) k1 (by omega) with ⟨h3, h4⟩ | ⟨z, k', h3, h4, h5⟩
      · exact .inl ⟨h3, h2.trans h4⟩
      · exact .inr ⟨z, k', h3, h4, h2.trans h5⟩
theorem keys_nil {out : List Int} (h : OrdInv (ws ms) out) : odKeys ms.length out = [] ↔ ¬ (out.length : Int) < (ms.length : Int) := by
  have hr : ((List.range ms.length).map fun (j : Nat) => (j : Int)).Nodup := (List.pairwise_map.2 (List.pairwise_lt_range.imp fun h => by omega))
  have hsub : ∀ x ∈ out, x ∈ (List.range ms.length).map fun (j : Nat) => (j : Int) := fun x hx => by
    have := h.range x hx
    rw [ws_len] at this
    exact List.mem_map.2 ⟨x.toNat, by rw [List.mem_range]; omega, by omega⟩
  constructor
  · intro hk hlt
    have h2 := nodup_sub (b := out) hr fun x hx => by
      obtain ⟨j, hj, rfl⟩ := List.mem_map.1 hx
      rw [List.mem_range] at hj
      refine Classical.byContradiction fun hno => ?_
      have : (j : Int) ∈ odKeys ms.length out := odKeys_mem.2 ⟨by omega, hno⟩
      rw [hk] at this
      cases this
    rw [List.length_map, List.length_range] at h2
    omega
  · intro hlt
    refine List.eq_nil_iff_forall_not_mem.2 fun x hx => ?_
    obtain ⟨h1, h2⟩ := odKeys_mem.1 hx
    exact h2 (nodup_back h.nodup hsub (by rw [List.length_map, List.length_range]; omega) x (List.mem_map.2 ⟨x.toNat, by rw [List.mem_range]; omega, by omega⟩))
theorem ord_len {out : List Int} (h : OrdInv (ws ms) out) : out.length ≤ ms.length := by
  have h2 := nodup_sub (b := (List.range ms.length).map fun (j : Nat) => (j : Int)) h.nodup fun x hx => by
    have := h.range x hx
    rw [ws_len] at this
    exact List.mem_map.2 ⟨x.toNat, by rw [List.mem_range]; omega, by omega⟩
  rw [List.length_map, List.length_range] at h2
  exact h2
def fO : Nat → Nat
  | 0 => 400000
  | d + 1 => fO d + 5000000
theorem fO_ge (d : Nat) : 400000 ≤ fO d := by
  induction d with
  | zero => exact Nat.le_refl _
  | succ d ih => rw [fO]; omega
theorem fO_le : fO 41 ≤ 299999900 := by decide
theorem fO_up {a b : Nat} (h : a ≤ b) : fO a ≤ fO b := by
  induction b with
  | zero => rw [Nat.le_zero.1 h]; exact Nat.le_refl _
  | succ b ih =>
    by_cases e : a = b + 1
    · rw [e]; exact Nat.le_refl _
    · rw [fO]; have := ih (by omega); omega
theorem rO_l1 (hs : Small ms) (ho : okAll ms) : ∀ d out, OrdInv (ws ms) out → ms.length < out.length + d → ∀ k, fO d ≤ k → capstanref11_Order.l1 k out l0 l1 ms a3 = odLoop (ws ms) ms.length d out := by
  have hlen := hs.len
  intro d
  induction d with
  | zero => intro out hI h; have := ord_len hI; omega
  | succ d ih =>
    intro out hI h k hk
    rw [fO] at hk
    have hf0 := fO_ge d
    obtain ⟨k, rfl⟩ : ∃ k', k = k' + 1 := ⟨k - 1, by omega⟩
    have hol := ord_len hI
    rw [capstanref11_Order.l1, odLoop]
    by_cases hlt : (out.length : Int) < (ms.length : Int)
    · rw [if_pos hlt, if_neg fun e => (keys_nil hI).1 e hlt]
      have hf : (odKeys ms.length out).find? (fun z => odCnt (ws ms) out z == 0) = (((List.range' 0 ms.length).map fun (j : Nat) => (j : Int)).find? fun z => !out.contains z && odCnt (ws ms) out z == 0) := by
        unfold odKeys
        rw [List.find?_filter, List.range_eq_range']
        refine congrArg (fun p => List.find? p _) (funext fun z => ?_)
        rw [Bool.eq_iff_iff]
        simp
      rcases rO_l2 (l0 := l0) (l1 := l1) (a3 := a3) hs ho out hI.nodup (by omega) (fO d) hf0 ms.length 0 (Nat.zero_add _) k (by omega) with ⟨h1, h2⟩ | ⟨z, k', h1, h2, h3⟩
      · rw [hf, h1]
        exact h2
      · rw [hf, h1]
        rw [← hf] at h1
        have hz := List.mem_of_find?_eq_some h1
        have hp := List.find?_some h1
        refine h3.trans (ih (out ++ [z]) (hI.snoc (ws_ok ho) (by rw [ws_len]; exact hz) (by simpa using hp)) (by rw [List.length_append, List.length_singleton]; omega) k' h2)
    · rw [if_neg hlt, if_pos ((keys_nil hI).2 hlt)]
theorem rOrder_f (hs : Small ms) (k : Nat) (hk : 300000000 ≤ k) : capstanref11_Order.f k l0 l1 ms a3 = calls_Order.f 41 l0 l1 ms a3 := by
  have hlen := hs.len
  unfold capstanref11_Order.f
  rcases rO_l0 (l0 := l0) (l1 := l1) (a3 := a3) hs ms.length 0 (Nat.zero_add _) (fun _ h => absurd h (Nat.not_lt_zero _)) k (by omega) with ⟨ho, k', h1, h2⟩ | ⟨ho, h2⟩
  · rw [order_eq hs hs.code ho, ws_len]
    exact h2.trans (rO_l1 hs ho (ms.length + 1) [] (OrdInv.nil _) (by rw [List.length_nil]; omega) k' (by have := fO_up (show ms.length + 1 ≤ 41 by omega); have := fO_le; omega))
  · rcases Order_f (l0 := l0) (l1 := l1) (a3 := a3) hs with ⟨h, _⟩ | ⟨h, _⟩ | ⟨_, h⟩
    · exact absurd h ho
    · exact absurd h ho
    · rw [h]; exact h2
end
end Go.Proofs.Ytkmnachdibhdhaa.M
