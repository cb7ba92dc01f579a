/- Layer 11 in plain terms: the order of the methods (of calls_Order.f, calls_Deep.f). -/
import Derived.Test.YtkmnachdibhdhaaQ2
import Derived.Test.YtkmnachdibhdhaaQ4
import Derived.Test.YtkmnachdibhdhaaLCalls0
namespace Go.Proofs.Ytkmnachdibhdhaa.M
open Go.RowKit Go.Proofs.Ytkmnachdibhdhaa.Q Go.Proofs.YtkmnachdibhdhaaW.PrintWords Go.Proofs.YtkmnachdibhdhaaW.PrintLast Go.Proofs.YtkmnachdibhdhaaW.PrintMore

/-- Whom each calls: numbers of methods, none twice. -/
def WhomOk (whom : List (List Int)) : Prop := ∀ z : Nat, z < whom.length → (whom.getD z []).Nodup ∧ ∀ x ∈ whom.getD z [], 0 ≤ x ∧ x < (whom.length : Int)
/-- Methods, each behind those that it calls. -/
structure OrdInv (whom : List (List Int)) (out : List Int) : Prop where
  nodup : out.Nodup
  range : ∀ x ∈ out, 0 ≤ x ∧ x < (whom.length : Int)
  behind : ∀ i z, out[i]? = some z → ∀ x ∈ whom.getD z.toNat [], x ∈ out.take i
theorem cnt_zero {whom : List (List Int)} (hw : WhomOk whom) {out : List Int} (ho : out.Nodup) {z : Int} (hz : 0 ≤ z ∧ z < (whom.length : Int)) : odCnt whom out z = 0 ↔ ∀ x ∈ whom.getD z.toNat [], x ∈ out := by
  obtain ⟨hn, _⟩ := hw z.toNat (by omega)
  unfold odCnt
  generalize whom.getD z.toNat [] = l at *
  have hf : (out.filter fun x => l.contains x).Nodup := List.Pairwise.filter _ ho
  have hsub : ∀ x ∈ out.filter (fun x => l.contains x), x ∈ l := fun x hx => by simpa using (List.mem_filter.1 hx).2
  have h1 := nodup_sub hf hsub
  constructor
  · intro h x hx
    have := nodup_back hf hsub (by omega) x hx
    exact (List.mem_filter.1 this).1
  · intro h
    have h2 := nodup_sub (b := out.filter fun x => l.contains x) hn fun x hx => List.mem_filter.2 ⟨h x hx, by simpa using hx⟩
    omega
theorem OrdInv.nil (whom : List (List Int)) : OrdInv whom [] := ⟨List.nodup_nil, fun _ h => absurd h List.not_mem_nil, fun _ _ h => by simp at h⟩
theorem OrdInv.snoc {whom : List (List Int)} (hw : WhomOk whom) {out : List Int} (h : OrdInv whom out) {z : Int} (hz : z ∈ odKeys whom.length out) (hc : odCnt whom out z = 0) : OrdInv whom (out ++ [z]) := by
  obtain ⟨hr, hn⟩ := odKeys_mem.1 hz
  refine ⟨List.nodup_append.2 ⟨h.nodup, (by simp), fun a ha b hb => ?_⟩, fun x hx => ?_, fun i y hi x hx => ?_⟩
  · rw [List.mem_singleton] at hb
    rintro rfl
    exact hn (hb ▸ ha)
  · rcases List.mem_append.1 hx with hx | hx
    · exact h.range x hx
    · rw [List.mem_singleton.1 hx]; exact hr
  · by_cases hlt : i < out.length
    · rw [List.getElem?_append_left hlt] at hi
      rw [List.take_append_of_le_length (by omega)]
      exact h.behind i y hi x hx
    · have hil : i < (out ++ [z]).length := (List.getElem?_eq_some_iff.1 hi).1
      rw [List.length_append, List.length_singleton] at hil
      obtain rfl : i = out.length := by omega
      have : z = y := by simpa using hi
      subst this
      rw [List.take_append_of_le_length (Nat.le_refl _), List.take_length]
      exact (cnt_zero hw h.nodup hr).1 hc x hx
/-- What the loop tells. -/
theorem odLoop_spec {whom : List (List Int)} (hw : WhomOk whom) : ∀ d out, OrdInv whom out → (odKeys whom.length out).length < d →
    (∃ o, odLoop whom whom.length d out = some (o, 0) ∧ OrdInv whom o ∧ ∀ z : Int, 0 ≤ z → z < (whom.length : Int) → z ∈ o) ∨
    (odLoop whom whom.length d out = some ([], 110) ∧ ∃ o, OrdInv whom o ∧ odKeys whom.length o ≠ [] ∧ ∀ z ∈ odKeys whom.length o, ∃ x ∈ whom.getD z.toNat [], x ∉ o) := by
  intro d
  induction d with
  | zero => intro out _ h; omega
  | succ d ih =>
    intro out hI hlen
    rw [odLoop]
    by_cases hk : odKeys whom.length out = []
    · rw [if_pos hk]
      refine .inl ⟨out, rfl, hI, fun z h0 h1 => Decidable.byContradiction fun hn => ?_⟩
      have : z ∈ odKeys whom.length out := odKeys_mem.2 ⟨⟨h0, h1⟩, hn⟩
      rw [hk] at this
      cases this
    · rw [if_neg hk]
      cases hf : (odKeys whom.length out).find? fun z => odCnt whom out z == 0 with
      | some z =>
        have hz := List.mem_of_find?_eq_some hf
        have hc : odCnt whom out z = 0 := by simpa using List.find?_some hf
        exact ih _ (hI.snoc hw hz hc) (by have := odKeys_len _ _ _ hz; omega)
      | none =>
        refine .inr ⟨rfl, out, hI, hk, fun z hz => ?_⟩
        have h1 := List.find?_eq_none.1 hf z hz
        obtain ⟨hr, hn⟩ := odKeys_mem.1 hz
        refine Classical.byContradiction fun hno => h1 ?_
        rw [beq_iff_eq, cnt_zero hw hI.nodup hr]
        intro x hx
        exact Classical.byContradiction fun hxo => hno ⟨x, hx, hxo⟩
/-- The order of methods that call so. -/
structure Ord (whom : List (List Int)) (o : List Int) : Prop where
  inv : OrdInv whom o
  all : ∀ z : Int, 0 ≤ z → z < (whom.length : Int) → z ∈ o
theorem Ord.length {whom : List (List Int)} {o : List Int} (h : Ord whom o) : o.length = whom.length := by
  have h1 := nodup_sub (b := (List.range whom.length).map fun (k : Nat) => (k : Int)) h.inv.nodup fun x hx => by
    obtain ⟨a, b⟩ := h.inv.range x hx
    exact List.mem_map.2 ⟨x.toNat, List.mem_range.2 (by omega), by omega⟩
  have h2 := nodup_sub (a := (List.range whom.length).map fun (k : Nat) => (k : Int)) (b := o) (by
    rw [← odKeys_nil]; exact odKeys_nodup _ _) fun x hx => by
    obtain ⟨k, hk, rfl⟩ := List.mem_map.1 hx
    exact h.all _ (by omega) (by have := List.mem_range.1 hk; omega)
  simp at h1 h2
  omega
/-- No set of methods each of which calls one of the set: an order. -/
theorem order_of {whom : List (List Int)} (hw : WhomOk whom) : (∃ o, odLoop whom whom.length (whom.length + 1) [] = some (o, 0) ∧ Ord whom o) ∨
    (odLoop whom whom.length (whom.length + 1) [] = some ([], 110) ∧ ∃ o, OrdInv whom o ∧ odKeys whom.length o ≠ [] ∧ ∀ z ∈ odKeys whom.length o, ∃ x ∈ whom.getD z.toNat [], x ∉ o) := by
  rcases odLoop_spec hw (whom.length + 1) [] (OrdInv.nil _) (by rw [odKeys_nil]; simp) with ⟨o, h1, h2, h3⟩ | h
  · exact .inl ⟨o, h1, h2, h3⟩
  · exact .inr h

/-! How deep. -/
def dpV (d l : List Int) : Int := l.foldl (fun a x => max a (wrap64 (d.getD x.toNat 0 + 1))) 1
theorem dpV_from (d : List Int) : ∀ (l : List Int) (a : Int), a ≤ l.foldl (fun a x => max a (wrap64 (d.getD x.toNat 0 + 1))) a ∧ (∀ x ∈ l, wrap64 (d.getD x.toNat 0 + 1) ≤ l.foldl (fun a x => max a (wrap64 (d.getD x.toNat 0 + 1))) a) ∧ (l.foldl (fun a x => max a (wrap64 (d.getD x.toNat 0 + 1))) a = a ∨ ∃ x ∈ l, l.foldl (fun a x => max a (wrap64 (d.getD x.toNat 0 + 1))) a = wrap64 (d.getD x.toNat 0 + 1)) := by
  intro l
  induction l with
  | nil => intro a; exact ⟨Int.le_refl _, fun _ h => absurd h List.not_mem_nil, .inl rfl⟩
  | cons y t ih =>
    intro a
    obtain ⟨h1, h2, h3⟩ := ih (max a (wrap64 (d.getD y.toNat 0 + 1)))
    rw [List.foldl_cons]
    refine ⟨by omega, fun x hx => ?_, ?_⟩
    · rcases List.mem_cons.1 hx with rfl | hx
      · omega
      · exact h2 x hx
    · rcases h3 with h3 | ⟨x, hx, h3⟩
      · by_cases hc : a < wrap64 (d.getD y.toNat 0 + 1)
        · exact .inr ⟨y, List.mem_cons_self .., by omega⟩
        · exact .inl (by omega)
      · exact .inr ⟨x, List.mem_cons_of_mem _ hx, h3⟩
theorem dpV_spec (d l : List Int) : 1 ≤ dpV d l ∧ (∀ x ∈ l, wrap64 (d.getD x.toNat 0 + 1) ≤ dpV d l) ∧ (dpV d l = 1 ∨ ∃ x ∈ l, dpV d l = wrap64 (d.getD x.toNat 0 + 1)) := dpV_from d l 1
/-- It hangs on the set of those that are called, and on their depths alone. -/
theorem dpV_same {d e l m : List Int} (hl : ∀ x, x ∈ l ↔ x ∈ m) (hd : ∀ x ∈ l, d.getD x.toNat 0 = e.getD x.toNat 0) : dpV d l = dpV e m := by
  obtain ⟨a1, a2, a3⟩ := dpV_spec d l
  obtain ⟨b1, b2, b3⟩ := dpV_spec e m
  have h1 : dpV d l ≤ dpV e m := by
    rcases a3 with a3 | ⟨x, hx, a3⟩
    · omega
    · rw [a3, hd x hx]; exact b2 x ((hl x).1 hx)
  have h2 : dpV e m ≤ dpV d l := by
    rcases b3 with b3 | ⟨x, hx, b3⟩
    · omega
    · rw [b3, ← hd x ((hl x).2 hx)]; exact a2 x ((hl x).2 hx)
  omega
theorem dpRow_set (k : Nat) : ∀ (l d : List Int) (a : Int), k < d.length → (∀ x ∈ l, x.toNat ≠ k) → dpRow k (d.set k a) l = d.set k (l.foldl (fun a x => max a (wrap64 (d.getD x.toNat 0 + 1))) a) := by
  intro l
  induction l with
  | nil => intro d a _ _; rfl
  | cons y t ih =>
    intro d a hk h
    have hy := h y (List.mem_cons_self ..)
    have e1 : (d.set k a).getD k 0 = a := by simp [hk]
    have e2 : (d.set k a).getD y.toNat 0 = d.getD y.toNat 0 := by simp [List.getD_eq_getElem?_getD, List.getElem?_set_ne (Ne.symm hy)]
    show dpRow k ((d.set k a).set k (max ((d.set k a).getD k 0) (wrap64 ((d.set k a).getD y.toNat 0 + 1)))) t = _
    rw [e1, e2, List.set_set, ih d _ hk fun x hx => h x (List.mem_cons_of_mem _ hx)]
    rfl
/-- The depths of an order: each as deep as its calls make it; none deeper than its place. -/
structure DeepAt (names : Int → List Int) (n : Nat) (o : List Int) (i : Nat) (d : List Int) : Prop where
  len : d.length = n
  low : ∀ (j : Nat) (z : Int), j < i → o[j]? = some z → 1 ≤ d.getD z.toNat 0 ∧ d.getD z.toNat 0 ≤ (j : Int) + 1
  val : ∀ (j : Nat) (z : Int), j < i → o[j]? = some z → d.getD z.toNat 0 = dpV d (names z)
theorem dpAll_spec {whom : List (List Int)} {o : List Int} (ho : Ord whom o) (names : Int → List Int) (hnm : ∀ z : Int, 0 ≤ z → z < (whom.length : Int) → ∀ x, x ∈ names z ↔ x ∈ whom.getD z.toNat []) (_hn : whom.length ≤ 1000000) :
    ∀ m i d, i + m = o.length → DeepAt names whom.length o i d → DeepAt names whom.length o o.length (dpAll names d (o.drop i)) := by
  intro m
  induction m with
  | zero => intro i d hi h; obtain rfl : i = o.length := by omega
            rw [List.drop_length]; exact h
  | succ m ih =>
    intro i d hi h
    have hlt : i < o.length := by omega
    rw [List.drop_eq_getElem_cons hlt]
    have hz := ho.inv.range _ (List.getElem_mem hlt)
    have hget : o[i]? = some o[i] := List.getElem?_eq_getElem hlt
    generalize o[i] = z at *
    have hkl : z.toNat < d.length := by rw [h.len]; omega
    have hbe : ∀ x ∈ names z, x ∈ o.take i := fun x hx => ho.inv.behind i z hget x ((hnm z hz.1 hz.2 x).1 hx)
    have hidx : ∀ x ∈ o.take i, ∃ j, j < i ∧ o[j]? = some x := by
      intro x hx
      obtain ⟨j, hj, e⟩ := List.mem_iff_getElem.1 hx
      have hj2 : j < i := by simp at hj; omega
      exact ⟨j, hj2, by rw [← e, List.getElem_take]; exact List.getElem?_eq_getElem _⟩
    have hne : ∀ (j : Nat) (x : Int), j < i → o[j]? = some x → x.toNat ≠ z.toNat := by
      intro j x hj hx e
      have hxr := ho.inv.range x (List.mem_of_getElem? hx)
      obtain rfl : x = z := by omega
      obtain ⟨h1, h2⟩ := List.getElem?_eq_some_iff.1 hx
      obtain ⟨h3, h4⟩ := List.getElem?_eq_some_iff.1 hget
      have := List.pairwise_iff_getElem.1 ho.inv.nodup j i h1 h3 hj
      exact this (h2.trans h4.symm)
    show DeepAt names whom.length o o.length (dpAll names (dpRow z.toNat (d.set z.toNat 1) (names z)) (o.drop (i + 1)))
    rw [dpRow_set z.toNat (names z) d 1 hkl fun x hx => by obtain ⟨j, hj, hx⟩ := hidx x (hbe x hx); exact hne j x hj hx]
    change DeepAt names whom.length o o.length (dpAll names (d.set z.toNat (dpV d (names z))) (o.drop (i + 1)))
    have far : ∀ (v : Int) (j : Nat) (x : Int), j < i → o[j]? = some x → (d.set z.toNat v).getD x.toNat 0 = d.getD x.toNat 0 := by
      intro v j x hj hx
      simp [List.getD_eq_getElem?_getD, List.getElem?_set_ne (Ne.symm (hne j x hj hx))]
    have near : ∀ v : Int, (d.set z.toNat v).getD z.toNat 0 = v := fun v => by simp [hkl]
    refine ih (i + 1) _ (by omega) ⟨by simpa using h.len, fun j x hj hx => ?_, fun j x hj hx => ?_⟩
    · by_cases hji : j < i
      · rw [far _ j x hji hx]; exact h.low j x hji hx
      · obtain rfl : j = i := by omega
        obtain rfl : z = x := by rw [hget] at hx; injection hx
        rw [near]
        obtain ⟨b1, b2, b3⟩ := dpV_spec d (names z)
        refine ⟨b1, ?_⟩
        rcases b3 with b3 | ⟨x, hx2, b3⟩
        · omega
        · obtain ⟨p, hp, hpx⟩ := hidx x (hbe x hx2)
          have := h.low p x hp hpx
          rw [b3]
          have hol := ho.length
          unfold wrap64
          omega
    · by_cases hji : j < i
      · rw [far _ j x hji hx, h.val j x hji hx]
        refine dpV_same (fun _ => Iff.rfl) fun y hy => ?_
        have hxr := ho.inv.range x (List.mem_of_getElem? hx)
        have hy2 := ho.inv.behind j x hx y ((hnm x hxr.1 hxr.2 y).1 hy)
        obtain ⟨p, hp, e⟩ := List.mem_iff_getElem.1 hy2
        have hp2 : p < j := by simp at hp; omega
        exact (far _ p y (by omega) (by rw [← e, List.getElem_take]; exact List.getElem?_eq_getElem _)).symm
      · obtain rfl : j = i := by omega
        obtain rfl : z = x := by rw [hget] at hx; injection hx
        rw [near]
        refine dpV_same (fun _ => Iff.rfl) fun y hy => ?_
        obtain ⟨p, hp, hpy⟩ := hidx y (hbe y hy)
        exact (far _ p y hp hpy).symm
end Go.Proofs.Ytkmnachdibhdhaa.M
