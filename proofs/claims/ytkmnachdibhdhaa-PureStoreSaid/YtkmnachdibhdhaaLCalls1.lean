/- Layer 11 in plain terms: the order of the methods (of calls_Order.f, calls_Deep.f). -/
import Derived.Test.YtkmnachdibhdhaaS6
import Derived.Test.YtkmnachdibhdhaaLCalls0
namespace Go.Proofs.Ytkmnachdibhdhaa.M
open Go.RowKit Go.Proofs.Ytkmnachdibhdhaa.S Go.Proofs.YtkmnachdibhdhaaW.PrintWords Go.Proofs.YtkmnachdibhdhaaW.PrintLast Go.Proofs.YtkmnachdibhdhaaW.PrintMore

/-- Whom each calls: numbers of methods, none twice. -/
def WhomOk (whom : List (List Int)) : Prop := ∀ z : Nat, z < whom.length → (whom.getD z []).Nodup ∧ ∀ x ∈ whom.getD z [], 0 ≤ x ∧ x < (whom.length : Int)
/-- Methods, each behind those that it calls. -/
structure OrdInv (whom : List (List Int)) (out : List Int) : Prop where
  nodup : out.Nodup
  range : ∀ x ∈ out, 0 ≤ x ∧ x < (whom.length : Int)
  behind : ∀ i z, out[i]? = some z → ∀ x ∈ whom.getD z.toNat [], x ∈ out.take i
theorem cnt_zero {whom : List (List Int)} (hw : WhomOk whom) {out : List Int} (ho : out.Nodup) {z : Int} (hz : 0 ≤ z ∧ z < (whom.length : Int)) : odCnt whom out z = 0 ↔ ∀ x ∈ whom.getD z.toNat [], x ∈ out := by
  obtain ⟨hn, _⟩ := hw z.toNat (by omega)
  unfold odCnt
  generalize whom.getD z.toNat [] = l at *
  have hf : (out.filter fun x => l.contains x).Nodup := List.Pairwise.filter _ ho
  have hsub : ∀ x ∈ out.filter (fun x => l.contains x), x ∈ l := fun x hx => by simpa using (List.mem_filter.1 hx).2
  have h1 := nodup_sub hf hsub
  constructor
  · intro h x hx
    have := nodup_back hf hsub (by omega) x hx
    exact (List.mem_filter.1 this).1
  · intro h
    have h2 := nodup_sub (b := out.filter fun x => l.contains x) hn fun x hx => List.mem_filter.2 ⟨h x hx, by simpa using hx⟩
    omega
theorem OrdInv.nil (whom : List (List Int)) : OrdInv whom [] := ⟨List.nodup_nil, fun _ h => absurd h List.not_mem_nil, fun _ _ h => by simp at h⟩
theorem OrdInv.snoc {whom : List (List Int)} (hw : WhomOk whom) {out : List Int} (h : OrdInv whom out) {z : Int} (hz : z ∈ odKeys whom.length out) (hc : odCnt whom out z = 0) : OrdInv whom (out ++ [z]) := by
  obtain ⟨hr, hn⟩ := odKeys_mem.1 hz
  refine ⟨List.nodup_append.2 ⟨h.nodup, (by simp), fun a ha b hb => ?_⟩, fun x hx => ?_, fun i y hi x hx => ?_⟩
  · rw [List.mem_singleton] at hb
    rintro rfl
    exact hn (hb ▸ ha)
  · rcases List.mem_append.1 hx with hx | hx
    · exact h.range x hx
    · rw [List.mem_singleton.1 hx]; exact hr
  · by_cases hlt : i < out.length
    · rw [List.getElem?_append_left hlt] at hi
      rw [List.take_append_of_le_length (by omega)]
      exact h.behind i y hi x hx
    · have hil : i < (out ++ [z]).length := (List.getElem?_eq_some_iff.1 hi).1
      rw [List.length_append, List.length_singleton] at hil
      obtain rfl : i = out.length := by omega
      have : z = y := by simpa using hi
      subst this
      rw [List.take_append_of_le_length (Nat.le_refl _), List.take_length]
      exact (cnt_zero hw h.nodup hr).1 hc x hx
/-- What the loop tells. -/
theorem odLoop_spec {whom : List (List Int)} (hw : WhomOk whom) : ∀ d out, OrdInv whom out → (odKeys whom.length out).length < d →
    (∃ o, odLoop whom whom.length d out = some (o, 0) ∧ OrdInv whom o ∧ ∀ z : Int, 0 ≤ z → z < (whom.length : Int) → z ∈ o) ∨
    (odLoop whom whom.length d out = some ([], 110) ∧ ∃ o, OrdInv whom o ∧ odKeys whom.length o ≠ [] ∧ ∀ z ∈ odKeys whom.length o, ∃ x ∈ whom.getD z.toNat [], x ∉ o) := by
  intro d
  induction d with
  | zero => intro out _ h; omega
  | succ d ih =>
    intro out hI hlen
    rw [odLoop]
    by_cases hk : odKeys whom.length out = []
    · rw [if_pos hk]
      refine .inl ⟨out, rfl, hI, fun z h0 h1 => Decidable.byContradiction fun hn => ?_⟩
      have : z ∈ odKeys whom.length out := odKeys_mem.2 ⟨⟨h0, h1⟩, hn⟩
      rw [hk] at this
      cases this
    · rw [if_neg hk]
      cases hf : (odKeys whom.length out).find? fun z => odCnt whom out z == 0 with
      | some z =>
        have hz := List.mem_of_find?_eq_some hf
        have hc : odCnt whom out z = 0 := by simpa using List.find?_some hf
        exact ih _ (hI.snoc hw hz hc) (by have := odKeys_len _ _ _ hz; omega)
      | none =>
        refine .inr ⟨rfl, out, hI, hk, fun z hz => ?_⟩
        have h1 := List.find?_eq_none.1 hf z hz
        obtain ⟨hr, hn⟩ := odKeys_mem.1 hz
        refine Classical.byContradiction fun hno => h1 ?_
        rw [beq_iff_eq, cnt_zero hw hI.nodup hr]
        intro x hx
        exact Classical.byContradiction fun hxo => hno ⟨x, hx, hxo⟩
/-- The order of methods that call so. -/
structure Ord (whom : List (List Int)) (o : List Int) : Prop where
  inv : OrdInv whom o
  all : ∀ z : Int, 0 ≤ z → z < (whom.length : Int) → z ∈ o
theorem Ord.length {whom : List (List Int)} {o : List Int} (h : Ord whom o) : o.length = whom.length := by
  have h1 := nodup_sub (b := (List.range whom.length).map fun (k : Nat) => (k : Int)) h.inv.nodup fun x hx => by
    obtain ⟨a, b⟩ := h.inv.range x hx
    exact List.mem_map.2 ⟨x.toNat, List.mem_range.2 (by omega), by omega⟩
  have h2 := nodup_sub (a := (List.range whom.length).map fun (k : Nat) => (k : Int)) (b := o) (by
    rw [← odKeys_nil]; exact odKeys_nodup _ _) fun x hx => by
    obtain ⟨k, hk, rfl⟩ := List.mem_map.1 hx
    exact h.all _ (by omega) (by have := List.mem_range.1 hk; omega)
  simp at h1 h2
  omega
/-- No set of methods each of which calls one of the set: an order. -/
theorem order_of {whom : List (List Int)} (hw : WhomOk whom) : (∃ o, odLoop whom whom.length (whom.length + 1) [] = some (o, 0) ∧ Ord whom o) ∨
    (odLoop whom whom.length (whom.length + 1) [] = some ([], 110) ∧ ∃ o, OrdInv whom o ∧ odKeys whom.length o ≠ [] ∧ ∀ z ∈ odKeys whom.length o, ∃ x ∈ whom.getD z.toNat [], x ∉ o) := by
  rcases odLoop_spec hw (whom.length + 1) [] (OrdInv.nil _) (by rw [odKeys_nil]; simp) with ⟨o, h1, h2, h3⟩ | h
  · exact .inl ⟨o, h1, h2, h3⟩
  · exact .inr h

end Go.Proofs.Ytkmnachdibhdhaa.M
