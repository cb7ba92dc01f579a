/- Layer 13 in plain terms: which methods are pure (of pure_Pure.f, pure_stores.f, pure_whom.f: ppA, ppB, ppC). -/
import Derived.Test.YtkmnachdibhdhaaT1
import Derived.Test.YtkmnachdibhdhaaT2
import Derived.Test.YtkmnachdibhdhaaT3
namespace Go.Proofs.Ytkmnachdibhdhaa.M
open Go.RowKit Go.Proofs.Ytkmnachdibhdhaa.T Go.Proofs.YtkmnachdibhdhaaW.PrintWords Go.Proofs.YtkmnachdibhdhaaW.PrintLast Go.Proofs.YtkmnachdibhdhaaW.PrintMore

/-- A method that isn't pure: it stores, or it calls one that isn't. -/
inductive Bad (whom : List (List Int)) (s : Int → Bool) : Int → Prop
  | store {k : Int} : 0 ≤ k → k < (whom.length : Int) → s k = true → Bad whom s k
  | call {k x : Int} : 0 ≤ k → k < (whom.length : Int) → x ∈ whom.getD k.toNat [] → Bad whom s x → Bad whom s k
/-- The truth of a place. -/
def tr (out : List Bool) (k : Int) : Bool := out.getD k.toNat false
theorem tr_set {out : List Bool} {i : Nat} {b : Bool} (h : i < out.length) (k : Int) (hk : 0 ≤ k) : tr (out.set i b) k = if k = (i : Int) then b else tr out k := by
  unfold tr
  by_cases e : k = (i : Int)
  · subst e; simp [h]
  · rw [if_neg e, List.getD_eq_getElem?_getD, List.getD_eq_getElem?_getD, List.getElem?_set_ne (by omega)]
theorem count_put {out : List Bool} {i : Nat} (h : i < out.length) : (tr out (i : Int) = true → (out.set i false).count true + 1 = out.count true) ∧ (tr out (i : Int) = false → (out.set i true).count true = out.count true + 1 ∧ (out.set i false).count true = out.count true) := by
  have ht : tr out (i : Int) = out[i] := by unfold tr; simp [h]
  rw [ht]
  refine ⟨fun e => ?_, fun e => ⟨?_, ?_⟩⟩
  · rw [List.count_set h, e]
    have : 0 < out.count true := List.count_pos_iff.2 (e ▸ List.getElem_mem h)
    simp
    omega
  · rw [List.count_set h, e]; simp
  · rw [List.count_set h, e]; simp
/-- Midway: the place kk is next, of those that call 'bad'. -/
structure CInv (whom : List (List Int)) (s : Int → Bool) (bad : Int) (kk : Nat) (out : List Bool) (buf : List Int) : Prop where
  len : out.length = whom.length
  sound : ∀ k : Int, 0 ≤ k → k < (whom.length : Int) → tr out k = false → Bad whom s k
  st : ∀ k : Int, 0 ≤ k → k < (whom.length : Int) → s k = true → tr out k = false
  inb : ∀ b ∈ buf, 0 ≤ b ∧ b < (whom.length : Int) ∧ tr out b = false
  close : ∀ b : Int, 0 ≤ b → b < (whom.length : Int) → tr out b = false → b ∈ buf ∨ ∀ k : Int, 0 ≤ k → k < (whom.length : Int) → (b = bad → k < (kk : Int)) → b ∈ whom.getD k.toNat [] → tr out k = false
  count : buf.length + out.count true ≤ whom.length
theorem count_tr {out : List Bool} {k : Int} (h0 : 0 ≤ k) (h1 : k < (out.length : Int)) (h : tr out k = true) : 0 < out.count true := by
  refine List.count_pos_iff.2 ?_
  have : tr out k = out[k.toNat]'(by omega) := by unfold tr; simp [show k.toNat < out.length by omega]
  rw [this] at h
  exact h ▸ List.getElem_mem _
theorem ppC_spec {whom : List (List Int)} {s : Int → Bool} {bad : Int} (hn : whom.length ≤ 10000) (hb : Bad whom s bad) : ∀ m kk out buf, m + kk = whom.length → CInv whom s bad kk out buf →
    ∃ o b, ppC whom bad whom.length (m + 1) (kk : Int) out buf = some (o, b) ∧ CInv whom s bad whom.length o b ∧ b.length + o.count true = buf.length + out.count true := by
  intro m
  induction m with
  | zero =>
    intro kk out buf hk h
    obtain rfl : kk = whom.length := by omega
    exact ⟨out, buf, by rw [ppC, if_neg (by omega)], h, rfl⟩
  | succ m ih =>
    intro kk out buf hk h
    have hl := h.len
    have hw : wrap64 ((kk : Int) + 1) = ((kk + 1 : Nat) : Int) := by unfold wrap64; omega
    have hlo : kk < out.length := by omega
    rw [ppC, if_pos (by omega), if_pos (by omega), Int.toNat_natCast, hw]
    change ∃ o b, (if tr out (kk : Int) = true then _ else _) = some (o, b) ∧ _
    by_cases ht : tr out (kk : Int) = true
    · rw [if_pos ht]
      by_cases hc : (whom.getD kk []).contains bad = true
      · have hcnt := count_tr (k := (kk : Int)) (by omega) (by omega) ht
        have hle := h.count
        rw [if_pos hc, if_pos (by omega)]
        have hbk : Bad whom s (kk : Int) := .call (by omega) (by omega) (by rw [Int.toNat_natCast]; simpa using hc) hb
        have hput := (count_put hlo).1 ht
        have hI : CInv whom s bad (kk + 1) (out.set kk false) (buf ++ [(kk : Int)]) := by
          refine ⟨by simpa using hl, fun k h0 h1 h2 => ?_, fun k h0 h1 h2 => ?_, fun b hb => ?_, fun b h0 h1 h2 => ?_, by rw [List.length_append, List.length_singleton]; omega⟩
          · rw [tr_set hlo k h0] at h2
            by_cases e : k = (kk : Int)
            · subst e; exact hbk
            · rw [if_neg e] at h2; exact h.sound k h0 h1 h2
          · rw [tr_set hlo k h0]
            split
            · rfl
            · exact h.st k h0 h1 h2
          · rcases List.mem_append.1 hb with hb | hb
            · obtain ⟨a1, a2, a3⟩ := h.inb b hb
              refine ⟨a1, a2, ?_⟩
              rw [tr_set hlo b a1]
              split
              · rfl
              · exact a3
            · rw [List.mem_singleton.1 hb]
              refine ⟨by omega, by omega, ?_⟩
              rw [tr_set hlo _ (by omega), if_pos rfl]
          · by_cases e : b = (kk : Int)
            · exact .inl (by rw [e]; simp)
            · rw [tr_set hlo b h0, if_neg e] at h2
              rcases h.close b h0 h1 h2 with h3 | h3
              · exact .inl (List.mem_append_left _ h3)
              · refine .inr fun k a0 a1 a2 a3 => ?_
                rw [tr_set hlo k a0]
                by_cases e2 : k = (kk : Int)
                · rw [if_pos e2]
                · rw [if_neg e2]
                  exact h3 k a0 a1 (fun eb => by have := a2 eb; omega) a3
        obtain ⟨o, b, h1, h2, h3⟩ := ih (kk + 1) (out.set kk false) (buf ++ [(kk : Int)]) (by omega) hI
        refine ⟨o, b, h1, h2, ?_⟩
        rw [List.length_append, List.length_singleton] at h3
        omega
      · rw [if_neg hc]
        refine ih (kk + 1) out buf (by omega) ⟨hl, h.sound, h.st, h.inb, fun b h0 h1 h2 => ?_, h.count⟩
        rcases h.close b h0 h1 h2 with h3 | h3
        · exact .inl h3
        · refine .inr fun k a0 a1 a2 a3 => ?_
          by_cases e2 : k = (kk : Int)
          · subst e2
            by_cases eb : b = bad
            · subst eb
              rw [Int.toNat_natCast] at a3
              exact absurd (by simpa using a3) hc
            · exact h3 _ a0 a1 (fun e => absurd e eb) a3
          · exact h3 k a0 a1 (fun eb => by have := a2 eb; omega) a3
    · rw [if_neg ht]
      refine ih (kk + 1) out buf (by omega) ⟨hl, h.sound, h.st, h.inb, fun b h0 h1 h2 => ?_, h.count⟩
      rcases h.close b h0 h1 h2 with h3 | h3
      · exact .inl h3
      · refine .inr fun k a0 a1 a2 a3 => ?_
        by_cases e2 : k = (kk : Int)
        · subst e2; simpa using ht
        · exact h3 k a0 a1 (fun eb => by have := a2 eb; omega) a3
/-- What is told: those that aren't bad. -/
def PureRow (whom : List (List Int)) (s : Int → Bool) (o : List Bool) : Prop := o.length = whom.length ∧ ∀ k : Int, 0 ≤ k → k < (whom.length : Int) → (tr o k = false ↔ Bad whom s k)
/-- Between two rounds. -/
def BInv (whom : List (List Int)) (s : Int → Bool) (out : List Bool) (buf : List Int) : Prop := ∃ bad, CInv whom s bad whom.length out buf
theorem BInv.closed {whom : List (List Int)} {s : Int → Bool} {out : List Bool} {buf : List Int} (h : BInv whom s out buf) : ∀ b : Int, 0 ≤ b → b < (whom.length : Int) → tr out b = false → b ∈ buf ∨ ∀ k : Int, 0 ≤ k → k < (whom.length : Int) → b ∈ whom.getD k.toNat [] → tr out k = false := by
  obtain ⟨_, h⟩ := h
  intro b h0 h1 h2
  rcases h.close b h0 h1 h2 with h3 | h3
  · exact .inl h3
  · exact .inr fun k a0 a1 => h3 k a0 a1 fun _ => a1
theorem ppB_spec {whom : List (List Int)} {s : Int → Bool} (hw : ∀ k : Int, 0 ≤ k → k < (whom.length : Int) → ∀ x ∈ whom.getD k.toNat [], 0 ≤ x ∧ x < (whom.length : Int)) (hn : whom.length ≤ 10000) : ∀ d out buf, BInv whom s out buf → buf.length + out.count true < d →
    ∃ o, ppB whom whom.length d out buf = some o ∧ PureRow whom s o := by
  intro d
  induction d with
  | zero => intro out buf _ h; omega
  | succ d ih =>
    intro out buf h hd
    have hcl := h.closed
    obtain ⟨b0, h⟩ := h
    cases buf with
    | nil =>
      refine ⟨out, by rw [ppB], h.len, fun k h0 h1 => ⟨h.sound k h0 h1, fun hb => ?_⟩⟩
      induction hb with
      | store a0 a1 a2 => exact h.st _ a0 a1 a2
      | call a0 a1 a2 _ ih2 =>
        have hr := hw _ a0 a1 _ a2
        rcases hcl _ hr.1 hr.2 (ih2 hr.1 hr.2) with h3 | h3
        · cases h3
        · exact h3 _ a0 a1 a2
    | cons bad t =>
      obtain ⟨c0, c1, c2⟩ := h.inb bad (List.mem_cons_self ..)
      have hcnt := h.count
      rw [List.length_cons] at hcnt hd
      obtain ⟨o, b, h1, h2, h3⟩ := ppC_spec hn (h.sound bad c0 c1 c2) whom.length 0 out t (by omega) ⟨h.len, h.sound, h.st, fun b hb => h.inb b (List.mem_cons_of_mem _ hb), fun b a0 a1 a2 => by
        rcases hcl b a0 a1 a2 with h3 | h3
        · rcases List.mem_cons.1 h3 with e | h3
          · exact .inr fun k q0 q1 q2 => absurd (q2 e) (by omega)
          · exact .inl h3
        · exact .inr fun k q0 q1 _ => h3 k q0 q1, by omega⟩
      obtain ⟨r, h4, h5⟩ := ih o b ⟨bad, h2⟩ (by omega)
      refine ⟨r, ?_, h5⟩
      rw [ppB]
      have h6 : ppC whom bad whom.length (whom.length + 1) 0 out t = some (o, b) := h1
      rw [h6, Option.bind_some]
      exact h4
/-- The first loop. -/
structure AInv (n : Nat) (s : Int → Bool) (i : Nat) (out : List Bool) (buf : List Int) : Prop where
  len : out.length = n
  low : ∀ k : Int, 0 ≤ k → k < (i : Int) → tr out k = !s k
  high : ∀ k : Int, (i : Int) ≤ k → tr out k = false
  inb : ∀ b ∈ buf, 0 ≤ b ∧ b < (i : Int) ∧ s b = true
  all : ∀ k : Int, 0 ≤ k → k < (i : Int) → s k = true → k ∈ buf
  count : buf.length + out.count true = i
theorem ppA_spec {st : Int → Option Bool} {s : Int → Bool} {n : Nat} (hn : n ≤ 10000) (hst : ∀ k : Int, 0 ≤ k → k < (n : Int) → st k = some (s k)) : ∀ m i out buf, m + i = n → AInv n s i out buf →
    ∃ o b, ppA st (n : Int) n (m + 1) (i : Int) out buf = some (o, b) ∧ AInv n s n o b := by
  intro m
  induction m with
  | zero =>
    intro i out buf hk h
    obtain rfl : i = n := by omega
    exact ⟨out, buf, by rw [ppA, if_neg (by omega)], h⟩
  | succ m ih =>
    intro i out buf hk h
    have hl := h.len
    have hcnt := h.count
    have hw : wrap64 ((i : Int) + 1) = ((i + 1 : Nat) : Int) := by unfold wrap64; omega
    have hlo : i < out.length := by omega
    rw [ppA, if_pos (by omega), hst (i : Int) (by omega) (by omega), Option.bind_some, if_pos (by omega), Int.toNat_natCast, hw]
    have hput := (count_put hlo).2 (h.high (i : Int) (by omega))
    cases hs : s (i : Int) with
    | true =>
      rw [if_pos rfl, if_pos (by omega)]
      refine ih (i + 1) (out.set i false) (buf ++ [(i : Int)]) (by omega) ⟨by simpa using hl, fun k h0 h1 => ?_, fun k h1 => ?_, fun b hb => ?_, fun k h0 h1 h2 => ?_, by rw [List.length_append, List.length_singleton, hput.2]; omega⟩
      · rw [tr_set hlo k h0]
        by_cases e : k = (i : Int)
        · rw [if_pos e, e, hs]; rfl
        · rw [if_neg e]; exact h.low k h0 (by omega)
      · rw [tr_set hlo k (by omega), if_neg (by omega)]; exact h.high k (by omega)
      · rcases List.mem_append.1 hb with hb | hb
        · obtain ⟨a, b, c⟩ := h.inb b hb; exact ⟨a, by omega, c⟩
        · rw [List.mem_singleton.1 hb]; exact ⟨by omega, by omega, hs⟩
      · by_cases e : k = (i : Int)
        · rw [e]; simp
        · exact List.mem_append_left _ (h.all k h0 (by omega) h2)
    | false =>
      rw [if_neg (by decide)]
      refine ih (i + 1) (out.set i true) buf (by omega) ⟨by simpa using hl, fun k h0 h1 => ?_, fun k h1 => ?_, fun b hb => ?_, fun k h0 h1 h2 => ?_, by rw [hput.1]; omega⟩
      · rw [tr_set hlo k h0]
        by_cases e : k = (i : Int)
        · rw [if_pos e, e, hs]; rfl
        · rw [if_neg e]; exact h.low k h0 (by omega)
      · rw [tr_set hlo k (by omega), if_neg (by omega)]; exact h.high k (by omega)
      · obtain ⟨a, b, c⟩ := h.inb b hb; exact ⟨a, by omega, c⟩
      · by_cases e : k = (i : Int)
        · subst e; rw [hs] at h2; cases h2
        · exact h.all k h0 (by omega) h2
/-- Both loops. -/
theorem pp_spec {whom : List (List Int)} {st : Int → Option Bool} {s : Int → Bool} (hw : ∀ k : Int, 0 ≤ k → k < (whom.length : Int) → ∀ x ∈ whom.getD k.toNat [], 0 ≤ x ∧ x < (whom.length : Int)) (hn : whom.length ≤ 10000) (hst : ∀ k : Int, 0 ≤ k → k < (whom.length : Int) → st k = some (s k)) (d : Nat) (hd : whom.length < d) :
    ∃ q o, ppA st (whom.length : Int) whom.length (whom.length + 1) 0 (List.replicate whom.length false) [] = some q ∧ ppB whom whom.length d q.1 q.2 = some o ∧ PureRow whom s o := by
  obtain ⟨o1, b1, h1, h2⟩ := ppA_spec hn hst whom.length 0 (List.replicate whom.length false) [] (by omega) ⟨(by simp), fun k _ _ => (by omega), fun k _ => (by unfold tr; rw [List.getD_eq_getElem?_getD, List.getElem?_replicate]; split <;> rfl), fun b hb => (absurd hb List.not_mem_nil), fun k _ _ => (by omega), (by simp [List.count_replicate])⟩
  obtain ⟨o, h3, h4⟩ := ppB_spec (s := s) hw hn d o1 b1 ⟨0, h2.len, fun k k0 k1 k2 => .store k0 k1 (by rw [h2.low k k0 k1] at k2; simpa using k2), fun k k0 k1 k2 => (by rw [h2.low k k0 k1]; simp [k2]), fun b hb => (by
    obtain ⟨a, b2, c⟩ := h2.inb b hb
    exact ⟨a, b2, by rw [h2.low b a b2]; simp [c]⟩), fun b b0 b1 b2 => .inl (h2.all b b0 b1 (by rw [h2.low b b0 b1] at b2; simpa using b2)), by have := h2.count; omega⟩ (by have := h2.count; omega)
  exact ⟨(o1, b1), o, h1, h3, h4⟩
end Go.Proofs.Ytkmnachdibhdhaa.M
