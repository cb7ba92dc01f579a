/- Layer 13 in plain terms: which methods are pure (of pure_Pure.f, pure_stores.f, pure_whom.f: ppA, ppB, ppC). Layer 13 in plain terms: what Stores, Check, Pure tell of a module (of pure_stores.f, pure_Stores.f, pure_whom.f, pure_Pure.f). Layer 13 in plain terms: what Check tells; the chapter's examples (of pure_Check.f, capstanlaw13_three.f, capstanlaw13_awake.f). -/
import Derived.Test.YtkmnachdibhdhaaU8
import Derived.Test.YtkmnachdibhdhaaU9
import Derived.Test.YtkmnachdibhdhaaU10
import Derived.Test.YtkmnachdibhdhaaU15
import Derived.Test.YtkmnachdibhdhaaLCallsM
namespace Go.Proofs.Ytkmnachdibhdhaa.M
open Go.RowKit Go.Proofs.Ytkmnachdibhdhaa.U Go.Proofs.YtkmnachdibhdhaaW.PrintWords Go.Proofs.YtkmnachdibhdhaaW.PrintLast Go.Proofs.YtkmnachdibhdhaaW.PrintMore

section S1

/-- A method that isn't pure: it stores, or it calls one that isn't. -/
inductive Bad (whom : List (List Int)) (s : Int → Bool) : Int → Prop
  | store {k : Int} : 0 ≤ k → k < (whom.length : Int) → s k = true → Bad whom s k
  | call {k x : Int} : 0 ≤ k → k < (whom.length : Int) → x ∈ whom.getD k.toNat [] → Bad whom s x → Bad whom s k
/-- The truth of a place. -/
def tr (out : List Bool) (k : Int) : Bool := out.getD k.toNat false
theorem tr_set {out : List Bool} {i : Nat} {b : Bool} (h : i < out.length) (k : Int) (hk : 0 ≤ k) : tr (out.set i b) k = if k = (i : Int) then b else tr out k := by
  unfold tr
  by_cases e : k = (i : Int)
  · subst e; simp [h]
  · rw [if_neg e, List.getD_eq_getElem?_getD, List.getD_eq_getElem?_getD, List.getElem?_set_ne (by omega)]
theorem count_put {out : List Bool} {i : Nat} (h : i < out.length) : (tr out (i : Int) = true → (out.set i false).count true + 1 = out.count true) ∧ (tr out (i : Int) = false → (out.set i true).count true = out.count true + 1 ∧ (out.set i false).count true = out.count true) := by
  have ht : tr out (i : Int) = out[i] := by unfold tr; simp [h]
  rw [ht]
  refine ⟨fun e => ?_, fun e => ⟨?_, ?_⟩⟩
  · rw [List.count_set h, e]
    have : 0 < out.count true := List.count_pos_iff.2 (e ▸ List.getElem_mem h)
    simp
    omega
  · rw [List.count_set h, e]; simp
  · rw [List.count_set h, e]; simp
/-- Midway: the place kk is next, of those that call 'bad'. -/
structure CInv (whom : List (List Int)) (s : Int → Bool) (bad : Int) (kk : Nat) (out : List Bool) (buf : List Int) : Prop where
  len : out.length = whom.length
  sound : ∀ k : Int, 0 ≤ k → k < (whom.length : Int) → tr out k = false → Bad whom s k
  st : ∀ k : Int, 0 ≤ k → k < (whom.length : Int) → s k = true → tr out k = false
  inb : ∀ b ∈ buf, 0 ≤ b ∧ b < (whom.length : Int) ∧ tr out b = false
  close : ∀ b : Int, 0 ≤ b → b < (whom.length : Int) → tr out b = false → b ∈ buf ∨ ∀ k : Int, 0 ≤ k → k < (whom.length : Int) → (b = bad → k < (kk : Int)) → b ∈ whom.getD k.toNat [] → tr out k = false
  count : buf.length + out.count true ≤ whom.length
theorem count_tr {out : List Bool} {k : Int} (h0 : 0 ≤ k) (h1 : k < (out.length : Int)) (h : tr out k = true) : 0 < out.count true := by
  refine List.count_pos_iff.2 ?_
  have : tr out k = out[k.toNat]'(by omega) := by unfold tr; simp [show k.toNat < out.length by omega]
  rw [this] at h
  exact h ▸ List.getElem_mem _
theorem ppC_spec {whom : List (List Int)} {s : Int → Bool} {bad : Int} (hn : whom.length ≤ 10000) (hb : Bad whom s bad) : ∀ m kk out buf, m + kk = whom.length → CInv whom s bad kk out buf →
    ∃ o b, ppC whom bad whom.length (m + 1) (kk : Int) out buf = some (o, b) ∧ CInv whom s bad whom.length o b ∧ b.length + o.count true = buf.length + out.count true := by
  intro m
  induction m with
  | zero =>
    intro kk out buf hk h
    obtain rfl : kk = whom.length := by omega
    exact ⟨out, buf, by rw [ppC, if_neg (by omega)], h, rfl⟩
  | succ m ih =>
    intro kk out buf hk h
    have hl := h.len
    have hw : wrap64 ((kk : Int) + 1) = ((kk + 1 : Nat) : Int) := by unfold wrap64; omega
    have hlo : kk < out.length := by omega
    rw [ppC, if_pos (by omega), if_pos (by omega), Int.toNat_natCast, hw]
    change ∃ o b, (if tr out (kk : Int) = true then _ else _) = some (o, b) ∧ _
    by_cases ht : tr out (kk : Int) = true
    · rw [if_pos ht]
      by_cases hc : (whom.getD kk []).contains bad = true
      · have hcnt := count_tr (k := (kk : Int)) (by omega) (by omega) ht
        have hle := h.count
        rw [if_pos hc, if_pos (by omega)]
        have hbk : Bad whom s (kk : Int) := .call (by omega) (by omega) (by rw [Int.toNat_natCast]; simpa using hc) hb
        have hput := (count_put hlo).1 ht
        have hI : CInv whom s bad (kk + 1) (out.set kk false) (buf ++ [(kk : Int)]) := by
          refine ⟨by simpa using hl, fun k h0 h1 h2 => ?_, fun k h0 h1 h2 => ?_, fun b hb => ?_, fun b h0 h1 h2 => ?_, by rw [List.length_append, List.length_singleton]; omega⟩
          · rw [tr_set hlo k h0] at h2
            by_cases e : k = (kk : Int)
            · subst e; exact hbk
            · rw [if_neg e] at h2; exact h.sound k h0 h1 h2
          · rw [tr_set hlo k h0]
            split
            · rfl
            · exact h.st k h0 h1 h2
          · rcases List.mem_append.1 hb with hb | hb
            · obtain ⟨a1, a2, a3⟩ := h.inb b hb
              refine ⟨a1, a2, ?_⟩
              rw [tr_set hlo b a1]
              split
              · rfl
              · exact a3
            · rw [List.mem_singleton.1 hb]
              refine ⟨by omega, by omega, ?_⟩
              rw [tr_set hlo _ (by omega), if_pos rfl]
          · by_cases e : b = (kk : Int)
            · exact .inl (by rw [e]; simp)
            · rw [tr_set hlo b h0, if_neg e] at h2
              rcases h.close b h0 h1 h2 with h3 | h3
              · exact .inl (List.mem_append_left _ h3)
              · refine .inr fun k a0 a1 a2 a3 => ?_
                rw [tr_set hlo k a0]
                by_cases e2 : k = (kk : Int)
                · rw [if_pos e2]
                · rw [if_neg e2]
                  exact h3 k a0 a1 (fun eb => by have := a2 eb; omega) a3
        obtain ⟨o, b, h1, h2, h3⟩ := ih (kk + 1) (out.set kk false) (buf ++ [(kk : Int)]) (by omega) hI
        refine ⟨o, b, h1, h2, ?_⟩
        rw [List.length_append, List.length_singleton] at h3
        omega
      · rw [if_neg hc]
        refine ih (kk + 1) out buf (by omega) ⟨hl, h.sound, h.st, h.inb, fun b h0 h1 h2 => ?_, h.count⟩
        rcases h.close b h0 h1 h2 with h3 | h3
        · exact .inl h3
        · refine .inr fun k a0 a1 a2 a3 => ?_
          by_cases e2 : k = (kk : Int)
          · subst e2
            by_cases eb : b = bad
            · subst eb
              rw [Int.toNat_natCast] at a3
              exact absurd (by simpa using a3) hc
            · exact h3 _ a0 a1 (fun e => absurd e eb) a3
          · exact h3 k a0 a1 (fun eb => by have := a2 eb; omega) a3
    · rw [if_neg ht]
      refine ih (kk + 1) out buf (by omega) ⟨hl, h.sound, h.st, h.inb, fun b h0 h1 h2 => ?_, h.count⟩
      rcases h.close b h0 h1 h2 with h3 | h3
      · exact .inl h3
      · refine .inr fun k a0 a1 a2 a3 => ?_
        by_cases e2 : k = (kk : Int)
        · subst e2; simpa using ht
        · exact h3 k a0 a1 (fun eb => by have := a2 eb; omega) a3
/-- What is told: those that aren't bad. -/
def PureRow (whom : List (List Int)) (s : Int → Bool) (o : List Bool) : Prop := o.length = whom.length ∧ ∀ k : Int, 0 ≤ k → k < (whom.length : Int) → (tr o k = false ↔ Bad whom s k)
/-- Between two rounds. -/
def BInv (whom : List (List Int)) (s : Int → Bool) (out : List Bool) (buf : List Int) : Prop := ∃ bad, CInv whom s bad whom.length out buf
theorem BInv.closed {whom : List (List Int)} {s : Int → Bool} {out : List Bool} {buf : List Int} (h : BInv whom s out buf) : ∀ b : Int, 0 ≤ b → b < (whom.length : Int) → tr out b = false → b ∈ buf ∨ ∀ k : Int, 0 ≤ k → k < (whom.length : Int) → b ∈ whom.getD k.toNat [] → tr out k = false := by
  obtain ⟨_, h⟩ := h
  intro b h0 h1 h2
  rcases h.close b h0 h1 h2 with h3 | h3
  · exact .inl h3
  · exact .inr fun k a0 a1 => h3 k a0 a1 fun _ => a1
theorem ppB_spec {whom : List (List Int)} {s : Int → Bool} (hw : ∀ k : Int, 0 ≤ k → k < (whom.length : Int) → ∀ x ∈ whom.getD k.toNat [], 0 ≤ x ∧ x < (whom.length : Int)) (hn : whom.length ≤ 10000) : ∀ d out buf, BInv whom s out buf → buf.length + out.count true < d →
    ∃ o, ppB whom whom.length d out buf = some o ∧ PureRow whom s o := by
  intro d
  induction d with
  | zero => intro out buf _ h; omega
  | succ d ih =>
    intro out buf h hd
    have hcl := h.closed
    obtain ⟨b0, h⟩ := h
    cases buf with
    | nil =>
      refine ⟨out, by rw [ppB], h.len, fun k h0 h1 => ⟨h.sound k h0 h1, fun hb => ?_⟩⟩
      induction hb with
      | store a0 a1 a2 => exact h.st _ a0 a1 a2
      | call a0 a1 a2 _ ih2 =>
        have hr := hw _ a0 a1 _ a2
        rcases hcl _ hr.1 hr.2 (ih2 hr.1 hr.2) with h3 | h3
        · cases h3
        · exact h3 _ a0 a1 a2
    | cons bad t =>
      obtain ⟨c0, c1, c2⟩ := h.inb bad (List.mem_cons_self ..)
      have hcnt := h.count
      rw [List.length_cons] at hcnt hd
      obtain ⟨o, b, h1, h2, h3⟩ := ppC_spec hn (h.sound bad c0 c1 c2) whom.length 0 out t (by omega) ⟨h.len, h.sound, h.st, fun b hb => h.inb b (List.mem_cons_of_mem _ hb), fun b a0 a1 a2 => by
        rcases hcl b a0 a1 a2 with h3 | h3
        · rcases List.mem_cons.1 h3 with e | h3
          · exact .inr fun k q0 q1 q2 => absurd (q2 e) (by omega)
          · exact .inl h3
        · exact .inr fun k q0 q1 _ => h3 k q0 q1, by omega⟩
      obtain ⟨r, h4, h5⟩ := ih o b ⟨bad, h2⟩ (by omega)
      refine ⟨r, ?_, h5⟩
      rw [ppB]
      have h6 : ppC whom bad whom.length (whom.length + 1) 0 out t = some (o, b) := h1
      rw [h6, Option.bind_some]
      exact h4
/-- The first loop. -/
structure AInv (n : Nat) (s : Int → Bool) (i : Nat) (out : List Bool) (buf : List Int) : Prop where
  len : out.length = n
  low : ∀ k : Int, 0 ≤ k → k < (i : Int) → tr out k = !s k
  high : ∀ k : Int, (i : Int) ≤ k → tr out k = false
  inb : ∀ b ∈ buf, 0 ≤ b ∧ b < (i : Int) ∧ s b = true
  all : ∀ k : Int, 0 ≤ k → k < (i : Int) → s k = true → k ∈ buf
  count : buf.length + out.count true = i
theorem ppA_spec {st : Int → Option Bool} {s : Int → Bool} {n : Nat} (hn : n ≤ 10000) (hst : ∀ k : Int, 0 ≤ k → k < (n : Int) → st k = some (s k)) : ∀ m i out buf, m + i = n → AInv n s i out buf →
    ∃ o b, ppA st (n : Int) n (m + 1) (i : Int) out buf = some (o, b) ∧ AInv n s n o b := by
  intro m
  induction m with
  | zero =>
    intro i out buf hk h
    obtain rfl : i = n := by omega
    exact ⟨out, buf, by rw [ppA, if_neg (by omega)], h⟩
  | succ m ih =>
    intro i out buf hk h
    have hl := h.len
    have hcnt := h.count
    have hw : wrap64 ((i : Int) + 1) = ((i + 1 : Nat) : Int) := by unfold wrap64; omega
    have hlo : i < out.length := by omega
    rw [ppA, if_pos (by omega), hst (i : Int) (by omega) (by omega), Option.bind_some, if_pos (by omega), Int.toNat_natCast, hw]
    have hput := (count_put hlo).2 (h.high (i : Int) (by omega))
    cases hs : s (i : Int) with
    | true =>
      rw [if_pos rfl, if_pos (by omega)]
      refine ih (i + 1) (out.set i false) (buf ++ [(i : Int)]) (by omega) ⟨by simpa using hl, fun k h0 h1 => ?_, fun k h1 => ?_, fun b hb => ?_, fun k h0 h1 h2 => ?_, by rw [List.length_append, List.length_singleton, hput.2]; omega⟩
      · rw [tr_set hlo k h0]
        by_cases e : k = (i : Int)
        · rw [if_pos e, e, hs]; rfl
        · rw [if_neg e]; exact h.low k h0 (by omega)
      · rw [tr_set hlo k (by omega), if_neg (by omega)]; exact h.high k (by omega)
      · rcases List.mem_append.1 hb with hb | hb
        · obtain ⟨a, b, c⟩ := h.inb b hb; exact ⟨a, by omega, c⟩
        · rw [List.mem_singleton.1 hb]; exact ⟨by omega, by omega, hs⟩
      · by_cases e : k = (i : Int)
        · rw [e]; simp
        · exact List.mem_append_left _ (h.all k h0 (by omega) h2)
    | false =>
      rw [if_neg (by decide)]
      refine ih (i + 1) (out.set i true) buf (by omega) ⟨by simpa using hl, fun k h0 h1 => ?_, fun k h1 => ?_, fun b hb => ?_, fun k h0 h1 h2 => ?_, by rw [hput.1]; omega⟩
      · rw [tr_set hlo k h0]
        by_cases e : k = (i : Int)
        · rw [if_pos e, e, hs]; rfl
        · rw [if_neg e]; exact h.low k h0 (by omega)
      · rw [tr_set hlo k (by omega), if_neg (by omega)]; exact h.high k (by omega)
      · obtain ⟨a, b, c⟩ := h.inb b hb; exact ⟨a, by omega, c⟩
      · by_cases e : k = (i : Int)
        · subst e; rw [hs] at h2; cases h2
        · exact h.all k h0 (by omega) h2
/-- Both loops. -/
theorem pp_spec {whom : List (List Int)} {st : Int → Option Bool} {s : Int → Bool} (hw : ∀ k : Int, 0 ≤ k → k < (whom.length : Int) → ∀ x ∈ whom.getD k.toNat [], 0 ≤ x ∧ x < (whom.length : Int)) (hn : whom.length ≤ 10000) (hst : ∀ k : Int, 0 ≤ k → k < (whom.length : Int) → st k = some (s k)) (d : Nat) (hd : whom.length < d) :
    ∃ q o, ppA st (whom.length : Int) whom.length (whom.length + 1) 0 (List.replicate whom.length false) [] = some q ∧ ppB whom whom.length d q.1 q.2 = some o ∧ PureRow whom s o := by
  obtain ⟨o1, b1, h1, h2⟩ := ppA_spec hn hst whom.length 0 (List.replicate whom.length false) [] (by omega) ⟨(by simp), fun k _ _ => (by omega), fun k _ => (by unfold tr; rw [List.getD_eq_getElem?_getD, List.getElem?_replicate]; split <;> rfl), fun b hb => (absurd hb List.not_mem_nil), fun k _ _ => (by omega), (by simp [List.count_replicate])⟩
  obtain ⟨o, h3, h4⟩ := ppB_spec (s := s) hw hn d o1 b1 ⟨0, h2.len, fun k k0 k1 k2 => .store k0 k1 (by rw [h2.low k k0 k1] at k2; simpa using k2), fun k k0 k1 k2 => (by rw [h2.low k k0 k1]; simp [k2]), fun b hb => (by
    obtain ⟨a, b2, c⟩ := h2.inb b hb
    exact ⟨a, b2, by rw [h2.low b a b2]; simp [c]⟩), fun b b0 b1 b2 => .inl (h2.all b b0 b1 (by rw [h2.low b b0 b1] at b2; simpa using b2)), by have := h2.count; omega⟩ (by have := h2.count; omega)
  exact ⟨(o1, b1), o, h1, h3, h4⟩
end S1
section S2

/-- Does a method's code store? -/
def stc (l : List S70) : Bool := l.any fun i => i.f0 == 5
def sto (ms : List S52) (j : Int) : Bool := stc (rd_T52 ms j).f7
theorem index_l0 (l : List S70) (hl : l.length ≤ 100000) : ∀ m i : Nat, m + i = l.length → ∃ r : Int, slices_IndexFunc_api_Instr_api_Instr.l0 (m + 1) l (l.length : Int) (i : Int) = some r ∧ decide (r ≥ 0) = (l.drop i).any fun i => i.f0 == 5 := by
  intro m
  induction m with
  | zero =>
    intro i hi
    obtain rfl : i = l.length := by omega
    exact ⟨-1, by rw [slices_IndexFunc_api_Instr_api_Instr.l0, if_neg (by omega)], by rw [List.drop_length]; rfl⟩
  | succ m ih =>
    intro i hi
    have hlt : i < l.length := by omega
    have hw : wrap64 ((i : Int) + 1) = ((i + 1 : Nat) : Int) := by unfold wrap64; omega
    have hrd : rd_T70 l (i : Int) = l[i] := by simp [rd_T70, hlt]
    rw [slices_IndexFunc_api_Instr_api_Instr.l0, if_pos (by omega), if_pos (by omega), if_pos (by omega), hrd, List.drop_eq_getElem_cons hlt, List.any_cons, hw]
    unfold pure_stores_1.f
    rw [Option.bind_some]
    cases h : l[i].f0 == 5 with
    | true => exact ⟨(i : Int), by rw [if_pos rfl], by rw [Bool.true_or]; exact decide_eq_true (by omega)⟩
    | false =>
      rw [if_neg (by decide), Bool.false_or]
      exact ih (i + 1) (by omega)
theorem stores_f (a b : List Int) (c : Int) (d : Bool) (e f g : Int) (l : List S70) (hl : l.length ≤ 100000) (k : Nat) (hk : l.length < k) : pure_stores.f k a b c d e f g l = some (stc l) := by
  refine up (f := fun k => pure_stores.f k a b c d e f g l) (fun k => pure_stores.mono _ _ _ _ _ _ _ _ k) (k0 := l.length + 1) ?_ k (by omega)
  show pure_stores.f (l.length + 1) a b c d e f g l = some (stc l)
  obtain ⟨r, h1, h2⟩ := index_l0 l hl l.length 0 (by omega)
  unfold pure_stores.f slices_ContainsFunc_api_Instr_api_Instr.f slices_IndexFunc_api_Instr_api_Instr.f
  have h3 : slices_IndexFunc_api_Instr_api_Instr.l0 (l.length + 1) l (l.length : Int) 0 = some r := h1
  rw [h3, Option.bind_some, Option.bind_some, h2]
  rfl
variable {l0 l1 : List S86} {ms : List S52} {a3 : Int}
theorem Stores_f (hs : Small ms) (j : Int) (k : Nat) (hk : 100000 < k) : pure_Stores.f k l0 l1 ms a3 j = some (if 0 ≤ j ∧ j < (ms.length : Int) then (sto ms j, 0) else (false, 2)) := by
  unfold pure_Stores.f
  by_cases h0 : j < 0
  · rw [if_pos h0, if_neg (by omega)]
  · by_cases h1 : j ≥ (ms.length : Int)
    · rw [if_neg h0, if_pos h1, if_neg (by omega)]
    · have hc := hs.code j (by omega) (by omega)
      rw [if_neg h0, if_neg h1, if_pos (by omega), if_pos (by omega), if_pos ⟨by omega, by omega⟩, stores_f _ _ _ _ _ _ _ _ hc k (by omega)]
      rfl
theorem pwhom_l0 (hs : Small ms) : ∀ m i : Nat, i + m = ms.length → (∀ j : Nat, j < i → cl_ok ms.length (nm ms j) = true) →
    (okAll ms ∧ pure_whom.l0 (m + 1) ((List.range i).map fun (j : Nat) => sset (nm ms j)) (ms.length : Int) (i : Int) l0 l1 ms a3 = some (ws ms, 0)) ∨
    (¬ okAll ms ∧ pure_whom.l0 (m + 1) ((List.range i).map fun (j : Nat) => sset (nm ms j)) (ms.length : Int) (i : Int) l0 l1 ms a3 = some ([], 2)) := by
  have hlen := hs.len
  intro m
  induction m with
  | zero =>
    intro i hi h
    obtain rfl : i = ms.length := by omega
    refine .inl ⟨h, ?_⟩
    rw [pure_whom.l0, if_neg (by omega)]
    rfl
  | succ m ih =>
    intro i hi h
    have hW := Whom_f (l0 := l0) (l1 := l1) (a3 := a3) hs (i : Int)
    rw [pure_whom.l0, if_pos (by omega)]
    by_cases hc : cl_ok ms.length (nm ms i) = true
    · rw [if_pos ⟨by omega, by omega, hc⟩] at hW
      rw [hW, Option.bind_some]
      have hw : wrap64 ((i : Int) + 1) = ((i + 1 : Nat) : Int) := by unfold wrap64; omega
      dsimp only
      rw [if_pos rfl, if_pos (by simp; omega), hw]
      have hr : ((List.range i).map fun (j : Nat) => sset (nm ms j)) ++ [sset (nm ms i)] = (List.range (i + 1)).map fun (j : Nat) => sset (nm ms j) := by rw [List.range_succ, List.map_append]; rfl
      rw [hr]
      exact ih (i + 1) (by omega) fun j hj => by
        by_cases e : j = i
        · subst e; exact hc
        · exact h j (by omega)
    · rw [if_neg (fun h2 => hc h2.2.2)] at hW
      rw [hW, Option.bind_some]
      exact .inr ⟨fun ho => hc (ho i (by omega)), rfl⟩
theorem pwhom_f (hs : Small ms) (k : Nat) (hk : 40 < k) : (okAll ms ∧ pure_whom.f k l0 l1 ms a3 = some (ws ms, 0)) ∨ (¬ okAll ms ∧ pure_whom.f k l0 l1 ms a3 = some ([], 2)) := by
  have hlen := hs.len
  rcases pwhom_l0 (l0 := l0) (l1 := l1) (a3 := a3) hs ms.length 0 (by omega) (fun _ h => absurd h (Nat.not_lt_zero _)) with ⟨h1, h2⟩ | ⟨h1, h2⟩
  · exact .inl ⟨h1, up (f := fun k => pure_whom.f k l0 l1 ms a3) (fun k => pure_whom.mono _ _ _ _ k) h2 k (by omega)⟩
  · exact .inr ⟨h1, up (f := fun k => pure_whom.f k l0 l1 ms a3) (fun k => pure_whom.mono _ _ _ _ k) h2 k (by omega)⟩
theorem ws_small (hs : Small ms) : (ws ms).all (fun l => decide (l.length ≤ 1000000)) = true := by
  refine List.all_eq_true.2 fun l hl => ?_
  obtain ⟨j, hj, rfl⟩ := List.mem_map.1 hl
  have hj := List.mem_range.1 hj
  have h1 := sset_len (nm ms j)
  have h2 : (nm ms j).length ≤ (rd_T52 ms j).f7.length := by unfold nm cl_names; rw [List.length_map]; exact List.length_filter_le _ _
  have h3 := hs.code j (by omega) (by omega)
  simp only [decide_eq_true_eq]
  omega
theorem ws_in (ho : okAll ms) : ∀ k : Int, 0 ≤ k → k < ((ws ms).length : Int) → ∀ x ∈ (ws ms).getD k.toNat [], 0 ≤ x ∧ x < ((ws ms).length : Int) := fun k h0 h1 x hx => (ws_ok ho k.toNat (by omega)).2 x hx
/-- The methods that aren't pure. -/
abbrev Impure (ms : List S52) (k : Int) : Prop := Bad (ws ms) (sto ms) k
theorem Pure_f (hs : Small ms) (k : Nat) (hk : 100000 < k) : (okAll ms ∧ ∃ o, pure_Pure.f k l0 l1 ms a3 = some (o, 0) ∧ o.length = ms.length ∧ ∀ j : Int, 0 ≤ j → j < (ms.length : Int) → (tr o j = false ↔ Impure ms j)) ∨ (¬ okAll ms ∧ pure_Pure.f k l0 l1 ms a3 = some ([], 2)) := by
  have hlen := hs.len
  rcases pwhom_f (l0 := l0) (l1 := l1) (a3 := a3) hs k (by omega) with ⟨ho, h⟩ | ⟨ho, h⟩
  · refine .inl ⟨ho, ?_⟩
    have hwl := ws_len (ms := ms)
    obtain ⟨q, o, h1, h2, h3, h4⟩ := pp_spec (whom := ws ms) (st := ppSt k ms) (s := sto ms) (ws_in ho) (by omega) (fun j j0 j1 => stores_f _ _ _ _ _ _ _ _ (hs.code j j0 (by omega)) k (by have := hs.code j j0 (by omega); omega)) k (by omega)
    refine ⟨o, ?_, by omega, fun j j0 j1 => h4 j j0 (by omega)⟩
    unfold pure_Pure.f
    rw [h, Option.bind_some]
    dsimp only
    rw [if_pos rfl, if_pos ⟨by omega, by omega, ws_small hs⟩]
    rw [hwl] at h1
    rw [hwl, h1, Option.bind_some]
    rw [hwl] at h2
    rw [h2]
    rfl
  · refine .inr ⟨ho, ?_⟩
    unfold pure_Pure.f
    rw [h, Option.bind_some]
    rfl
end S2
section S3

variable {l0 l1 : List S86} {ms : List S52} {a3 : Int}
def reads (ms : List S52) (j : Int) : Bool := (rd_T52 ms j).f3
/-- A method says well. -/
def WellAt (ms : List S52) (j : Int) : Prop := reads ms j = true → sto ms j = false ∧ ∀ x ∈ (ws ms).getD j.toNat [], reads ms x = true
def Well (ms : List S52) : Prop := ∀ j : Int, 0 ≤ j → j < (ms.length : Int) → WellAt ms j
theorem pcRow_f (hs : Small ms) (ho : okAll ms) (k : Nat) (hk : 100000 < k) : ∀ m i : Nat, m + i = ms.length → (∀ j : Int, 0 ≤ j → j < (i : Int) → WellAt ms j) → (Well ms ∧ pcRow (pcSt k ms) (ws ms) ms (m + 1) (i : Int) = some 0) ∨ (¬ Well ms ∧ pcRow (pcSt k ms) (ws ms) ms (m + 1) (i : Int) = some 130) := by
  have hlen := hs.len
  intro m
  induction m with
  | zero =>
    intro i hi h
    obtain rfl : i = ms.length := by omega
    exact .inl ⟨h, by rw [pcRow, if_neg (by omega)]⟩
  | succ m ih =>
    intro i hi h
    have hw : wrap64 ((i : Int) + 1) = ((i + 1 : Nat) : Int) := by unfold wrap64; omega
    have next : WellAt ms (i : Int) → (Well ms ∧ pcRow (pcSt k ms) (ws ms) ms (m + 1) ((i + 1 : Nat) : Int) = some 0) ∨ (¬ Well ms ∧ pcRow (pcSt k ms) (ws ms) ms (m + 1) ((i + 1 : Nat) : Int) = some 130) := fun hi2 => ih (i + 1) (by omega) fun j j0 j1 => by
      by_cases e : j = (i : Int)
      · rw [e]; exact hi2
      · exact h j j0 (by omega)
    rw [pcRow, if_pos (by omega), hw]
    by_cases hr : (rd_T52 ms (i : Int)).f3 = true
    · have hst : pcSt k ms (i : Int) = some (sto ms (i : Int)) := stores_f _ _ _ _ _ _ _ _ (hs.code (i : Int) (by omega) (by omega)) k (by have := hs.code (i : Int) (by omega) (by omega); omega)
      rw [if_pos hr, hst, Option.bind_some]
      cases hsto : sto ms (i : Int) with
      | true =>
        rw [if_pos rfl]
        exact .inr ⟨fun hW => (by have := (hW (i : Int) (by omega) (by omega) hr).1; rw [hsto] at this; cases this), rfl⟩
      | false =>
        have hin : pcIn ms.length ((ws ms).getD (i : Int).toNat []) = true := by
          refine List.all_eq_true.2 fun x hx => ?_
          have h1 := ws_in ho (i : Int) (by omega) (by rw [ws_len]; omega) x hx
          rw [ws_len] at h1
          simpa using h1
        rw [if_neg (by decide), if_pos hin]
        cases hany : ((ws ms).getD (i : Int).toNat []).any (pcLoud ms) with
        | true =>
          rw [if_pos rfl]
          refine .inr ⟨fun hW => ?_, rfl⟩
          obtain ⟨x, hx, hl⟩ := List.any_eq_true.1 hany
          have h1 := (hW (i : Int) (by omega) (by omega) hr).2 x hx
          have h2 : (!reads ms x) = true := hl
          rw [h1] at h2
          cases h2
        | false =>
          rw [if_neg (by decide)]
          refine next fun _ => ⟨hsto, fun x hx => ?_⟩
          have h1 := List.any_eq_false.1 hany x hx
          have h2 : ¬ (!reads ms x) = true := h1
          simpa using h2
    · rw [if_neg hr]
      exact next fun h2 => absurd h2 hr
theorem Check_f (hs : Small ms) (k : Nat) (hk : 100000 < k) : (okAll ms ∧ Well ms ∧ pure_Check.f k l0 l1 ms a3 = some 0) ∨ (okAll ms ∧ ¬ Well ms ∧ pure_Check.f k l0 l1 ms a3 = some 130) ∨ (¬ okAll ms ∧ pure_Check.f k l0 l1 ms a3 = some 2) := by
  have hlen := hs.len
  have hwl := ws_len (ms := ms)
  unfold pure_Check.f
  rcases pwhom_f (l0 := l0) (l1 := l1) (a3 := a3) hs k (by omega) with ⟨ho, h⟩ | ⟨ho, h⟩
  · rw [h, Option.bind_some]
    dsimp only
    rw [if_pos rfl, if_pos ⟨hwl, by omega, ws_small hs⟩]
    rcases pcRow_f hs ho k hk ms.length 0 (by omega) (fun j j0 j1 => by omega) with ⟨h1, h2⟩ | ⟨h1, h2⟩
    · exact .inl ⟨ho, h1, h2⟩
    · exact .inr (.inl ⟨ho, h1, h2⟩)
  · rw [h, Option.bind_some]
    exact .inr (.inr ⟨ho, rfl⟩)
/-! The chapter's examples. -/
def exP (a b c : Bool) (last : S70) : List S52 := [⟨[], [], 0, a, 0, 0, 0, [⟨30, 1, 0⟩]⟩, ⟨[], [], 0, b, 0, 0, 0, [⟨5, 0, 0⟩]⟩, ⟨[], [], 0, c, 0, 0, 0, [last]⟩]
theorem exP_small (a b c : Bool) (last : S70) : Small (exP a b c last) := by
  refine ⟨by simp [exP], fun j h0 h1 => ?_⟩
  simp [exP] at h1
  have : j = 0 ∨ j = 1 ∨ j = 2 := by omega
  rcases this with rfl | rfl | rfl <;> simp [exP, rd_T52]
theorem exP_ws (a b c : Bool) : ws (exP a b c ⟨0, 0, 0⟩) = [[1], [], []] := by
  show [sset (nm (exP a b c ⟨0, 0, 0⟩) 0), sset (nm (exP a b c ⟨0, 0, 0⟩) 1), sset (nm (exP a b c ⟨0, 0, 0⟩) 2)] = _
  rw [show nm (exP a b c ⟨0, 0, 0⟩) 0 = [1] from rfl, show nm (exP a b c ⟨0, 0, 0⟩) 1 = [] from rfl, show nm (exP a b c ⟨0, 0, 0⟩) 2 = [] from rfl, sset_rise (by decide), sset_rise (by decide)]
theorem exP_ok (a b c : Bool) : okAll (exP a b c ⟨0, 0, 0⟩) := by
  intro j hj
  have : j = 0 ∨ j = 1 ∨ j = 2 := by simp [exP] at hj; omega
  rcases this with rfl | rfl | rfl
  · show cl_ok 3 [1] = true; decide
  · show cl_ok 3 [] = true; decide
  · show cl_ok 3 [] = true; decide
end S3
end Go.Proofs.Ytkmnachdibhdhaa.M
