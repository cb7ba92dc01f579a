/- Layer 11 in plain terms: to whom a method leads (of calls_Leads.f, calls_Deep.f). -/
import Derived.Test.YtkmnachdibhdhaaS3
import Derived.Test.YtkmnachdibhdhaaS6
import Derived.Test.YtkmnachdibhdhaaS7
import Derived.Test.YtkmnachdibhdhaaLCalls2
namespace Go.Proofs.Ytkmnachdibhdhaa.M
open Go.RowKit Go.Proofs.Ytkmnachdibhdhaa.S Go.Proofs.YtkmnachdibhdhaaW.PrintWords Go.Proofs.YtkmnachdibhdhaaW.PrintLast Go.Proofs.YtkmnachdibhdhaaW.PrintMore

/-- One method leads to another one: it calls it, or one that leads to it. -/
inductive LeadsTo (whom : List (List Int)) (k : Int) : Int → Prop
  | one {x : Int} : x ∈ whom.getD k.toNat [] → LeadsTo whom k x
  | step {y x : Int} : LeadsTo whom k y → x ∈ whom.getD y.toNat [] → LeadsTo whom k x
def sumf {α : Type} (f : α → Nat) : List α → Nat
  | [] => 0
  | x :: t => f x + sumf f t
theorem sumf_append {α : Type} (f : α → Nat) (a b : List α) : sumf f (a ++ b) = sumf f a + sumf f b := by
  induction a with
  | nil => simp [sumf]
  | cons x t ih => simp only [List.cons_append, sumf, ih]; omega
theorem sumf_erase {f : Int → Nat} {l : List Int} {x : Int} (h : x ∈ l) : sumf f l = f x + sumf f (l.erase x) := by
  induction l with
  | nil => cases h
  | cons y t ih =>
    by_cases e : y = x
    · subst e; simp [sumf]
    · have h2 : x ∈ t := by rcases List.mem_cons.1 h with h | h; exact absurd h.symm e; exact h
      rw [List.erase_cons_tail (by simpa using e)]
      simp only [sumf]
      rw [ih h2]
      omega
theorem sumf_sub {f : Int → Nat} {a : List Int} : ∀ {b : List Int}, a.Nodup → (∀ x ∈ a, x ∈ b) → sumf f a ≤ sumf f b := by
  induction a with
  | nil => intro b _ _; exact Nat.zero_le _
  | cons x s ih =>
    intro b ha h
    obtain ⟨h1, h2⟩ := List.nodup_cons.1 ha
    have hx := h x (List.mem_cons_self ..)
    have := ih (b := b.erase x) h2 fun y hy => (List.mem_erase_of_ne (by rintro rfl; exact h1 hy)).2 (h y (List.mem_cons_of_mem _ hy))
    rw [sumf_erase hx]
    simp only [sumf]
    omega
def pos : List Int → Int → Nat
  | [], _ => 0
  | y :: t, x => if y = x then 0 else pos t x + 1
theorem pos_le {o : List Int} {x : Int} : ∀ {i : Nat}, o[i]? = some x → pos o x ≤ i := by
  induction o with
  | nil => intro i h; simp at h
  | cons y t ih =>
    intro i h
    unfold pos
    by_cases e : y = x
    · rw [if_pos e]; exact Nat.zero_le _
    · rw [if_neg e]
      cases i with
      | zero => exact absurd (by simpa using h) e
      | succ i => have := ih (i := i) (by simpa using h); omega
theorem pos_get {o : List Int} {x : Int} (h : x ∈ o) : o[pos o x]? = some x := by
  induction o with
  | nil => cases h
  | cons y t ih =>
    unfold pos
    by_cases e : y = x
    · rw [if_pos e, e]; rfl
    · rw [if_neg e]
      rcases List.mem_cons.1 h with h | h
      · exact absurd h.symm e
      · simpa using ih h
theorem pow_sum {p : Int → Nat} : ∀ (m : Nat) (l : List Int), l.Nodup → (∀ x ∈ l, p x < m) → (∀ x ∈ l, ∀ y ∈ l, p x = p y → x = y) → sumf (fun x => 2 ^ p x) l < 2 ^ m := by
  intro m
  induction m with
  | zero =>
    intro l _ h _
    cases l with
    | nil => simp [sumf]
    | cons x t => exact absurd (h x (List.mem_cons_self ..)) (Nat.not_lt_zero _)
  | succ m ih =>
    intro l hn h hi
    rw [Nat.pow_succ]
    by_cases hex : ∃ x ∈ l, p x = m
    · obtain ⟨x, hx, hp⟩ := hex
      have := ih (l.erase x) (hn.erase x) (fun y hy => by
        have hy2 := List.mem_of_mem_erase hy
        have h1 := h y hy2
        have h2 : p y ≠ m := fun e => by
          have := hi y hy2 x hx (e.trans hp.symm)
          subst this
          exact (List.Nodup.mem_erase_iff hn).1 hy |>.1 rfl
        omega) (fun a ha b hb => hi a (List.mem_of_mem_erase ha) b (List.mem_of_mem_erase hb))
      rw [sumf_erase hx, hp]
      omega
    · have := ih l hn (fun y hy => by have := h y hy; have h2 : p y ≠ m := fun e => hex ⟨y, hy, e⟩; omega) hi
      omega
theorem sumf_pred (p : Int → Nat) (l : List Int) : sumf (fun x => 2 ^ p x - 1) l + l.length = sumf (fun x => 2 ^ p x) l := by
  induction l with
  | nil => rfl
  | cons x t ih =>
    simp only [sumf, List.length_cons]
    have := Nat.one_le_two_pow (n := p x)
    omega
section
variable {whom : List (List Int)} {o : List Int}
theorem pos_call (hO : Ord whom o) {z x : Int} (h0 : 0 ≤ z) (h1 : z < (whom.length : Int)) (hx : x ∈ whom.getD z.toNat []) : pos o x < pos o z := by
  have hz := hO.all z h0 h1
  have hb := hO.inv.behind _ z (pos_get hz) x hx
  obtain ⟨j, hj, e⟩ := List.mem_iff_getElem.1 hb
  have hj2 : j < pos o z := by simp at hj; omega
  have := pos_le (o := o) (x := x) (i := j) (by rw [← e, List.getElem_take]; exact List.getElem?_eq_getElem _)
  omega
theorem ld_spec (hw : WhomOk whom) (hO : Ord whom o) (hn : whom.length ≤ 40) (wf : Int → Option (List Int × Int)) (hwf : ∀ z : Int, 0 ≤ z → z < (whom.length : Int) → wf z = some (whom.getD z.toNat [], 0)) (k : Int) (hk : 0 ≤ k ∧ k < (whom.length : Int)) :
    ∀ (N : Nat) (todo out : List Int), sumf (fun x => 2 ^ pos o x) todo ≤ N → todo.Nodup → (∀ x ∈ todo, 0 ≤ x ∧ x < (whom.length : Int)) → (∀ x ∈ todo, x = k ∨ LeadsTo whom k x) → (∀ x ∈ out, LeadsTo whom k x) →
      (∀ y, (y = k ∨ y ∈ out) → y ∈ todo ∨ ∀ x ∈ whom.getD y.toNat [], x ∈ out) → out.length + sumf (fun x => 2 ^ pos o x - 1) todo ≤ 8796093022208 →
      ∃ r, ldLoop wf (N + 1) todo out = some r ∧ ∀ x, x ∈ r ↔ LeadsTo whom k x := by
  intro N
  induction N with
  | zero =>
    intro todo out hN _ _ _ hout hcl _
    cases todo with
    | cons x t =>
      simp only [sumf] at hN
      have := Nat.one_le_two_pow (n := pos o x)
      omega
    | nil =>
      refine ⟨out, by rw [ldLoop], fun x => ⟨hout x, fun h => ?_⟩⟩
      induction h with
      | one h => rcases hcl k (.inl rfl) with h2 | h2; cases h2; exact h2 _ h
      | step _ h ih => rcases hcl _ (.inr ih) with h2 | h2; cases h2; exact h2 _ h
  | succ N ih =>
    intro todo out hN hnd hrg htd hout hcl hbd
    cases todo with
    | nil =>
      refine ⟨out, by rw [ldLoop], fun x => ⟨hout x, fun h => ?_⟩⟩
      induction h with
      | one h => rcases hcl k (.inl rfl) with h2 | h2; cases h2; exact h2 _ h
      | step _ h ih => rcases hcl _ (.inr ih) with h2 | h2; cases h2; exact h2 _ h
    | cons x t =>
      obtain ⟨hx0, hx1⟩ := hrg x (List.mem_cons_self ..)
      obtain ⟨hnx, hnt⟩ := List.nodup_cons.1 hnd
      obtain ⟨hWn, hWr⟩ := hw x.toNat (by omega)
      generalize hW : whom.getD x.toNat [] = W at *
      have hWp : ∀ y ∈ W, pos o y < pos o x := fun y hy => pos_call hO hx0 hx1 (by rw [hW]; exact hy)
      have hsum : sumf (fun y => 2 ^ pos o y) W < 2 ^ pos o x := pow_sum _ W hWn hWp fun a ha b hb e => by
        have h1 := pos_get (hO.all a (hWr a ha).1 (hWr a ha).2)
        have h2 := pos_get (hO.all b (hWr b hb).1 (hWr b hb).2)
        rw [e, h2] at h1
        injection h1 with h1; exact h1.symm
      have hpre := sumf_pred (pos o) W
      have hss : ∀ f : Int → Nat, sumf f (sset (t ++ W)) ≤ sumf f t + sumf f W := fun f => by
        rw [← sumf_append]; exact sumf_sub (sset_nodup _) fun y hy => mem_sset.1 hy
      have hlenof : ∀ l : List Int, l.Nodup → (∀ y ∈ l, 0 ≤ y ∧ y < (whom.length : Int)) → l.length ≤ 40 := fun l h1 h2 => by
        have := nodup_sub (b := o) h1 fun y hy => hO.all y (h2 y hy).1 (h2 y hy).2
        have := hO.length
        omega
      have htl := hlenof t hnt fun y hy => hrg y (List.mem_cons_of_mem _ hy)
      have hWl := hlenof W hWn hWr
      have hone := Nat.one_le_two_pow (n := pos o x)
      simp only [sumf] at hN hbd
      have hwx := hwf x hx0 hx1
      rw [hW] at hwx
      have hmem : ∀ y, y ∈ sset (t ++ W) ↔ y ∈ t ∨ y ∈ W := fun y => by rw [mem_sset, List.mem_append]
      have hxr : x = k ∨ LeadsTo whom k x := htd x (List.mem_cons_self ..)
      have hWreach : ∀ y ∈ W, LeadsTo whom k y := fun y hy => by
        rcases hxr with e | e
        · subst e; exact .one (by rw [hW]; exact hy)
        · exact .step e (by rw [hW]; exact hy)
      have h1 := hss (fun y => 2 ^ pos o y)
      have h2 := hss (fun y => 2 ^ pos o y - 1)
      rw [ldLoop, hwx, Option.bind_some, if_pos ⟨by dsimp only; omega, by dsimp only; omega⟩]
      refine ih (sset (t ++ W)) (out ++ W) (by omega) (sset_nodup _) (fun y hy => ?_) (fun y hy => ?_) (fun y hy => ?_) (fun y hy => ?_) (by rw [List.length_append]; omega)
      · rcases (hmem y).1 hy with h | h
        · exact hrg y (List.mem_cons_of_mem _ h)
        · exact hWr y h
      · rcases (hmem y).1 hy with h | h
        · exact htd y (List.mem_cons_of_mem _ h)
        · exact .inr (hWreach y h)
      · rcases List.mem_append.1 hy with h | h
        · exact hout y h
        · exact hWreach y h
      · have old : (y = k ∨ y ∈ out) → y ∈ sset (t ++ W) ∨ ∀ x ∈ whom.getD y.toNat [], x ∈ out ++ W := fun h => by
          rcases hcl y h with h2 | h2
          · rcases List.mem_cons.1 h2 with e | h2
            · subst e; exact .inr fun z hz => List.mem_append_right _ (by rw [hW] at hz; exact hz)
            · exact .inl ((hmem y).2 (.inl h2))
          · exact .inr fun z hz => List.mem_append_left _ (h2 z hz)
        rcases hy with e | hy
        · exact old (.inl e)
        · rcases List.mem_append.1 hy with h | h
          · exact old (.inr h)
          · exact .inl ((hmem y).2 (.inr h))
end
section
variable {l0 l1 : List S86} {ms : List S52} {a3 : Int}
theorem Leads_f (hs : Small ms) (ho : okAll ms) {o : List Int} (h : calls_Order.f 41 l0 l1 ms a3 = some (o, 0)) (hO : Ord (ws ms) o) (k : Int) (hk : 0 ≤ k ∧ k < (ms.length : Int)) : ∃ q l, calls_Leads.f q l0 l1 ms a3 k = some (l, 0) ∧ l.Pairwise (fun a b => a < b) ∧ ∀ x, x ∈ l ↔ LeadsTo (ws ms) k x := by
  have hlen := hs.len
  have hp : pos o k < 41 := by
    have := pos_get (hO.all k hk.1 (by rw [ws_len]; exact hk.2))
    have := (List.getElem?_eq_some_iff.1 this).1
    have := hO.length
    rw [ws_len] at this
    omega
  have hpw : 2 ^ pos o k ≤ 2 ^ 40 := Nat.pow_le_pow_right (by omega) (by omega)
  obtain ⟨r, hr, hm⟩ := ld_spec (ws_ok ho) hO (by rw [ws_len]; exact hlen) (calls_Whom.f l0 l1 ms a3) (fun z h0 h1 => by
    rw [ws_len] at h1
    rw [Whom_f hs, ws_get ms z.toNat (by omega), Int.toNat_of_nonneg h0, if_pos]
    have := ho z.toNat (by omega)
    rw [Int.toNat_of_nonneg h0] at this
    exact ⟨h0, h1, this⟩) k (by rw [ws_len]; exact hk) (2 ^ 40) [k] [] (by simp only [sumf]; omega) (by simp) (fun x hx => by rw [List.mem_singleton.1 hx, ws_len]; exact hk) (fun x hx => .inl (List.mem_singleton.1 hx)) (fun x hx => absurd hx List.not_mem_nil)
    (fun y hy => by rcases hy with rfl | hy; exact .inl (List.mem_cons_self ..); cases hy) (by simp only [sumf, List.length_nil]; omega)
  refine ⟨2 ^ 40 + 1, sset r, ?_, sset_sorted _, fun x => by rw [mem_sset]; exact hm x⟩
  unfold calls_Leads.f calls_Check.f
  rw [up (f := fun k => calls_Order.f k l0 l1 ms a3) (fun k => calls_Order.mono _ _ _ _ k) h (2 ^ 40 + 1) (by omega), Option.bind_some, Option.bind_some, if_pos rfl, if_pos hk, hr]
  rfl
end
end Go.Proofs.Ytkmnachdibhdhaa.M
