/- Layer 11 in plain terms: sorted sets of numbers; lists without doubles. Layer 11 in plain terms: the order of the methods (of calls_Whom.f). Layer 11 in plain terms: what Whom, Order, Check, Deep tell of a module (of calls_Whom.f). Layer 11 in plain terms: layer 8's guard (of capstanlaw08_Great.f). Layer 11 in plain terms: the reference's Whom (of capstanref11_has.f, capstanref11_calls.f, capstanref11_Whom.f). -/
import Derived.Test.YtkmnachdibhdhaaU3
import Derived.Test.YtkmnachdibhdhaaU5
import Derived.Test.YtkmnachdibhdhaaU6
import Derived.Test.YtkmnachdibhdhaaU9
namespace Go.Proofs.Ytkmnachdibhdhaa.M
open Go.RowKit Go.Proofs.Ytkmnachdibhdhaa.U Go.Proofs.YtkmnachdibhdhaaW.PrintWords Go.Proofs.YtkmnachdibhdhaaW.PrintLast Go.Proofs.YtkmnachdibhdhaaW.PrintMore

section S1

/-- The numbers of a row, each once, in rising order. -/
def sset (l : List Int) : List Int := Lib.compact (l.mergeSort fun x y => decide (x ≤ y))
theorem keeps_iff (zs : List Int) (m : Nat) (h : m < zs.length) : Lib.keeps zs.toArray m = true ↔ m = 0 ∨ zs.getD m 0 ≠ zs.getD (m - 1) 0 := by
  have h1 : zs.toArray[m]! = zs.getD m 0 := by simp [h]
  have h2 : zs.toArray[m - 1]! = zs.getD (m - 1) 0 := by simp [show m - 1 < zs.length by omega]
  by_cases h0 : m = 0
  · subst h0; simp [Lib.keeps]
  · unfold Lib.keeps
    rw [h1, h2]
    simp [h0]
theorem upto_spec (zs : List Int) (hs : zs.Pairwise fun a b => a ≤ b) : ∀ m, m ≤ zs.length → (Lib.compactUpTo zs.toArray m).Pairwise (fun a b => a < b) ∧ ∀ x, x ∈ Lib.compactUpTo zs.toArray m ↔ ∃ j, j < m ∧ zs.getD j 0 = x := by
  intro m
  induction m with
  | zero => intro _; exact ⟨by simp [Lib.compactUpTo], fun x => by simp [Lib.compactUpTo]⟩
  | succ m ih =>
    intro hm
    obtain ⟨h1, h2⟩ := ih (by omega)
    have hd : zs.toArray[m]! = zs.getD m 0 := by simp [show m < zs.length by omega]
    have hle : ∀ i j, i < j → j < zs.length → zs.getD i 0 ≤ zs.getD j 0 := by
      intro i j hij hj
      have := List.pairwise_iff_getElem.1 hs i j (by omega) hj hij
      simpa [List.getD_eq_getElem?_getD, show i < zs.length by omega, hj] using this
    rw [Lib.compactUpTo_succ, hd]
    cases hk : Lib.keeps zs.toArray m with
    | true =>
      rw [if_pos rfl]
      have hk2 := (keeps_iff zs m (by omega)).1 hk
      refine ⟨List.pairwise_append.2 ⟨h1, List.pairwise_singleton .., fun a ha b hb => ?_⟩, fun x => ?_⟩
      · rw [List.mem_singleton] at hb
        subst hb
        obtain ⟨j, hj, rfl⟩ := (h2 a).1 ha
        have hm0 : m ≠ 0 := by omega
        have h5 : zs.getD (m - 1) 0 ≤ zs.getD m 0 := hle (m - 1) m (by omega) (by omega)
        have h6 : zs.getD j 0 ≤ zs.getD (m - 1) 0 := by
          by_cases e : j = m - 1
          · rw [e]; exact Int.le_refl _
          · exact hle j (m - 1) (by omega) (by omega)
        rcases hk2 with h | h
        · exact absurd h hm0
        · omega
      · rw [List.mem_append, h2, List.mem_singleton]
        constructor
        · rintro (⟨j, hj, h⟩ | h)
          · exact ⟨j, by omega, h⟩
          · exact ⟨m, by omega, h.symm⟩
        · rintro ⟨j, hj, h⟩
          by_cases e : j = m
          · subst e; exact .inr h.symm
          · exact .inl ⟨j, by omega, h⟩
    | false =>
      rw [if_neg (by decide), List.append_nil]
      refine ⟨h1, fun x => ?_⟩
      have hk2 : ¬ (m = 0 ∨ zs.getD m 0 ≠ zs.getD (m - 1) 0) := fun h => by rw [(keeps_iff zs m (by omega)).2 h] at hk; cases hk
      rw [h2]
      constructor
      · rintro ⟨j, hj, h⟩; exact ⟨j, by omega, h⟩
      · rintro ⟨j, hj, h⟩
        by_cases e : j = m
        · subst e
          refine ⟨j - 1, by omega, ?_⟩
          have : zs.getD j 0 = zs.getD (j - 1) 0 := Decidable.byContradiction fun h => hk2 (.inr h)
          rw [← this]; exact h
        · exact ⟨j, by omega, h⟩
theorem sort_sorted (l : List Int) : (l.mergeSort fun x y => decide (x ≤ y)).Pairwise fun a b => a ≤ b := by
  have := List.pairwise_mergeSort (le := fun x y : Int => decide (x ≤ y)) (fun a b c h1 h2 => by simp at *; omega) (fun a b => by simp; omega) l
  exact this.imp fun h => by simpa using h
theorem sset_spec (l : List Int) : (sset l).Pairwise (fun a b => a < b) ∧ ∀ x, x ∈ sset l ↔ x ∈ l := by
  obtain ⟨h1, h2⟩ := upto_spec _ (sort_sorted l) _ (Nat.le_refl _)
  refine ⟨h1, fun x => ?_⟩
  rw [← List.mem_mergeSort (l := l) (le := fun x y => decide (x ≤ y))]
  refine (h2 x).trans ?_
  rw [List.mem_iff_getElem]
  generalize (l.mergeSort fun x y => decide (x ≤ y)) = zs
  constructor
  · rintro ⟨j, hj, h⟩; exact ⟨j, hj, by rw [← h]; simp [hj]⟩
  · rintro ⟨j, hj, h⟩; exact ⟨j, hj, by rw [← h]; simp [hj]⟩
theorem sset_sorted (l : List Int) : (sset l).Pairwise fun a b => a < b := (sset_spec l).1
theorem mem_sset {l : List Int} {x : Int} : x ∈ sset l ↔ x ∈ l := (sset_spec l).2 x
theorem sset_nodup (l : List Int) : (sset l).Nodup := (sset_sorted l).imp fun h => by omega
/-- Rising rows of the same numbers are the same row. -/
theorem rise_ext : ∀ {a b : List Int}, a.Pairwise (fun x y => x < y) → b.Pairwise (fun x y => x < y) → (∀ x, x ∈ a ↔ x ∈ b) → a = b := by
  intro a
  induction a with
  | nil => intro b _ _ h; cases b with
    | nil => rfl
    | cons y t => exact absurd ((h y).2 (List.mem_cons_self ..)) (List.not_mem_nil)
  | cons x s ih =>
    intro b ha hb h
    cases b with
    | nil => exact absurd ((h x).1 (List.mem_cons_self ..)) (List.not_mem_nil)
    | cons y t =>
      obtain ⟨ha1, ha2⟩ := List.pairwise_cons.1 ha
      obtain ⟨hb1, hb2⟩ := List.pairwise_cons.1 hb
      have hxy : x = y := by
        have h1 := (h x).1 (List.mem_cons_self ..)
        have h2 := (h y).2 (List.mem_cons_self ..)
        rcases List.mem_cons.1 h1 with e | h1
        · exact e
        · rcases List.mem_cons.1 h2 with e | h2
          · exact e.symm
          · have := ha1 _ h2; have := hb1 _ h1; omega
      subst hxy
      congr 1
      refine ih ha2 hb2 fun z => ?_
      have hz := h z
      rw [List.mem_cons, List.mem_cons] at hz
      constructor
      · intro hm
        rcases hz.1 (.inr hm) with e | h
        · subst e; have := ha1 _ hm; omega
        · exact h
      · intro hm
        rcases hz.2 (.inr hm) with e | h
        · subst e; have := hb1 _ hm; omega
        · exact h
theorem sset_rise {l : List Int} (h : l.Pairwise fun a b => a < b) : sset l = l := rise_ext (sset_sorted l) h fun _ => mem_sset
theorem sset_same {l m : List Int} (h : ∀ x, x ∈ l ↔ x ∈ m) : sset l = sset m := rise_ext (sset_sorted l) (sset_sorted m) fun x => by rw [mem_sset, mem_sset]; exact h x
theorem sset_len (l : List Int) : (sset l).length ≤ l.length := by
  unfold sset Lib.compact Lib.compactUpTo
  rw [List.length_map]
  refine Nat.le_trans (List.length_filter_le _ _) ?_
  simp
theorem nodup_sub {a : List Int} : ∀ {b : List Int}, a.Nodup → (∀ x ∈ a, x ∈ b) → a.length ≤ b.length := by
  induction a with
  | nil => intro b _ _; exact Nat.zero_le _
  | cons x s ih =>
    intro b ha h
    obtain ⟨h1, h2⟩ := List.nodup_cons.1 ha
    have hx := h x (List.mem_cons_self ..)
    have := ih (b := b.erase x) h2 fun y hy => (List.mem_erase_of_ne (by rintro rfl; exact h1 hy)).2 (h y (List.mem_cons_of_mem _ hy))
    rw [List.length_erase_of_mem hx] at this
    have hp : 0 < b.length := List.length_pos_of_mem hx
    rw [List.length_cons]; omega
theorem nodup_back {a b : List Int} (ha : a.Nodup) (h : ∀ x ∈ a, x ∈ b) (hl : b.length ≤ a.length) : ∀ y ∈ b, y ∈ a := by
  intro y hy
  refine Decidable.byContradiction fun hn => ?_
  have := nodup_sub (a := y :: a) (b := b) (List.nodup_cons.2 ⟨hn, ha⟩) (by
    intro x hx
    rcases List.mem_cons.1 hx with rfl | hx
    · exact hy
    · exact h x hx)
  rw [List.length_cons] at this
  omega
end S1
section S2

/-- Whom each calls: numbers of methods, none twice. -/
def WhomOk (whom : List (List Int)) : Prop := ∀ z : Nat, z < whom.length → (whom.getD z []).Nodup ∧ ∀ x ∈ whom.getD z [], 0 ≤ x ∧ x < (whom.length : Int)
end S2
section S3

theorem up {α : Type} {f : Nat → Option α} (hm : ∀ k, LeO (f k) (f (k + 1))) {k0 : Nat} {r : α} (h : f k0 = some r) (k : Nat) (hk : k0 ≤ k) : f k = some r := by
  obtain ⟨m, rfl⟩ : ∃ m, k = k0 + m := ⟨k - k0, by omega⟩
  clear hk
  induction m with
  | zero => exact h
  | succ m ih => exact hm _ _ ih
/-- The methods that a method's code names. -/
def nm (ms : List S52) (j : Int) : List Int := cl_names (rd_T52 ms j).f7
/-- Whom each method calls. -/
def ws (ms : List S52) : List (List Int) := (List.range ms.length).map fun (j : Nat) => sset (nm ms j)
def okAll (ms : List S52) : Prop := ∀ j : Nat, j < ms.length → cl_ok ms.length (nm ms j) = true
/-- No module that is too long to be told. -/
structure Small (ms : List S52) : Prop where
  len : ms.length ≤ 40
  code : ∀ j : Int, 0 ≤ j → j < (ms.length : Int) → (rd_T52 ms j).f7.length ≤ 100000
theorem ws_len (ms : List S52) : (ws ms).length = ms.length := by simp [ws]
theorem ws_get (ms : List S52) (j : Nat) (h : j < ms.length) : (ws ms).getD j [] = sset (nm ms j) := by
  unfold ws
  simp [h]
theorem cl_ok_mem {n : Int} {l : List Int} : cl_ok n l = true ↔ ∀ x ∈ l, 0 ≤ x ∧ x < n := by
  unfold cl_ok
  rw [List.all_eq_true]
  exact ⟨fun h x hx => by simpa using h x hx, fun h x hx => by simpa using h x hx⟩
theorem ws_ok {ms : List S52} (h : okAll ms) : WhomOk (ws ms) := by
  intro z hz
  rw [ws_len] at hz
  rw [ws_get ms z hz, ws_len]
  exact ⟨sset_nodup _, fun x hx => cl_ok_mem.1 (h z hz) x (mem_sset.1 hx)⟩
variable {l0 l1 : List S86} {ms : List S52} {a3 : Int}
theorem Whom_f (hs : Small ms) (j : Int) : calls_Whom.f l0 l1 ms a3 j = some (if 0 ≤ j ∧ j < (ms.length : Int) ∧ cl_ok ms.length (nm ms j) = true then (sset (nm ms j), 0) else ([], 2)) := by
  unfold calls_Whom.f
  by_cases h : 0 ≤ j ∧ j < (ms.length : Int)
  · rw [if_pos h, if_pos (hs.code j h.1 h.2)]
    change (if cl_ok ms.length (nm ms j) = true then some (sset (nm ms j), 0) else some ([], 2)) = _
    by_cases hc : cl_ok ms.length (nm ms j) = true
    · rw [if_pos hc, if_pos ⟨h.1, h.2, hc⟩]
    · rw [if_neg hc, if_neg (fun h2 => hc h2.2.2)]
  · rw [if_neg h, if_neg (fun h2 => h ⟨h2.1, h2.2.1⟩)]
end S3
section S4

section
variable {l0 l1 : List S86} {ms : List S52} {a3 : Int}
theorem great_l0 (hn : ms.length ≤ 40) : ∀ m i : Nat, i + m = ms.length → capstanlaw08_Great.l0 (m + 1) (i : Int) l0 l1 ms a3 = some true ∨ (capstanlaw08_Great.l0 (m + 1) (i : Int) l0 l1 ms a3 = some false ∧ ∀ j : Int, (i : Int) ≤ j → j < (ms.length : Int) → (rd_T52 ms j).f7.length ≤ 300) := by
  intro m
  induction m with
  | zero =>
    intro i hi
    rw [capstanlaw08_Great.l0, if_neg (by omega)]
    exact .inr ⟨rfl, fun j h1 h2 => by omega⟩
  | succ m ih =>
    intro i hi
    have hw : wrap64 ((i : Int) + 1) = ((i + 1 : Nat) : Int) := by unfold wrap64; omega
    rw [capstanlaw08_Great.l0, if_pos (by omega), if_pos (by omega), hw]
    obtain ⟨b, hb⟩ : ∃ b, capstanlaw07_Great.f (rd_T52 ms i).f0 (rd_T52 ms i).f1 (rd_T52 ms i).f2 (rd_T52 ms i).f3 (rd_T52 ms i).f4 (rd_T52 ms i).f5 (rd_T52 ms i).f6 (rd_T52 ms i).f7 = some b := by
      unfold capstanlaw07_Great.f
      split
      · exact ⟨_, rfl⟩
      · exact ⟨_, rfl⟩
    rw [hb, Option.bind_some]
    cases b
    · rw [if_neg (by decide)]
      by_cases hc : ((rd_T52 ms i).f7.length : Int) > 300
      · rw [if_pos hc]; exact .inl rfl
      · rw [if_neg hc]
        rcases ih (i + 1) (by omega) with h | ⟨h, h2⟩
        · exact .inl h
        · refine .inr ⟨h, fun j h3 h4 => ?_⟩
          by_cases e : j = (i : Int)
          · subst e; omega
          · exact h2 j (by omega) h4
    · rw [if_pos rfl]; exact .inl rfl
theorem great_f : capstanlaw08_Great.f 60 l0 l1 ms a3 = some true ∨ (capstanlaw08_Great.f 60 l0 l1 ms a3 = some false ∧ Small ms ∧ l0.length ≤ 100 ∧ l1.length ≤ 100 ∧ ∀ j : Int, 0 ≤ j → j < (ms.length : Int) → (rd_T52 ms j).f7.length ≤ 300) := by
  unfold capstanlaw08_Great.f
  have ht : capstanlaw08_Great.j0 60 true l0 l1 ms a3 = some true := by rw [capstanlaw08_Great.j0, if_pos rfl]
  by_cases h0 : (l0.length : Int) > 100
  · rw [if_pos h0]; exact .inl ht
  · rw [if_neg h0]
    by_cases h1 : (l1.length : Int) > 100
    · rw [if_pos h1]; exact .inl ht
    · rw [if_neg h1]
      by_cases h2 : (ms.length : Int) > 40
      · rw [decide_eq_true h2]; exact .inl ht
      · rw [decide_eq_false h2, capstanlaw08_Great.j0, if_neg (by decide)]
        have hu : ∀ r, capstanlaw08_Great.l0 (ms.length + 1) ((0 : Nat) : Int) l0 l1 ms a3 = some r → capstanlaw08_Great.l0 59 0 l0 l1 ms a3 = some r := fun r h =>
          up (f := fun k => capstanlaw08_Great.l0 k 0 l0 l1 ms a3) (fun k => (capstanlaw08_Great.mono_l k).2 _ _ _ _ _) h 59 (by omega)
        rcases great_l0 (l0 := l0) (l1 := l1) (a3 := a3) (show ms.length ≤ 40 by omega) ms.length 0 (by omega) with h | ⟨h, h3⟩
        · exact .inl (hu _ h)
        · exact .inr ⟨hu _ h, ⟨by omega, fun j h4 h5 => by have := h3 j h4 h5; omega⟩, by omega, by omega, fun j h4 h5 => h3 j h4 h5⟩
end
end S4
section S5

theorem names_drop (c : List S70) (i : Nat) (h : i < c.length) : cl_names (c.drop i) = (if (rd_T70 c (i : Int)).f0 = 30 then [(rd_T70 c (i : Int)).f1] else []) ++ cl_names (c.drop (i + 1)) := by
  have hr : rd_T70 c (i : Int) = c[i] := by simp [rd_T70, h]
  rw [hr, List.drop_eq_getElem_cons h]
  unfold cl_names
  rw [List.filter_cons]
  by_cases e : c[i].f0 = 30
  · simp [e]
  · simp [e]
theorem rcalls_l0 (b1 b2 : List Int) (b3 : Int) (b4 : Bool) (b5 b6 b7 : Int) (c : List S70) (x : Int) (hl : c.length ≤ 1000000) : ∀ q i : Nat, i + q = c.length → capstanref11_calls.l0 (q + 1) x (i : Int) b1 b2 b3 b4 b5 b6 b7 c = some ((cl_names (c.drop i)).contains x) := by
  intro q
  induction q with
  | zero =>
    intro i hi
    rw [capstanref11_calls.l0, if_neg (by omega), List.drop_eq_nil_of_le (by omega)]
    rfl
  | succ q ih =>
    intro i hi
    have hil : i < c.length := by omega
    have hw : wrap64 ((i : Int) + 1) = ((i + 1 : Nat) : Int) := by unfold wrap64; omega
    rw [capstanref11_calls.l0, if_pos (by omega), if_pos (by omega), names_drop c i hil, hw, ih (i + 1) (by omega)]
    by_cases h : (rd_T70 c (i : Int)).f0 = 30
    · rw [if_pos h, if_pos h]
      by_cases h2 : (rd_T70 c (i : Int)).f1 = x
      · rw [if_pos h2, h2]; simp
      · rw [if_neg h2, List.singleton_append, List.contains_cons, show (x == (rd_T70 c (i : Int)).f1) = false from by simpa using Ne.symm h2, Bool.false_or]
    · rw [if_neg h, if_neg h, List.nil_append]
theorem rcalls_f (b1 b2 : List Int) (b3 : Int) (b4 : Bool) (b5 b6 b7 : Int) (c : List S70) (x : Int) (hl : c.length ≤ 1000000) (k : Nat) (hk : c.length < k) : capstanref11_calls.f k b1 b2 b3 b4 b5 b6 b7 c x = some ((cl_names c).contains x) :=
  up (f := fun k => capstanref11_calls.f k b1 b2 b3 b4 b5 b6 b7 c x) (fun k => capstanref11_calls.mono _ _ _ _ _ _ _ _ _ k) (k0 := c.length + 1) (rcalls_l0 b1 b2 b3 b4 b5 b6 b7 c x hl c.length 0 (by omega)) k (by omega)
section
variable {l0 l1 : List S86} {ms : List S52} {a3 : Int}
/-- The numbers below a bound that are so. -/
def below (n : Nat) (p : Int → Bool) : List Int := ((List.range n).map fun (j : Nat) => (j : Int)).filter p
theorem below_succ (n : Nat) (p : Int → Bool) : below (n + 1) p = below n p ++ (if p (n : Int) = true then [(n : Int)] else []) := by
  unfold below
  rw [List.range_succ, List.map_append, List.filter_append]
  by_cases h : p (n : Int) = true
  · simp [h]
  · simp [h]
theorem below_rise (n : Nat) (p : Int → Bool) : (below n p).Pairwise fun a b => a < b := by
  unfold below
  refine List.Pairwise.filter _ ?_
  rw [List.pairwise_map]
  exact List.pairwise_lt_range.imp fun h => by omega
theorem mem_below {n : Nat} {p : Int → Bool} {x : Int} : x ∈ below n p ↔ (0 ≤ x ∧ x < (n : Int)) ∧ p x = true := by
  unfold below
  rw [List.mem_filter, List.mem_map]
  constructor
  · rintro ⟨⟨k, hk, rfl⟩, h⟩
    rw [List.mem_range] at hk
    exact ⟨by omega, h⟩
  · rintro ⟨h, h2⟩
    exact ⟨⟨x.toNat, by rw [List.mem_range]; omega, by omega⟩, h2⟩
theorem below_len (n : Nat) (p : Int → Bool) : (below n p).length ≤ n := by
  unfold below
  have := List.length_filter_le p ((List.range n).map fun (j : Nat) => (j : Int))
  rw [List.length_map, List.length_range] at this
  exact this
section
variable (b1 b2 : List Int) (b3 : Int) (b4 : Bool) (b5 b6 b7 : Int) (c : List S70) (hc : c.length ≤ 1000000)
include hc
theorem rW_l1 (hn : ms.length ≤ 40) : ∀ q i : Nat, i + q = ms.length → ∀ k, c.length + 2 + q ≤ k →
    capstanref11_Whom.l1 k (below i fun x => (cl_names c).contains x) (i : Int) l0 l1 ms a3 b1 b2 b3 b4 b5 b6 b7 c = some (below ms.length fun x => (cl_names c).contains x, 0) := by
  intro q
  induction q with
  | zero =>
    intro i hi k hk
    obtain ⟨k, rfl⟩ : ∃ k', k = k' + 1 := ⟨k - 1, by omega⟩
    obtain rfl : i = ms.length := by omega
    rw [capstanref11_Whom.l1, if_neg (by omega)]
  | succ q ih =>
    intro i hi k hk
    obtain ⟨k, rfl⟩ : ∃ k', k = k' + 1 := ⟨k - 1, by omega⟩
    have hw : wrap64 ((i : Int) + 1) = ((i + 1 : Nat) : Int) := by unfold wrap64; omega
    have hb := below_len i fun x => (cl_names c).contains x
    have h2 := ih (i + 1) (by omega) k (by omega)
    rw [below_succ] at h2
    rw [capstanref11_Whom.l1, if_pos (by omega), rcalls_f _ _ _ _ _ _ _ c _ hc k (by omega), Option.bind_some, hw]
    by_cases h : (cl_names c).contains (i : Int) = true
    · rw [if_pos h] at h2 ⊢
      rw [if_pos (by omega)]
      exact h2
    · rw [if_neg h] at h2 ⊢
      rw [List.append_nil] at h2
      exact h2
theorem rW_l0 (hn : ms.length ≤ 40) : ∀ q i : Nat, i + q = c.length → ∀ k, c.length + 3 + ms.length + q ≤ k →
    capstanref11_Whom.l0 k (i : Int) l0 l1 ms a3 b1 b2 b3 b4 b5 b6 b7 c = some (if cl_ok ms.length (cl_names (c.drop i)) = true then (below ms.length fun x => (cl_names c).contains x, 0) else ([], 2)) := by
  intro q
  induction q with
  | zero =>
    intro i hi k hk
    obtain ⟨k, rfl⟩ : ∃ k', k = k' + 1 := ⟨k - 1, by omega⟩
    rw [capstanref11_Whom.l0, if_neg (by omega), List.drop_eq_nil_of_le (by omega), if_pos (by rfl)]
    exact rW_l1 b1 b2 b3 b4 b5 b6 b7 c hc hn ms.length 0 (by omega) k (by omega)
  | succ q ih =>
    intro i hi k hk
    obtain ⟨k, rfl⟩ : ∃ k', k = k' + 1 := ⟨k - 1, by omega⟩
    have hil : i < c.length := by omega
    have hw : wrap64 ((i : Int) + 1) = ((i + 1 : Nat) : Int) := by unfold wrap64; omega
    rw [capstanref11_Whom.l0, if_pos (by omega), if_pos (by omega), names_drop c i hil, hw, ih (i + 1) (by omega) k (by omega)]
    by_cases h : (rd_T70 c (i : Int)).f0 = 30
    · rw [if_pos h, if_pos h]
      by_cases h2 : (rd_T70 c (i : Int)).f1 < 0
      · rw [if_pos h2, if_neg fun hh => by have := cl_ok_mem.1 hh _ (List.mem_append_left _ (List.mem_singleton_self _)); omega]
      · rw [if_neg h2]
        by_cases h3 : (rd_T70 c (i : Int)).f1 ≥ (ms.length : Int)
        · rw [if_pos h3, if_neg fun hh => by have := cl_ok_mem.1 hh _ (List.mem_append_left _ (List.mem_singleton_self _)); omega]
        · rw [if_neg h3]
          have e : cl_ok ms.length ([(rd_T70 c (i : Int)).f1] ++ cl_names (c.drop (i + 1))) = cl_ok ms.length (cl_names (c.drop (i + 1))) := by
            rw [Bool.eq_iff_iff, cl_ok_mem, cl_ok_mem]
            refine ⟨fun hh x hx => hh x (List.mem_append_right _ hx), fun hh x hx => ?_⟩
            rcases List.mem_append.1 hx with hx | hx
            · rw [List.mem_singleton.1 hx]; omega
            · exact hh x hx
          rw [e]
    · rw [if_neg h, if_neg h, List.nil_append]
end
theorem rWhom_f (hs : Small ms) (x : Int) (k : Nat) (hk : 300000 ≤ k) : capstanref11_Whom.f k l0 l1 ms a3 x = some (if 0 ≤ x ∧ x < (ms.length : Int) ∧ cl_ok ms.length (nm ms x) = true then (sset (nm ms x), 0) else ([], 2)) := by
  obtain ⟨k, rfl⟩ : ∃ k', k = k' + 1 := ⟨k - 1, by omega⟩
  have hlen := hs.len
  unfold capstanref11_Whom.f
  by_cases h0 : x < 0
  · rw [if_pos h0, capstanref11_Whom.j0, if_pos rfl, if_neg fun h => absurd h.1 (by omega)]
  · rw [if_neg h0, capstanref11_Whom.j0]
    by_cases h1 : x ≥ (ms.length : Int)
    · rw [decide_eq_true h1, if_pos rfl, if_neg fun h => absurd h.2.1 (by omega)]
    · rw [decide_eq_false h1, if_neg (by decide), if_pos (by omega), if_pos (by omega)]
      have hc := hs.code x (by omega) (by omega)
      have h2 := rW_l0 (l0 := l0) (l1 := l1) (ms := ms) (a3 := a3) (rd_T52 ms x).f0 (rd_T52 ms x).f1 (rd_T52 ms x).f2 (rd_T52 ms x).f3 (rd_T52 ms x).f4 (rd_T52 ms x).f5 (rd_T52 ms x).f6 (rd_T52 ms x).f7 (by omega) hlen _ 0 (Nat.zero_add _) k (by omega)
      rw [List.drop_zero] at h2
      refine h2.trans ?_
      show some (if cl_ok ms.length (nm ms x) = true then _ else _) = _
      by_cases hk : cl_ok ms.length (nm ms x) = true
      · rw [if_pos hk, if_pos ⟨by omega, by omega, hk⟩]
        have : (below ms.length fun x_1 => (cl_names (rd_T52 ms x).f7).contains x_1) = sset (nm ms x) := rise_ext (below_rise _ _) (sset_sorted _) fun y => by
          rw [mem_below, mem_sset, List.contains_iff_mem]
          exact ⟨fun h => h.2, fun h => ⟨cl_ok_mem.1 hk y h, h⟩⟩
        rw [this]
      · rw [if_neg hk, if_neg fun h => hk h.2.2]
end
end S5
end Go.Proofs.Ytkmnachdibhdhaa.M
