/- Layer 11 in plain terms: sorted sets of numbers; lists without doubles. -/
import Derived.Test.YtkmnachdibhdhaaT0
namespace Go.Proofs.Ytkmnachdibhdhaa.M
open Go.RowKit Go.Proofs.Ytkmnachdibhdhaa.T Go.Proofs.YtkmnachdibhdhaaW.PrintWords Go.Proofs.YtkmnachdibhdhaaW.PrintLast Go.Proofs.YtkmnachdibhdhaaW.PrintMore

/-- The numbers of a row, each once, in rising order. -/
def sset (l : List Int) : List Int := Lib.compact (l.mergeSort fun x y => decide (x ≤ y))
theorem keeps_iff (zs : List Int) (m : Nat) (h : m < zs.length) : Lib.keeps zs.toArray m = true ↔ m = 0 ∨ zs.getD m 0 ≠ zs.getD (m - 1) 0 := by
  have h1 : zs.toArray[m]! = zs.getD m 0 := by simp [h]
  have h2 : zs.toArray[m - 1]! = zs.getD (m - 1) 0 := by simp [show m - 1 < zs.length by omega]
  by_cases h0 : m = 0
  · subst h0; simp [Lib.keeps]
  · unfold Lib.keeps
    rw [h1, h2]
    simp [h0]
theorem upto_spec (zs : List Int) (hs : zs.Pairwise fun a b => a ≤ b) : ∀ m, m ≤ zs.length → (Lib.compactUpTo zs.toArray m).Pairwise (fun a b => a < b) ∧ ∀ x, x ∈ Lib.compactUpTo zs.toArray m ↔ ∃ j, j < m ∧ zs.getD j 0 = x := by
  intro m
  induction m with
  | zero => intro _; exact ⟨by simp [Lib.compactUpTo], fun x => by simp [Lib.compactUpTo]⟩
  | succ m ih =>
    intro hm
    obtain ⟨h1, h2⟩ := ih (by omega)
    have hd : zs.toArray[m]! = zs.getD m 0 := by simp [show m < zs.length by omega]
    have hle : ∀ i j, i < j → j < zs.length → zs.getD i 0 ≤ zs.getD j 0 := by
      intro i j hij hj
      have := List.pairwise_iff_getElem.1 hs i j (by omega) hj hij
      simpa [List.getD_eq_getElem?_getD, show i < zs.length by omega, hj] using this
    rw [Lib.compactUpTo_succ, hd]
    cases hk : Lib.keeps zs.toArray m with
    | true =>
      rw [if_pos rfl]
      have hk2 := (keeps_iff zs m (by omega)).1 hk
      refine ⟨List.pairwise_append.2 ⟨h1, List.pairwise_singleton .., fun a ha b hb => ?_⟩, fun x => ?_⟩
      · rw [List.mem_singleton] at hb
        subst hb
        obtain ⟨j, hj, rfl⟩ := (h2 a).1 ha
        have hm0 : m ≠ 0 := by omega
        have h5 : zs.getD (m - 1) 0 ≤ zs.getD m 0 := hle (m - 1) m (by omega) (by omega)
        have h6 : zs.getD j 0 ≤ zs.getD (m - 1) 0 := by
          by_cases e : j = m - 1
          · rw [e]; exact Int.le_refl _
          · exact hle j (m - 1) (by omega) (by omega)
        rcases hk2 with h | h
        · exact absurd h hm0
        · omega
      · rw [List.mem_append, h2, List.mem_singleton]
        constructor
        · rintro (⟨j, hj, h⟩ | h)
          · exact ⟨j, by omega, h⟩
          · exact ⟨m, by omega, h.symm⟩
        · rintro ⟨j, hj, h⟩
          by_cases e : j = m
          · subst e; exact .inr h.symm
          · exact .inl ⟨j, by omega, h⟩
    | false =>
      rw [if_neg (by decide), List.append_nil]
      refine ⟨h1, fun x => ?_⟩
      have hk2 : ¬ (m = 0 ∨ zs.getD m 0 ≠ zs.getD (m - 1) 0) := fun h => by rw [(keeps_iff zs m (by omega)).2 h] at hk; cases hk
      rw [h2]
      constructor
      · rintro ⟨j, hj, h⟩; exact ⟨j, by omega, h⟩
      · rintro ⟨j, hj, h⟩
        by_cases e : j = m
        · subst e
          refine ⟨j - 1, by omega, ?_⟩
          have : zs.getD j 0 = zs.getD (j - 1) 0 := Decidable.byContradiction fun h => hk2 (.inr h)
          rw [← this]; exact h
        · exact ⟨j, by omega, h⟩
theorem sort_sorted (l : List Int) : (l.mergeSort fun x y => decide (x ≤ y)).Pairwise fun a b => a ≤ b := by
  have := List.pairwise_mergeSort (le := fun x y : Int => decide (x ≤ y)) (fun a b c h1 h2 => by simp at *; omega) (fun a b => by simp; omega) l
  exact this.imp fun h => by simpa using h
theorem sset_spec (l : List Int) : (sset l).Pairwise (fun a b => a < b) ∧ ∀ x, x ∈ sset l ↔ x ∈ l := by
  obtain ⟨h1, h2⟩ := upto_spec _ (sort_sorted l) _ (Nat.le_refl _)
  refine ⟨h1, fun x => ?_⟩
  rw [← List.mem_mergeSort (l := l) (le := fun x y => decide (x ≤ y))]
  refine (h2 x).trans ?_
  rw [List.mem_iff_getElem]
  generalize (l.mergeSort fun x y => decide (x ≤ y)) = zs
  constructor
  · rintro ⟨j, hj, h⟩; exact ⟨j, hj, by rw [← h]; simp [hj]⟩
  · rintro ⟨j, hj, h⟩; exact ⟨j, hj, by rw [← h]; simp [hj]⟩
theorem sset_sorted (l : List Int) : (sset l).Pairwise fun a b => a < b := (sset_spec l).1
theorem mem_sset {l : List Int} {x : Int} : x ∈ sset l ↔ x ∈ l := (sset_spec l).2 x
theorem sset_nodup (l : List Int) : (sset l).Nodup := (sset_sorted l).imp fun h => by omega
/-- Rising rows of the same numbers are the same row. -/
theorem rise_ext : ∀ {a b : List Int}, a.Pairwise (fun x y => x < y) → b.Pairwise (fun x y => x < y) → (∀ x, x ∈ a ↔ x ∈ b) → a = b := by
  intro a
  induction a with
  | nil => intro b _ _ h; cases b with
    | nil => rfl
    | cons y t => exact absurd ((h y).2 (List.mem_cons_self ..)) (List.not_mem_nil)
  | cons x s ih =>
    intro b ha hb h
    cases b with
    | nil => exact absurd ((h x).1 (List.mem_cons_self ..)) (List.not_mem_nil)
    | cons y t =>
      obtain ⟨ha1, ha2⟩ := List.pairwise_cons.1 ha
      obtain ⟨hb1, hb2⟩ := List.pairwise_cons.1 hb
      have hxy : x = y := by
        have h1 := (h x).1 (List.mem_cons_self ..)
        have h2 := (h y).2 (List.mem_cons_self ..)
        rcases List.mem_cons.1 h1 with e | h1
        · exact e
        · rcases List.mem_cons.1 h2 with e | h2
          · exact e.symm
          · have := ha1 _ h2; have := hb1 _ h1; omega
      subst hxy
      congr 1
      refine ih ha2 hb2 fun z => ?_
      have hz := h z
      rw [List.mem_cons, List.mem_cons] at hz
      constructor
      · intro hm
        rcases hz.1 (.inr hm) with e | h
        · subst e; have := ha1 _ hm; omega
        · exact h
      · intro hm
        rcases hz.2 (.inr hm) with e | h
        · subst e; have := hb1 _ hm; omega
        · exact h
theorem sset_rise {l : List Int} (h : l.Pairwise fun a b => a < b) : sset l = l := rise_ext (sset_sorted l) h fun _ => mem_sset
theorem sset_same {l m : List Int} (h : ∀ x, x ∈ l ↔ x ∈ m) : sset l = sset m := rise_ext (sset_sorted l) (sset_sorted m) fun x => by rw [mem_sset, mem_sset]; exact h x
theorem sset_len (l : List Int) : (sset l).length ≤ l.length := by
  unfold sset Lib.compact Lib.compactUpTo
  rw [List.length_map]
  refine Nat.le_trans (List.length_filter_le _ _) ?_
  simp
theorem nodup_sub {a : List Int} : ∀ {b : List Int}, a.Nodup → (∀ x ∈ a, x ∈ b) → a.length ≤ b.length := by
  induction a with
  | nil => intro b _ _; exact Nat.zero_le _
  | cons x s ih =>
    intro b ha h
    obtain ⟨h1, h2⟩ := List.nodup_cons.1 ha
    have hx := h x (List.mem_cons_self ..)
    have := ih (b := b.erase x) h2 fun y hy => (List.mem_erase_of_ne (by rintro rfl; exact h1 hy)).2 (h y (List.mem_cons_of_mem _ hy))
    rw [List.length_erase_of_mem hx] at this
    have hp : 0 < b.length := List.length_pos_of_mem hx
    rw [List.length_cons]; omega
theorem nodup_back {a b : List Int} (ha : a.Nodup) (h : ∀ x ∈ a, x ∈ b) (hl : b.length ≤ a.length) : ∀ y ∈ b, y ∈ a := by
  intro y hy
  refine Decidable.byContradiction fun hn => ?_
  have := nodup_sub (a := y :: a) (b := b) (List.nodup_cons.2 ⟨hn, ha⟩) (by
    intro x hx
    rcases List.mem_cons.1 hx with rfl | hx
    · exact hy
    · exact h x hx)
  rw [List.length_cons] at this
  omega
end Go.Proofs.Ytkmnachdibhdhaa.M
