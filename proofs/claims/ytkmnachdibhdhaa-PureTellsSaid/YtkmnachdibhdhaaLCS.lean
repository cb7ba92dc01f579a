/- A module's copy in plain terms (of capstanref08_Copy.f, capstanlaw08_Great.f). A module is the same as itself, in plain terms (of capstanref08_Same.f). -/
import Derived.Test.YtkmnachdibhdhaaU3
import Derived.Test.YtkmnachdibhdhaaU4
import Derived.Test.YtkmnachdibhdhaaU12
import Derived.Test.YtkmnachdibhdhaaU13
import Derived.Test.YtkmnachdibhdhaaU14
import Derived.Test.YtkmnachdibhdhaaLCallsM
namespace Go.Proofs.Ytkmnachdibhdhaa.M
open Go.RowKit Go.Proofs.Ytkmnachdibhdhaa.U Go.Proofs.YtkmnachdibhdhaaW.PrintWords Go.Proofs.YtkmnachdibhdhaaW.PrintLast Go.Proofs.YtkmnachdibhdhaaW.PrintMore

section S1

variable {l0 l1 : List S86} {ms : List S52} {a3 : Int}
/-- The kinds of a module's methods are few. -/
def Few (ms : List S52) : Prop := ∀ j : Nat, j < ms.length → (rd_T52 ms (j : Int)).f0.length ≤ 100 ∧ (rd_T52 ms (j : Int)).f1.length ≤ 100
theorem great_few0 (hn : ms.length ≤ 40) : ∀ m i : Nat, i + m = ms.length → capstanlaw08_Great.l0 (m + 1) (i : Int) l0 l1 ms a3 = some false → ∀ j : Nat, i ≤ j → j < ms.length → (rd_T52 ms (j : Int)).f0.length ≤ 100 ∧ (rd_T52 ms (j : Int)).f1.length ≤ 100 := by
  intro m
  induction m with
  | zero => intro i hi _ j h1 h2; omega
  | succ m ih =>
    intro i hi h j h1 h2
    have hw : wrap64 ((i : Int) + 1) = ((i + 1 : Nat) : Int) := by unfold wrap64; omega
    rw [capstanlaw08_Great.l0, if_pos (by omega), if_pos (by omega), hw] at h
    have h7 : (rd_T52 ms (i : Int)).f0.length ≤ 100 ∧ (rd_T52 ms (i : Int)).f1.length ≤ 100 ∧ capstanlaw08_Great.l0 (m + 1) ((i + 1 : Nat) : Int) l0 l1 ms a3 = some false := by
      unfold capstanlaw07_Great.f at h
      by_cases c0 : ((rd_T52 ms (i : Int)).f0.length : Int) > 100
      · rw [if_pos c0, Option.bind_some, if_pos rfl] at h; cases h
      · rw [if_neg c0, Option.bind_some] at h
        by_cases c1 : ((rd_T52 ms (i : Int)).f1.length : Int) > 100
        · rw [decide_eq_true c1, if_pos rfl] at h; cases h
        · rw [decide_eq_false c1, if_neg (by decide)] at h
          by_cases c2 : ((rd_T52 ms (i : Int)).f7.length : Int) > 300
          · rw [if_pos c2] at h; cases h
          · rw [if_neg c2] at h
            exact ⟨by omega, by omega, h⟩
    by_cases e : j = i
    · subst e; exact ⟨h7.1, h7.2.1⟩
    · exact ih (i + 1) (by omega) h7.2.2 j (by omega) h2
theorem great_few (hn : ms.length ≤ 40) (h : capstanlaw08_Great.f 60 l0 l1 ms a3 = some false) : Few ms := by
  unfold capstanlaw08_Great.f at h
  have ht : capstanlaw08_Great.j0 60 true l0 l1 ms a3 = some true := by rw [capstanlaw08_Great.j0, if_pos rfl]
  by_cases h0 : (l0.length : Int) > 100
  · rw [if_pos h0, ht] at h; cases h
  · rw [if_neg h0] at h
    by_cases h1 : (l1.length : Int) > 100
    · rw [if_pos h1, ht] at h; cases h
    · rw [if_neg h1, decide_eq_false (by omega), capstanlaw08_Great.j0, if_neg (by decide)] at h
      have h3 : capstanlaw08_Great.l0 (ms.length + 1) ((0 : Nat) : Int) l0 l1 ms a3 = some false := by
        rcases great_l0 (l0 := l0) (l1 := l1) (a3 := a3) hn ms.length 0 (by omega) with h4 | ⟨h4, _⟩
        · have := up (f := fun k => capstanlaw08_Great.l0 k 0 l0 l1 ms a3) (fun k => (capstanlaw08_Great.mono_l k).2 _ _ _ _ _) h4 59 (by omega)
          rw [h] at this; cases this
        · exact h4
      exact fun j hj => great_few0 hn ms.length 0 (by omega) h3 j (Nat.zero_le _) hj
theorem copy_l0 (hs : Small ms) (hf : Few ms) (t0 t1 : List S86) (a : Int) : ∀ q i : Nat, i + q = ms.length → ∀ k, q + 1 ≤ k → capstanref08_Copy.l0 k (i : Int) l0 l1 ms a3 t0 t1 (ms.take i) a = some (t0, t1, ms, a) := by
  have hlen := hs.len
  intro q
  induction q with
  | zero =>
    intro i hi k hk
    obtain ⟨k, rfl⟩ : ∃ k', k = k' + 1 := ⟨k - 1, by omega⟩
    rw [capstanref08_Copy.l0, if_neg (by omega), List.take_of_length_le (by omega)]
  | succ q ih =>
    intro i hi k hk
    obtain ⟨k, rfl⟩ : ∃ k', k = k' + 1 := ⟨k - 1, by omega⟩
    have hw : wrap64 ((i : Int) + 1) = ((i + 1 : Nat) : Int) := by unfold wrap64; omega
    have hil : i < ms.length := by omega
    have hr : rd_T52 ms (i : Int) = ms[i] := by simp [rd_T52, hil]
    obtain ⟨f0, f1⟩ := hf i hil
    have hc := hs.code i (by omega) (by omega)
    rw [capstanref08_Copy.l0, if_pos (by omega), if_pos (by omega), Option.bind_some, if_pos (by rw [List.length_nil]; omega), Option.bind_some, if_pos (by rw [List.length_nil]; omega), capstanref05_Copy.f, if_pos (by rw [List.length_nil]; omega), Option.bind_some, if_pos (by rw [List.length_take]; omega), hw, List.nil_append, List.nil_append, List.nil_append, hr]
    have ht : ms.take i ++ [(⟨ms[i].f0, ms[i].f1, ms[i].f2, ms[i].f3, ms[i].f4, ms[i].f5, ms[i].f6, ms[i].f7⟩ : S52)] = ms.take (i + 1) := (List.take_succ_eq_append_getElem hil).symm
    rw [ht]
    exact ih (i + 1) (by omega) k (by omega)
theorem copy_f (hs : Small ms) (hf : Few ms) (h0 : l0.length ≤ 100) (h1 : l1.length ≤ 100) (k : Nat) (hk : 41 ≤ k) : capstanref08_Copy.f k l0 l1 ms a3 = some (l0, l1, ms, a3) := by
  have hlen := hs.len
  unfold capstanref08_Copy.f capstanref03_Copy.f
  rw [if_pos (by rw [List.length_nil]; omega), Option.bind_some, if_pos (by rw [List.length_nil]; omega), Option.bind_some, List.nil_append, List.nil_append]
  exact copy_l0 hs hf l0 l1 a3 ms.length 0 (Nat.zero_add _) k (by omega)
end S1
section S2

theorem sameV_l0 (l : List S86) (hl : l.length ≤ 1000000) : ∀ q i : Nat, i + q = l.length → ∀ k, q + 1 ≤ k → capstanref03_Same.l0 k l l (i : Int) = some true := by
  intro q
  induction q with
  | zero =>
    intro i hi k hk
    obtain ⟨k, rfl⟩ : ∃ k', k = k' + 1 := ⟨k - 1, by omega⟩
    rw [capstanref03_Same.l0, if_neg (by omega)]
  | succ q ih =>
    intro i hi k hk
    obtain ⟨k, rfl⟩ : ∃ k', k = k' + 1 := ⟨k - 1, by omega⟩
    have hw : wrap64 ((i : Int) + 1) = ((i + 1 : Nat) : Int) := by unfold wrap64; omega
    rw [capstanref03_Same.l0, if_pos (by omega), if_pos (by omega), if_pos (by omega), if_neg (by simp), hw]
    exact ih (i + 1) (by omega) k (by omega)
theorem sameV_f (l : List S86) (hl : l.length ≤ 1000000) (k : Nat) (hk : l.length + 1 ≤ k) : capstanref03_Same.f k l l = some true := by
  unfold capstanref03_Same.f
  rw [if_pos rfl]
  exact sameV_l0 l hl l.length 0 (Nat.zero_add _) k hk
theorem sameK_l0 (l : List Int) (hl : l.length ≤ 1000000) : ∀ q i : Nat, i + q = l.length → ∀ k, q + 1 ≤ k → capstanref07_SameKinds.l0 k l l (i : Int) = some true := by
  intro q
  induction q with
  | zero =>
    intro i hi k hk
    obtain ⟨k, rfl⟩ : ∃ k', k = k' + 1 := ⟨k - 1, by omega⟩
    rw [capstanref07_SameKinds.l0, if_neg (by omega)]
  | succ q ih =>
    intro i hi k hk
    obtain ⟨k, rfl⟩ : ∃ k', k = k' + 1 := ⟨k - 1, by omega⟩
    have hw : wrap64 ((i : Int) + 1) = ((i + 1 : Nat) : Int) := by unfold wrap64; omega
    rw [capstanref07_SameKinds.l0, if_pos (by omega), if_pos (by omega), if_pos (by omega), if_pos rfl, hw]
    exact ih (i + 1) (by omega) k (by omega)
theorem sameK_f (l : List Int) (hl : l.length ≤ 1000000) (k : Nat) (hk : l.length + 1 ≤ k) : capstanref07_SameKinds.f k l l = some true := by
  unfold capstanref07_SameKinds.f
  rw [if_pos rfl]
  exact sameK_l0 l hl l.length 0 (Nat.zero_add _) k hk
theorem sameC_l0 (l : List S70) (hl : l.length ≤ 1000000) : ∀ q i : Nat, i + q = l.length → ∀ k, q + 1 ≤ k → capstanref05_Same.l0 k l l (i : Int) = some true := by
  intro q
  induction q with
  | zero =>
    intro i hi k hk
    obtain ⟨k, rfl⟩ : ∃ k', k = k' + 1 := ⟨k - 1, by omega⟩
    rw [capstanref05_Same.l0, if_neg (by omega)]
  | succ q ih =>
    intro i hi k hk
    obtain ⟨k, rfl⟩ : ∃ k', k = k' + 1 := ⟨k - 1, by omega⟩
    have hw : wrap64 ((i : Int) + 1) = ((i + 1 : Nat) : Int) := by unfold wrap64; omega
    rw [capstanref05_Same.l0, if_pos (by omega), if_pos (by omega), if_pos (by omega), if_neg (by simp), hw]
    exact ih (i + 1) (by omega) k (by omega)
theorem sameC_f (l : List S70) (hl : l.length ≤ 1000000) (k : Nat) (hk : l.length + 1 ≤ k) : capstanref05_Same.f k l l = some true := by
  unfold capstanref05_Same.f
  rw [if_pos rfl]
  exact sameC_l0 l hl l.length 0 (Nat.zero_add _) k hk
variable {l0 l1 : List S86} {ms : List S52} {a3 : Int}
theorem same_l0 (hs : Small ms) (hf : Few ms) : ∀ q i : Nat, i + q = ms.length → ∀ k, 100100 + q ≤ k → capstanref08_Same.l0 k (i : Int) l0 l1 ms a3 l0 l1 ms a3 = some true := by
  have hlen := hs.len
  intro q
  induction q with
  | zero =>
    intro i hi k hk
    obtain ⟨k, rfl⟩ : ∃ k', k = k' + 1 := ⟨k - 1, by omega⟩
    rw [capstanref08_Same.l0, if_neg (by omega)]
  | succ q ih =>
    intro i hi k hk
    obtain ⟨k, rfl⟩ : ∃ k', k = k' + 1 := ⟨k - 1, by omega⟩
    have hw : wrap64 ((i : Int) + 1) = ((i + 1 : Nat) : Int) := by unfold wrap64; omega
    have hil : i < ms.length := by omega
    obtain ⟨f0, f1⟩ := hf i hil
    have hc := hs.code i (by omega) (by omega)
    rw [capstanref08_Same.l0, if_pos (by omega), if_pos (by omega), if_pos (by omega), capstanref07_Same.f, sameK_f _ (by omega) k (by omega), Option.bind_some, if_pos rfl, sameK_f _ (by omega) k (by omega), Option.bind_some, if_pos rfl, if_pos rfl, if_pos (by simp), if_pos rfl, if_pos rfl, Option.bind_some, if_pos (by simp), sameC_f _ (by omega) k (by omega), Option.bind_some, if_pos rfl, hw]
    exact ih (i + 1) (by omega) k (by omega)
theorem same_f (hs : Small ms) (hf : Few ms) (h0 : l0.length ≤ 100) (h1 : l1.length ≤ 100) (k : Nat) (hk : 100200 ≤ k) : capstanref08_Same.f k l0 l1 ms a3 l0 l1 ms a3 = some true := by
  have hlen := hs.len
  obtain ⟨k, rfl⟩ : ∃ k', k = k' + 1 := ⟨k - 1, by omega⟩
  unfold capstanref08_Same.f
  rw [if_pos rfl, sameV_f l0 (by omega) _ (by omega), Option.bind_some, if_pos rfl, sameV_f l1 (by omega) _ (by omega), Option.bind_some, if_pos rfl, bne_self_eq_false, capstanref08_Same.j0, if_neg (by decide)]
  exact same_l0 hs hf ms.length 0 (Nat.zero_add _) k (by omega)
end S2
end Go.Proofs.Ytkmnachdibhdhaa.M
