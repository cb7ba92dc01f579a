/- A module's copy in plain terms (of capstanref08_Copy.f, capstanlaw08_Great.f). -/
import Derived.Test.YtkmnachdibhdhaaT1
import Derived.Test.YtkmnachdibhdhaaLCalls4
namespace Go.Proofs.Ytkmnachdibhdhaa.M
open Go.RowKit Go.Proofs.Ytkmnachdibhdhaa.T Go.Proofs.YtkmnachdibhdhaaW.PrintWords Go.Proofs.YtkmnachdibhdhaaW.PrintLast Go.Proofs.YtkmnachdibhdhaaW.PrintMore

variable {l0 l1 : List S86} {ms : List S52} {a3 : Int}
/-- The kinds of a module's methods are few. -/
def Few (ms : List S52) : Prop := ∀ j : Nat, j < ms.length → (rd_T52 ms (j : Int)).f0.length ≤ 100 ∧ (rd_T52 ms (j : Int)).f1.length ≤ 100
theorem great_few0 (hn : ms.length ≤ 40) : ∀ m i : Nat, i + m = ms.length → capstanlaw08_Great.l0 (m + 1) (i : Int) l0 l1 ms a3 = some false → ∀ j : Nat, i ≤ j → j < ms.length → (rd_T52 ms (j : Int)).f0.length ≤ 100 ∧ (rd_T52 ms (j : Int)).f1.length ≤ 100 := by
  intro m
  induction m with
  | zero => intro i hi _ j h1 h2; omega
  | succ m ih =>
    intro i hi h j h1 h2
    have hw : wrap64 ((i : Int) + 1) = ((i + 1 : Nat) : Int) := by unfold wrap64; omega
    rw [capstanlaw08_Great.l0, if_pos (by omega), if_pos (by omega), hw] at h
    have h7 : (rd_T52 ms (i : Int)).f0.length ≤ 100 ∧ (rd_T52 ms (i : Int)).f1.length ≤ 100 ∧ capstanlaw08_Great.l0 (m + 1) ((i + 1 : Nat) : Int) l0 l1 ms a3 = some false := by
      unfold capstanlaw07_Great.f at h
      by_cases c0 : ((rd_T52 ms (i : Int)).f0.length : Int) > 100
      · rw [if_pos c0, Option.bind_some, if_pos rfl] at h; cases h
      · rw [if_neg c0, Option.bind_some] at h
        by_cases c1 : ((rd_T52 ms (i : Int)).f1.length : Int) > 100
        · rw [decide_eq_true c1, if_pos rfl] at h; cases h
        · rw [decide_eq_false c1, if_neg (by decide)] at h
          by_cases c2 : ((rd_T52 ms (i : Int)).f7.length : Int) > 300
          · rw [if_pos c2] at h; cases h
          · rw [if_neg c2] at h
            exact ⟨by omega, by omega, h⟩
    by_cases e : j = i
    · subst e; exact ⟨h7.1, h7.2.1⟩
    · exact ih (i + 1) (by omega) h7.2.2 j (by omega) h2
theorem great_few (hn : ms.length ≤ 40) (h : capstanlaw08_Great.f 60 l0 l1 ms a3 = some false) : Few ms := by
  unfold capstanlaw08_Great.f at h
  have ht : capstanlaw08_Great.j0 60 true l0 l1 ms a3 = some true := by rw [capstanlaw08_Great.j0, if_pos rfl]
  by_cases h0 : (l0.length : Int) > 100
  · rw [if_pos h0, ht] at h; cases h
  · rw [if_neg h0] at h
    by_cases h1 : (l1.length : Int) > 100
    · rw [if_pos h1, ht] at h; cases h
    · rw [if_neg h1, decide_eq_false (by omega), capstanlaw08_Great.j0, if_neg (by decide)] at h
      have h3 : capstanlaw08_Great.l0 (ms.length + 1) ((0 : Nat) : Int) l0 l1 ms a3 = some false := by
        rcases great_l0 (l0 := l0) (l1 := l1) (a3 := a3) hn ms.length 0 (by omega) with h4 | ⟨h4, _⟩
        · have := up (f := fun k => capstanlaw08_Great.l0 k 0 l0 l1 ms a3) (fun k => (capstanlaw08_Great.mono_l k).2 _ _ _ _ _) h4 59 (by omega)
          rw [h] at this; cases this
        · exact h4
      exact fun j hj => great_few0 hn ms.length 0 (by omega) h3 j (Nat.zero_le _) hj
end Go.Proofs.Ytkmnachdibhdhaa.M
