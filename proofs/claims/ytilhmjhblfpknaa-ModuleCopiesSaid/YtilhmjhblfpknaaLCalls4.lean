/- Layer 11 in plain terms: layer 8's guard (of capstanlaw08_Great.f). -/
import Derived.Test.YtilhmjhblfpknaaP3
import Derived.Test.YtilhmjhblfpknaaLCalls2
namespace Go.Proofs.Ytilhmjhblfpknaa.M
open Go.RowKit Go.Proofs.Ytilhmjhblfpknaa.P Go.Proofs.YtilhmjhblfpknaaW.PrintWords Go.Proofs.YtilhmjhblfpknaaW.PrintLast Go.Proofs.YtilhmjhblfpknaaW.PrintMore

section
variable {l0 l1 : List S38} {ms : List S34} {a3 : Int}
theorem great_l0 (hn : ms.length ≤ 40) : ∀ m i : Nat, i + m = ms.length → capstanlaw08_Great.l0 (m + 1) (i : Int) l0 l1 ms a3 = some true ∨ (capstanlaw08_Great.l0 (m + 1) (i : Int) l0 l1 ms a3 = some false ∧ ∀ j : Int, (i : Int) ≤ j → j < (ms.length : Int) → (rd_T34 ms j).f7.length ≤ 300) := by
  intro m
  induction m with
  | zero =>
    intro i hi
    rw [capstanlaw08_Great.l0, if_neg (by omega)]
    exact .inr ⟨rfl, fun j h1 h2 => by omega⟩
  | succ m ih =>
    intro i hi
    have hw : wrap64 ((i : Int) + 1) = ((i + 1 : Nat) : Int) := by unfold wrap64; omega
    rw [capstanlaw08_Great.l0, if_pos (by omega), if_pos (by omega), hw]
    obtain ⟨b, hb⟩ : ∃ b, capstanlaw07_Great.f (rd_T34 ms i).f0 (rd_T34 ms i).f1 (rd_T34 ms i).f2 (rd_T34 ms i).f3 (rd_T34 ms i).f4 (rd_T34 ms i).f5 (rd_T34 ms i).f6 (rd_T34 ms i).f7 = some b := by
      unfold capstanlaw07_Great.f
      split
      · exact ⟨_, rfl⟩
      · exact ⟨_, rfl⟩
    rw [hb, Option.bind_some]
    cases b
    · rw [if_neg (by decide)]
      by_cases hc : ((rd_T34 ms i).f7.length : Int) > 300
      · rw [if_pos hc]; exact .inl rfl
      · rw [if_neg hc]
        rcases ih (i + 1) (by omega) with h | ⟨h, h2⟩
        · exact .inl h
        · refine .inr ⟨h, fun j h3 h4 => ?_⟩
          by_cases e : j = (i : Int)
          · subst e; omega
          · exact h2 j (by omega) h4
    · rw [if_pos rfl]; exact .inl rfl
theorem great_f : capstanlaw08_Great.f 60 l0 l1 ms a3 = some true ∨ (capstanlaw08_Great.f 60 l0 l1 ms a3 = some false ∧ Small ms ∧ l0.length ≤ 100 ∧ l1.length ≤ 100 ∧ ∀ j : Int, 0 ≤ j → j < (ms.length : Int) → (rd_T34 ms j).f7.length ≤ 300) := by
  unfold capstanlaw08_Great.f
  have ht : capstanlaw08_Great.j0 60 true l0 l1 ms a3 = some true := by rw [capstanlaw08_Great.j0, if_pos rfl]
  by_cases h0 : (l0.length : Int) > 100
  · rw [if_pos h0]; exact .inl ht
  · rw [if_neg h0]
    by_cases h1 : (l1.length : Int) > 100
    · rw [if_pos h1]; exact .inl ht
    · rw [if_neg h1]
      by_cases h2 : (ms.length : Int) > 40
      · rw [decide_eq_true h2]; exact .inl ht
      · rw [decide_eq_false h2, capstanlaw08_Great.j0, if_neg (by decide)]
        have hu : ∀ r, capstanlaw08_Great.l0 (ms.length + 1) ((0 : Nat) : Int) l0 l1 ms a3 = some r → capstanlaw08_Great.l0 59 0 l0 l1 ms a3 = some r := fun r h =>
          up (f := fun k => capstanlaw08_Great.l0 k 0 l0 l1 ms a3) (fun k => (capstanlaw08_Great.mono_l k).2 _ _ _ _ _) h 59 (by omega)
        rcases great_l0 (l0 := l0) (l1 := l1) (a3 := a3) (show ms.length ≤ 40 by omega) ms.length 0 (by omega) with h | ⟨h, h3⟩
        · exact .inl (hu _ h)
        · exact .inr ⟨hu _ h, ⟨by omega, fun j h4 h5 => by have := h3 j h4 h5; omega⟩, by omega, by omega, fun j h4 h5 => h3 j h4 h5⟩
end
end Go.Proofs.Ytilhmjhblfpknaa.M
