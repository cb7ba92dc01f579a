/- EntryTells: whether any operations and entries may be, are the same, and which bytes they have, is what the chapter says; what is handed in stays. -/
import Derived.Test.YtjidhcepdjdceaaE2
import Derived.Test.YtjidhcepdjdceaaE8
import Derived.Test.YtjidhcepdjdceaaE10
import Derived.Test.YtjidhcepdjdceaaLEntry
namespace Go.Proofs.Ytjidhcepdjdceaa.Pure
open Go.RowKit Go.Proofs.Ytjidhcepdjdceaa.E Go.Proofs.Ytjidhcepdjdceaa.M Go.Proofs.YtjidhcepdjdceaaW.PrintWords Go.Proofs.YtjidhcepdjdceaaW.PrintLast Go.Proofs.YtjidhcepdjdceaaW.PrintMore

theorem EntryTells_l1 (p s k m : Int) (l : List S37) (b : List Int) (hl : l.length ≤ 20) (q1 q2 : Int) (q3 : List S37) (d : Nat) : ∀ (n i : Nat) (c : List Int), c.length ≤ 3000 → i + d = c.length → d + 100 < n → capstanlaw20_EntryTells.l1 n i p s k m l b p s k m l b q1 q2 q3 c = some true := by
  induction d with
  | zero =>
    intro n i c hc hi hk
    obtain ⟨n, rfl⟩ : ∃ q, n = q + 1 := ⟨n - 1, by omega⟩
    simp only [capstanlaw20_EntryTells.l1]
    rw [if_neg (by omega), refESameE_f _ _ _ _ _ _ _ _ _ _ _ _ (by omega) _ (by omega), Option.bind_some, decide_eq_true rfl, decide_eq_true rfl, esame_self]; rfl
  | succ d ih =>
    intro n i c hc hi hk
    obtain ⟨n, rfl⟩ : ∃ q, n = q + 1 := ⟨n - 1, by omega⟩
    simp only [capstanlaw20_EntryTells.l1]
    rw [if_pos (by omega), if_pos (by omega), wrap64_id (x := (i : Int) + 1) (by omega) (by omega)]
    exact ih n (i + 1) _ (by rw [List.length_set]; exact hc) (by rw [List.length_set]; omega) (by omega)
theorem EntryTells_l0 (p s k m : Int) (l : List S37) (b : List Int) (hl : l.length ≤ 20) (q1 q2 : Int) (c : List Int) (hc : c.length ≤ 3000) (d : Nat) : ∀ (n i : Nat) (f : List S37), f.length ≤ 20 → i + d = f.length → d + 4000 < n → capstanlaw20_EntryTells.l0 n i p s k m l b p s k m l b q1 q2 f c = some true := by
  induction d with
  | zero =>
    intro n i f hf hi hk
    obtain ⟨n, rfl⟩ : ∃ q, n = q + 1 := ⟨n - 1, by omega⟩
    simp only [capstanlaw20_EntryTells.l0]
    rw [if_neg (by omega)]
    exact EntryTells_l1 p s k m l b hl q1 q2 f c.length n 0 c hc (by omega) (by omega)
  | succ d ih =>
    intro n i f hf hi hk
    obtain ⟨n, rfl⟩ : ∃ q, n = q + 1 := ⟨n - 1, by omega⟩
    simp only [capstanlaw20_EntryTells.l0]
    rw [if_pos (by omega), if_pos (by omega), wrap64_id (x := (i : Int) + 1) (by omega) (by omega)]
    exact ih n (i + 1) _ (by rw [List.length_set]; exact hf) (by rw [List.length_set]; omega) (by omega)
theorem great_f (k m : Int) (l : List S37) (b : List Int) : capstanlaw20_Great.f k m l b = some (decide (l.length > 20 ∨ b.length > 3000)) := by
  unfold capstanlaw20_Great.f
  by_cases h : (l.length : Int) > 20
  · rw [if_pos h, decide_eq_true (by omega)]
  · rw [if_neg h]
    congr 1; rw [Bool.eq_iff_iff, decide_eq_true_eq, decide_eq_true_eq]; omega
theorem EntryTells : capstanlaw20_EntryTells.Pure := by
  intro p s k m l b k' m' l' b' w1 w2
  refine ⟨5000, ?_⟩
  unfold capstanlaw20_EntryTells.f
  rw [great_f, Option.bind_some, great_f, Option.bind_some]
  by_cases h1 : l.length > 20 ∨ b.length > 3000
  · rw [if_pos (decide_eq_true h1)]; simp [capstanlaw20_EntryTells.j0]
  rw [if_neg (by simpa using h1)]
  by_cases h2 : l'.length > 20 ∨ b'.length > 3000
  · rw [decide_eq_true h2]; simp [capstanlaw20_EntryTells.j0]
  rw [decide_eq_false h2]
  simp only [capstanlaw20_EntryTells.j0]
  rw [if_neg (by decide), Option.bind_some, if_pos (by simp; omega), Option.bind_some, Option.bind_some, if_pos (by simp; omega), Option.bind_some, List.nil_append, List.nil_append, ebytes_f _ _ _ _ _ _ _ (by omega), Option.bind_some, refEBytes_f _ _ _ _ _ _ (by omega) _ (by omega), Option.bind_some, if_pos rfl, if_pos rfl, emay_f _ _ _ _ _ (by omega), Option.bind_some, refEMay_f _ _ _ _ (by omega) _ (by omega), Option.bind_some, if_neg (by simp), eent_f _ _ _ _ _ _ _ (by omega), Option.bind_some, refEEnt_f _ _ _ _ _ _ (by omega) _ (by omega), Option.bind_some, if_neg (by simp), esame_f _ _ _ _ _ _ _ _ (by omega) _ (by omega), Option.bind_some, refESame_f _ _ _ _ _ _ _ _ (by omega) _ (by omega), Option.bind_some]
  simp only [capstanlaw20_EntryTells.j1]
  unfold entry_Copy.f slices_Clone_api_Value_api_Value.f bytes_Clone.f
  rw [if_neg (by simp), if_pos (by omega), if_pos (by omega), Option.bind_some, Option.bind_some, Option.bind_some]
  dsimp only
  rw [refESame_f _ _ _ _ _ _ _ _ (by omega) _ (by omega), Option.bind_some, if_pos (esame_self _ _ _ _)]
  exact EntryTells_l0 p s k m l b (by omega) k m b (by omega) l.length _ 0 l (by omega) (by omega) (by omega)
end Go.Proofs.Ytjidhcepdjdceaa.Pure
