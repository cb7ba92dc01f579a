/- StateTells: whether any rows are states, fit a module, are the same, and which bytes they have, is what the chapter says; what is handed in stays. -/
import Derived.Test.YtjidhcepdjdceaaP6
import Derived.Test.YtjidhcepdjdceaaLState2
namespace Go.Proofs.Ytjidhcepdjdceaa.Pure
open Go.RowKit Go.Proofs.Ytjidhcepdjdceaa.P Go.Proofs.Ytjidhcepdjdceaa.M Go.Proofs.YtjidhcepdjdceaaW.PrintWords Go.Proofs.YtjidhcepdjdceaaW.PrintLast Go.Proofs.YtjidhcepdjdceaaW.PrintMore

theorem StateTells_l0 (g : List S37) (l1 : List S37) (l2 : List S103) (a : Int) (l : List S37) (hl : l.length ≤ 20) (hg : g.length ≤ 20) (d : Nat) : ∀ (k i : Nat) (f : List S37), f.length ≤ 20 → i + d = f.length → d + 100 < k → capstanlaw18_StateTells.l0 k l l f g i g l1 l2 a = some true := by
  induction d with
  | zero =>
    intro k i f hf hi hk
    obtain ⟨k, rfl⟩ : ∃ n, k = n + 1 := ⟨k - 1, by omega⟩
    simp only [capstanlaw18_StateTells.l0]
    rw [if_neg (by omega), seq17_f l l (by omega) k (by omega), Option.bind_some, if_pos (seq_iff.2 rfl), seq17_f g g (by omega) k (by omega), Option.bind_some, seq_iff.2 rfl]
  | succ d ih =>
    intro k i f hf hi hk
    obtain ⟨k, rfl⟩ : ∃ n, k = n + 1 := ⟨k - 1, by omega⟩
    simp only [capstanlaw18_StateTells.l0]
    rw [if_pos (by omega), if_pos (by omega), wrap64_id (x := (i : Int) + 1) (by omega) (by omega)]
    exact ih k (i + 1) _ (by rw [List.length_set]; exact hf) (by rw [List.length_set]; omega) (by omega)
theorem StateTells : capstanlaw18_StateTells.Pure := by
  intro g l1 l2 a l m wg wl wm
  refine ⟨400, ?_⟩
  unfold capstanlaw18_StateTells.f
  by_cases h1 : (g.length : Int) > 20
  · rw [if_pos h1]; simp [capstanlaw18_StateTells.j0]
  by_cases h2 : (l.length : Int) > 20
  · rw [if_neg h1, if_pos h2]; simp [capstanlaw18_StateTells.j0]
  rw [if_neg h1, if_neg h2]
  by_cases h3 : (m.length : Int) > 20
  · rw [decide_eq_true h3]; simp [capstanlaw18_StateTells.j0]
  rw [decide_eq_false h3]
  simp only [capstanlaw18_StateTells.j0]
  rw [if_neg (by decide), Option.bind_some, if_pos (by simp; omega), Option.bind_some, List.nil_append, sbytes_f l _ (by omega), Option.bind_some, refSBytes_f l (by omega) _ (by omega), Option.bind_some, sclone_f g (by omega), Option.bind_some, seq17_f g g (by omega) _ (by omega), Option.bind_some, if_pos (seq_iff.2 rfl), if_pos rfl, if_pos rfl, smay_f l _ (by omega), Option.bind_some, refSMay_f l (by omega) _ (by omega), Option.bind_some, if_neg (by simp), sfits_f _ _ _ _ _ _ (by omega), Option.bind_some, refFits_f _ _ _ _ _ (by omega) _ (by omega), Option.bind_some, if_neg (by simp), seqs_f l m (by omega) _ (by omega), Option.bind_some, seq17_f l m (by omega) _ (by omega), Option.bind_some]
  simp only [capstanlaw18_StateTells.j1]
  rw [if_neg (by simp), Option.bind_some, if_pos (by simp; omega), List.nil_append]
  exact StateTells_l0 g l1 l2 a l (by omega) (by omega) g.length _ 0 g (by omega) (by omega) (by omega)
end Go.Proofs.Ytjidhcepdjdceaa.Pure
