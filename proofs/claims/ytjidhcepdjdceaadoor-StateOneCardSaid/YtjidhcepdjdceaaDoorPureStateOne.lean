/- StateOne: two states with the same bytes are the same; a state fits by its kinds. -/
import Derived.Test.YtjidhcepdjdceaaDoorP5
import Derived.Test.YtjidhcepdjdceaaDoorP6
import Derived.Test.YtjidhcepdjdceaaDoorLState2
namespace Go.Proofs.YtjidhcepdjdceaaDoor.Pure
open Go.RowKit Go.Proofs.YtjidhcepdjdceaaDoor.P Go.Proofs.YtjidhcepdjdceaaDoor.M Go.Proofs.YtjidhcepdjdceaaDoorW.PrintWords Go.Proofs.YtjidhcepdjdceaaDoorW.PrintLast Go.Proofs.YtjidhcepdjdceaaDoorW.PrintMore

theorem kinds_iff {l m : List S37} : state_Fits.kinds l m = true ↔ l.length = m.length ∧ l.map (·.f0) = m.map (·.f0) := by
  unfold state_Fits.kinds; simp
theorem kinds_comm (l m : List S37) : state_Fits.kinds l m = state_Fits.kinds m l := by
  rw [Bool.eq_iff_iff, kinds_iff, kinds_iff]
  exact ⟨fun h => ⟨h.1.symm, h.2.symm⟩, fun h => ⟨h.1.symm, h.2.symm⟩⟩
theorem kinds_self (l : List S37) : state_Fits.kinds l l = true := kinds_iff.2 ⟨rfl, rfl⟩
/-- What the loop has told so far. -/
def Sofar (l m : List S37) (b : Bool) (i : Nat) : Prop := (b = true ∧ l.length = m.length ∧ (l.take i).map (·.f0) = (m.take i).map (·.f0)) ∨ (b = false ∧ state_Fits.kinds l m = false)
theorem sofar_end {l m : List S37} {b : Bool} {i : Nat} (h : Sofar l m b i) (hi : ¬ ((i : Int) < l.length ∧ (i : Int) < m.length)) : b = state_Fits.kinds l m := by
  rcases h with ⟨rfl, h1, h2⟩ | ⟨rfl, h1⟩
  · rw [eq_comm, kinds_iff]
    rw [List.take_of_length_le (by omega), List.take_of_length_le (by omega)] at h2
    exact ⟨h1, h2⟩
  · exact h1.symm
theorem StateOne_end (l m : List S37) (hl : smay l = true) (hm : smay m = true) (b : Bool) (hb : b = state_Fits.kinds l m) (k : Nat) (hk : 40 ≤ k) (n : Nat) (hn : 40 ≤ n) (j : Nat) (hj : 40 ≤ j) :
    ((state_Fits.f k l ([] : List (S37)) ([] : List (S123)) 0 l).bind fun t230 => (if t230 = true then ((state_Fits.f n m ([] : List (S37)) ([] : List (S123)) 0 l).bind fun t231 => (if (t231 == b) = true then ((state_Fits.f j l ([] : List (S37)) ([] : List (S123)) 5 m).bind fun t232 => (some (t232 == b))) else (none))) else (none))) = some true := by
  rw [sfits_f _ _ _ _ _ _ hk, Option.bind_some, sfits_f _ _ _ _ _ _ hn, Option.bind_some, sfits_f _ _ _ _ _ _ hj, Option.bind_some]
  unfold sfits
  rw [hl, hm, kinds_self, hb, kinds_comm m l]
  simp
theorem StateOne_l0 (l m : List S37) (hl : smay l = true) (hm : smay m = true) (ll : l.length ≤ 20) (lm : m.length ≤ 20) (d : Nat) : ∀ (k i : Nat) (b : Bool), i + d = 20 → d + 50 < k → Sofar l m b i → capstanlaw18_StateOne.l0 k l m b i = some true := by
  induction d with
  | zero =>
    intro k i b hi hk hs
    obtain ⟨k, rfl⟩ : ∃ n, k = n + 1 := ⟨k - 1, by omega⟩
    simp only [capstanlaw18_StateOne.l0]
    rw [if_neg (by omega)]
    exact StateOne_end l m hl hm b (sofar_end hs (by omega)) k (by omega) k (by omega) k (by omega)
  | succ d ih =>
    intro k i b hi hk hs
    obtain ⟨k, rfl⟩ : ∃ n, k = n + 1 := ⟨k - 1, by omega⟩
    simp only [capstanlaw18_StateOne.l0]
    by_cases h1 : (i : Int) < l.length
    · by_cases h2 : (i : Int) < m.length
      · rw [if_pos h1, if_pos h2]
        by_cases hb : b = true
        · subst hb
          rw [if_pos rfl, if_pos (by omega), wrap64_id (by omega) (by omega), rdT_at (by omega : i < l.length), rdT_at (by omega : i < m.length)]
          refine ih k (i + 1) _ (by omega) (by omega) ?_
          obtain ⟨_, h3, h4⟩ | ⟨h3, _⟩ := hs
          · by_cases h5 : l[i].f0 = m[i].f0
            · refine .inl ⟨by rw [beq_iff_eq]; exact h5, h3, ?_⟩
              rw [List.take_succ_eq_append_getElem (by omega), List.take_succ_eq_append_getElem (by omega), List.map_append, List.map_append, h4, List.map_cons, List.map_cons, h5]
            · refine .inr ⟨by rw [beq_eq_false_iff_ne]; exact h5, ?_⟩
              rw [← Bool.not_eq_true, kinds_iff]
              rintro ⟨_, h6⟩
              have := congrArg (fun l => l[i]?) h6
              have g1 : i < l.length := by omega
              have g2 : i < m.length := by omega
              simp [g1, g2] at this
              exact h5 this
          · cases h3
        · rw [Bool.not_eq_true] at hb
          subst hb
          rw [if_neg (by decide), wrap64_id (by omega) (by omega)]
          refine ih k (i + 1) _ (by omega) (by omega) ?_
          rcases hs with ⟨h3, _⟩ | ⟨_, h3⟩
          · cases h3
          · exact .inr ⟨rfl, h3⟩
      · rw [if_pos h1, if_neg h2]
        exact StateOne_end l m hl hm b (sofar_end hs (by omega)) k (by omega) k (by omega) k (by omega)
    · rw [if_neg h1]
      exact StateOne_end l m hl hm b (sofar_end hs (by omega)) k (by omega) k (by omega) k (by omega)
theorem sbytes_inj {l m : List S37} (hl : smay l = true) (hm : smay m = true) (ol : ∀ v ∈ l, vok v) (om : ∀ v ∈ m, vok v) : ((strOfNums (sbytes l).1).toList == (strOfNums (sbytes m).1).toList) = M.seq l m := by
  obtain ⟨h1, h2⟩ := smay_iff.1 hl
  obtain ⟨h3, h4⟩ := smay_iff.1 hm
  rw [str_beq (sbytes_isB l) (sbytes_isB m), Bool.eq_iff_iff, seq_iff, decide_eq_true_eq]
  unfold sbytes
  rw [if_pos hl, if_pos hm]
  constructor
  · intro e
    dsimp only at e
    rw [List.cons.injEq] at e
    exact vflat_inj (fun v hv => ⟨h2 v hv, ol v hv⟩) (fun v hv => ⟨h4 v hv, om v hv⟩) (by omega) e.2
  · rintro rfl; rfl
theorem StateOne : capstanlaw18_StateOne.Pure := by
  intro l m wl wm
  have ol : ∀ v ∈ l, vok v := fun v hv => wf_i64 (wl.2 v hv).2.1
  have om : ∀ v ∈ m, vok v := fun v hv => wf_i64 (wm.2 v hv).2.1
  refine ⟨400, ?_⟩
  unfold capstanlaw18_StateOne.f
  rw [stawake_f _ (by omega), Option.bind_some, if_pos rfl]
  by_cases h1 : (l.length : Int) > 20
  · rw [if_pos h1]; simp [capstanlaw18_StateOne.j0]
  by_cases h2 : (m.length : Int) > 20
  · rw [if_neg h1, if_pos h2]; simp [capstanlaw18_StateOne.j0]
  rw [if_neg h1, if_neg h2, smay_f _ _ (by omega), Option.bind_some]
  by_cases hl : smay l = true
  · rw [if_pos hl, smay_f _ _ (by omega), Option.bind_some]
    by_cases hm : smay m = true
    · rw [hm]
      simp only [capstanlaw18_StateOne.j0]
      have e1 : sbytes l = ((l.length : Int) :: vflat l, 0) := by unfold sbytes; rw [if_pos hl]
      have e2 : sbytes m = ((m.length : Int) :: vflat m, 0) := by unfold sbytes; rw [if_pos hm]
      rw [if_neg (by decide), sbytes_f _ _ (by omega), Option.bind_some, sbytes_f _ _ (by omega), Option.bind_some, if_pos (by rw [e1]), if_pos (by rw [e2]), seq17_f l m (by omega) _ (by omega), Option.bind_some, sbytes_inj hl hm ol om, if_neg (by simp), seqs_f l m (by omega) _ (by omega), Option.bind_some, Option.bind_some]
      simp only [capstanlaw18_StateOne.j1]
      rw [if_neg (by simp)]
      simp only [capstanlaw18_StateOne.j2]
      refine StateOne_l0 l m hl hm (by omega) (by omega) 20 _ 0 _ (by omega) (by omega) ?_
      by_cases hn : l.length = m.length
      · exact .inl ⟨by rw [beq_iff_eq]; omega, hn, rfl⟩
      · exact .inr ⟨by rw [beq_eq_false_iff_ne]; omega, skinds_len hn⟩
    · rw [Bool.not_eq_true] at hm
      rw [hm]
      simp [capstanlaw18_StateOne.j0]
  · rw [if_neg hl]
    simp [capstanlaw18_StateOne.j0]
end Go.Proofs.YtjidhcepdjdceaaDoor.Pure
