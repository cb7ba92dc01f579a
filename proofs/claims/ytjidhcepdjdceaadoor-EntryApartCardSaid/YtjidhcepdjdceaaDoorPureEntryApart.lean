/- EntryApart: two entries with the same bytes are the same; the bytes of none begin another one's. -/
import Derived.Test.YtjidhcepdjdceaaDoorG7
import Derived.Test.YtjidhcepdjdceaaDoorG8
import Derived.Test.YtjidhcepdjdceaaDoorLEntry2
namespace Go.Proofs.YtjidhcepdjdceaaDoor.Pure
open Go.RowKit Go.Proofs.YtjidhcepdjdceaaDoor.G Go.Proofs.YtjidhcepdjdceaaDoor.M Go.Proofs.YtjidhcepdjdceaaDoorW.PrintWords Go.Proofs.YtjidhcepdjdceaaDoorW.PrintLast Go.Proofs.YtjidhcepdjdceaaDoorW.PrintMore

theorem esame_iff {k m : Int} {l : List S37} {b : List Int} {k' m' : Int} {l' : List S37} {b' : List Int} (hb : isB b) (hb' : isB b') : esame k m l b k' m' l' b' = true ↔ k = k' ∧ m = m' ∧ l = l' ∧ b = b' := by
  unfold esame
  rw [str_beq hb hb']
  simp [seq_iff]
/-- The bytes without the last one: nobody's. -/
theorem eparse_short {p s kd m : Int} {l : List S37} {b : List Int} (h : eent p s kd m l b = true) (ho : ∀ v ∈ l, vok v) (hb : isB b) : eparse ((ebytes p s kd m l b).1.take ((ebytes p s kd m l b).1.length - 1)) = efail := by
  have hB := ebytes_isB p s kd m l b hb
  have hne : (ebytes p s kd m l b).1 ≠ [] := by unfold ebytes; rw [if_pos h]; simp
  obtain ⟨X, hX⟩ : ∃ X, X = (ebytes p s kd m l b).1 := ⟨_, rfl⟩
  have hput := eparse_put h ho []
  rw [List.append_nil, if_pos rfl] at hput
  rw [← hX] at hB hne hput ⊢
  have hsplit : X = X.take (X.length - 1) ++ [X.getLast hne] := by
    rw [← List.dropLast_eq_take, List.dropLast_concat_getLast]
  rcases eparse_back (X.take (X.length - 1)) (isB_take _ hB) with h1 | ⟨p', s', kd', m', l', b', h1, h2, h3, h4⟩
  · exact h1
  · have h5 := eparse_put (ebytes_eent (by rw [h2])) h3 [X.getLast hne]
    rw [if_neg (by simp), h2] at h5
    dsimp only at h5
    rw [← hsplit, hput] at h5
    unfold efail at h5
    simp at h5
theorem EntryApart_j3 (k : Nat) (hk : 60 ≤ k) {p s kd m : Int} {l : List S37} {b : List Int} (h : eent p s kd m l b = true) (ho : ∀ v ∈ l, vok v) (hb : isB b) : capstanlaw20_EntryApart.j3 k (ebytes p s kd m l b).1 false = some true := by
  obtain ⟨k, rfl⟩ : ∃ d, k = d + 1 := ⟨k - 1, by omega⟩
  simp only [capstanlaw20_EntryApart.j3]
  have hlen := ebytes_len (p := p) (s := s) (k := kd) (m := m) (l := l) (b := b)
  have hpos : 1 ≤ (ebytes p s kd m l b).1.length := by unfold ebytes; rw [if_pos h]; simp
  have hB := ebytes_isB p s kd m l b hb
  have hs := eparse_short h ho hb
  have hp := eparse_put h ho [0]
  rw [if_neg (by simp)] at hp
  rw [if_neg (by decide), wrap64_id (x := ((ebytes p s kd m l b).1.length : Int) - 1) (by omega) (by omega), if_pos (by omega), if_pos (by omega), show (((ebytes p s kd m l b).1.length : Int) - 1).toNat = (ebytes p s kd m l b).1.length - 1 by omega, eparse_f _ (isB_take _ hB) (by rw [List.length_take]; omega) _ (by omega), Option.bind_some, hs, Option.bind_some, if_pos (by simp; omega), Option.bind_some, List.nil_append, if_pos (by omega), eparse_f _ (isB_append.2 ⟨hB, isB_cons.2 ⟨by omega, isB_nil⟩⟩) (by simp; omega) _ (by omega), Option.bind_some, hp]
  rfl
theorem EntryApart : capstanlaw20_EntryApart.Pure := by
  intro p s kd m l b p' s' kd' m' l' b' w w'
  have ho : ∀ v ∈ l, vok v := fun v hv => wf_i64 (w.2.2.2.2.1.2 v hv).2.1
  have hb : isB b := isB_of w.2.2.2.2.2.2
  have ho' : ∀ v ∈ l', vok v := fun v hv => wf_i64 (w'.2.2.2.2.1.2 v hv).2.1
  have hb' : isB b' := isB_of w'.2.2.2.2.2.2
  refine ⟨400, ?_⟩
  unfold capstanlaw20_EntryApart.f
  rw [eawake_f _ (by omega), Option.bind_some, if_pos rfl, egreat_f, Option.bind_some, egreat_f, Option.bind_some]
  by_cases h1 : l.length > 20 ∨ b.length > 3000
  · rw [if_pos (decide_eq_true h1)]; simp [capstanlaw20_EntryApart.j0]
  rw [if_neg (by simpa using h1)]
  by_cases h2 : l'.length > 20 ∨ b'.length > 3000
  · rw [decide_eq_true h2]; simp [capstanlaw20_EntryApart.j0]
  rw [decide_eq_false h2]
  simp only [capstanlaw20_EntryApart.j0]
  rw [if_neg (by decide), ebytes_f _ _ _ _ _ _ _ (by omega), Option.bind_some, ebytes_f _ _ _ _ _ _ _ (by omega), Option.bind_some]
  by_cases h3 : (ebytes p s kd m l b).2 = 0
  · rw [if_pos h3]
    by_cases h4 : (ebytes p' s' kd' m' l' b').2 = 0
    · have he := ebytes_eent h3
      have he' := ebytes_eent h4
      have hB := ebytes_isB p s kd m l b hb
      have hB' := ebytes_isB p' s' kd' m' l' b' hb'
      have hp := eparse_put he ho []
      have hp' := eparse_put he' ho' []
      rw [List.append_nil, if_pos rfl] at hp hp'
      have hlen := ebytes_len (p := p) (s := s) (k := kd) (m := m) (l := l) (b := b)
      have hpos : 1 ≤ (ebytes p s kd m l b).1.length := by unfold ebytes; rw [if_pos he]; simp
      have hsame : ((ebytes p s kd m l b).1 = (ebytes p' s' kd' m' l' b').1) ↔ (p = p' ∧ s = s' ∧ kd = kd' ∧ m = m' ∧ l = l' ∧ b = b') := by
        constructor
        · intro e
          rw [e, hp'] at hp
          simp only [Prod.mk.injEq] at hp
          obtain ⟨a1, a2, a3, a4, a5, a6, _⟩ := hp
          exact ⟨a1.symm, a2.symm, a3.symm, a4.symm, a5.symm, a6.symm⟩
        · rintro ⟨rfl, rfl, rfl, rfl, rfl, rfl⟩; rfl
      have hT : (decide (p = p') && (decide (s = s') && esame kd m l b kd' m' l' b')) = decide ((ebytes p s kd m l b).1 = (ebytes p' s' kd' m' l' b').1) := by
        rw [Bool.eq_iff_iff, Bool.and_eq_true, Bool.and_eq_true, decide_eq_true_eq, decide_eq_true_eq, decide_eq_true_eq, esame_iff hb hb', hsame]
      simp only [capstanlaw20_EntryApart.j1]
      rw [h4, if_neg (by decide), refESameE_f _ _ _ _ _ _ _ _ _ _ _ _ (by omega) _ (by omega), Option.bind_some, hT, str_beq hB hB', if_neg (by simp)]
      simp only [capstanlaw20_EntryApart.j2]
      have hj := EntryApart_j3 397 (by omega) he ho hb
      rw [show (((ebytes p s kd m l b).1.length : Int) == 0) = false from beq_eq_false_iff_ne.mpr (by omega), if_neg (by decide)]
      split
      · by_cases h5 : (ebytes p s kd m l b).1 = (ebytes p' s' kd' m' l' b').1
        · rw [if_pos (decide_eq_true h5)]
          exact hj
        · rw [if_neg (by simpa using h5), if_pos (by omega), Int.toNat_natCast, str_beq (isB_take _ hB') hB, decide_eq_false (fun c => ?_)]
          · exact hj
          · have hd := List.take_append_drop (ebytes p s kd m l b).1.length (ebytes p' s' kd' m' l' b').1
            rw [c] at hd
            have hq := eparse_put he ho ((ebytes p' s' kd' m' l' b').1.drop (ebytes p s kd m l b).1.length)
            rw [hd, hp'] at hq
            by_cases h6 : (ebytes p' s' kd' m' l' b').1.drop (ebytes p s kd m l b).1.length = []
            · rw [h6, List.append_nil] at hd
              exact h5 hd
            · rw [if_neg h6] at hq
              unfold efail at hq
              simp at hq
      · exact hj
    · simp only [capstanlaw20_EntryApart.j1]
      rw [if_pos (by rw [bne_iff_ne]; exact h4)]
  · rw [if_neg h3]
    simp [capstanlaw20_EntryApart.j1]
end Go.Proofs.YtjidhcepdjdceaaDoor.Pure
