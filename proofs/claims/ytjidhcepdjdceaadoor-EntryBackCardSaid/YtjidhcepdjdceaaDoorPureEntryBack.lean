/- EntryBack: what has bytes is parsed from them; what is parsed has just those bytes. -/
import Derived.Test.YtjidhcepdjdceaaDoorF7
import Derived.Test.YtjidhcepdjdceaaDoorLEntry2
namespace Go.Proofs.YtjidhcepdjdceaaDoor.Pure
open Go.RowKit Go.Proofs.YtjidhcepdjdceaaDoor.F Go.Proofs.YtjidhcepdjdceaaDoor.M Go.Proofs.YtjidhcepdjdceaaDoorW.PrintWords Go.Proofs.YtjidhcepdjdceaaDoorW.PrintLast Go.Proofs.YtjidhcepdjdceaaDoorW.PrintMore

theorem EntryBack_j1 (k : Nat) (hk : 100 ≤ k) (x : List Int) (hb : isB x) (hl : x.length ≤ 3000) : capstanlaw20_EntryBack.j1 k x = some true := by
  obtain ⟨k, rfl⟩ : ∃ d, k = d + 1 := ⟨k - 1, by omega⟩
  simp only [capstanlaw20_EntryBack.j1]
  rw [eparse_f x hb (by omega) k (by omega), Option.bind_some]
  rcases eparse_back x hb with h | ⟨p, s, kd, m, args, b, h, h1, h2, h3⟩
  · rw [h]
    unfold efail
    dsimp only
    rw [if_neg (by decide), if_pos rfl, refESameE_f _ _ _ _ _ _ _ _ _ _ _ _ (by simp) _ (by simp; omega), Option.bind_some, esame_self]; rfl
  · rw [h]
    have he := ebytes_eent (by rw [h1])
    have hm : emay kd m args b = true := by
      unfold eent at he
      rw [Bool.and_eq_true] at he
      exact he.2
    dsimp only
    rw [if_pos rfl, ebytes_f _ _ _ _ _ _ _ (by omega), Option.bind_some, h1, if_pos rfl, if_pos rfl, eent_f _ _ _ _ _ _ _ (by omega), Option.bind_some, he, if_pos rfl, emay_f _ _ _ _ _ (by omega), Option.bind_some, hm]
theorem EntryBack : capstanlaw20_EntryBack.Pure := by
  intro p s kd m l b x w hx1 hx2 wx
  have ho : ∀ v ∈ l, vok v := fun v hv => wf_i64 (w.2.2.2.2.1.2 v hv).2.1
  have hb : isB b := isB_of w.2.2.2.2.2.2
  refine ⟨400, ?_⟩
  unfold capstanlaw20_EntryBack.f
  rw [eawake_f _ (by omega), Option.bind_some, if_pos rfl, egreat_f, Option.bind_some]
  by_cases h1 : l.length > 20 ∨ b.length > 3000
  · rw [if_pos (decide_eq_true h1)]; simp [capstanlaw20_EntryBack.j0]
  rw [if_neg (by simpa using h1)]
  by_cases h2 : (x.length : Int) > 3000
  · rw [decide_eq_true h2]; simp [capstanlaw20_EntryBack.j0]
  rw [decide_eq_false h2]
  simp only [capstanlaw20_EntryBack.j0]
  have hj := EntryBack_j1 399 (by omega) x (isB_of wx) (by omega)
  rw [if_neg (by decide), ebytes_f _ _ _ _ _ _ _ (by omega), Option.bind_some, eent_f _ _ _ _ _ _ _ (by omega), Option.bind_some, ebytes_zero, if_neg (by simp)]
  by_cases h3 : (ebytes p s kd m l b).2 = 0
  · have he := ebytes_eent h3
    have hp := eparse_put he ho []
    rw [List.append_nil, if_pos rfl] at hp
    have hlen := ebytes_len (p := p) (s := s) (k := kd) (m := m) (l := l) (b := b)
    rw [if_pos h3, eparse_f _ (ebytes_isB _ _ _ _ _ _ hb) (by omega) _ (by omega), Option.bind_some, hp]
    dsimp only
    rw [if_pos rfl, refESameE_f _ _ _ _ _ _ _ _ _ _ _ _ (by omega) _ (by omega), Option.bind_some, decide_eq_true rfl, decide_eq_true rfl, esame_self]
    exact hj
  · rw [if_neg h3]
    exact hj
end Go.Proofs.YtjidhcepdjdceaaDoor.Pure
