/- PoolOnce: values that are added one by one stand there once each, in order. -/
import Derived.Test.YtjnmomhkiknhdaaDoorP9
import Derived.Test.YtjnmomhkiknhdaaDoorP10
import Derived.Test.YtjnmomhkiknhdaaDoorLPoolAw
namespace Go.Proofs.YtjnmomhkiknhdaaDoor.Pure
open Go.RowKit Go.Proofs.YtjnmomhkiknhdaaDoor.P Go.Proofs.YtjnmomhkiknhdaaDoor.M Go.Proofs.YtjnmomhkiknhdaaDoorW.PrintWords Go.Proofs.YtjnmomhkiknhdaaDoorW.PrintLast Go.Proofs.YtjnmomhkiknhdaaDoorW.PrintMore

/-- Each value stands once. -/
def once (p : List S38) : Prop := ∀ (i j : Nat) (v : S38), p[i]? = some v → p[j]? = some v → i = j
theorem once_snoc {p : List S38} {v : S38} (h : once p) (hv : v ∉ p) : once (p ++ [v]) := by
  intro i j u hi hj
  have key : ∀ n, (p ++ [v])[n]? = some u → (n < p.length ∧ p[n]? = some u) ∨ (n = p.length ∧ u = v) := by
    intro n hn
    rcases Nat.lt_or_ge n p.length with hc | hc
    · rw [List.getElem?_append_left hc] at hn; exact .inl ⟨hc, hn⟩
    · rw [List.getElem?_append_right hc] at hn
      rcases Nat.eq_zero_or_pos (n - p.length) with h0 | h0
      · rw [h0] at hn; exact .inr ⟨by omega, (Option.some.inj hn).symm⟩
      · rw [List.getElem?_eq_none (by simp; omega)] at hn; cases hn
  rcases key i hi with ⟨a1, a2⟩ | ⟨a1, a2⟩ <;> rcases key j hj with ⟨b1, b2⟩ | ⟨b1, b2⟩
  · exact h i j u a2 b2
  · exact absurd (List.mem_iff_getElem?.2 ⟨i, b2 ▸ a2⟩) hv
  · exact absurd (List.mem_iff_getElem?.2 ⟨j, a2 ▸ b2⟩) hv
  · omega
theorem once_find {p : List S38} (h : once p) {i : Nat} (hi : i < p.length) : isFind p p[i] i :=
  .inr ⟨i, rfl, List.getElem?_eq_getElem hi, fun j hj e => by have := h i j _ (List.getElem?_eq_getElem hi) e; omega⟩
theorem PoolOnce_l1 (p : List S38) (hp : p.length ≤ 32) (ho : once p) (d : Nat) : ∀ (k i : Nat), i + d = p.length → d + 100 ≤ k → capstanlaw06_PoolOnce.l1 k p i = some true := by
  induction d with
  | zero =>
    intro k i hi hk
    obtain ⟨k, rfl⟩ : ∃ n, k = n + 1 := ⟨k - 1, by omega⟩
    simp only [capstanlaw06_PoolOnce.l1]
    rw [if_neg (by omega)]
  | succ d ih =>
    intro k i hi hk
    obtain ⟨k, rfl⟩ : ∃ n, k = n + 1 := ⟨k - 1, by omega⟩
    simp only [capstanlaw06_PoolOnce.l1]
    obtain ⟨r, h1, h2⟩ := find_f p (by omega) p[i] k (by omega)
    obtain rfl := isFind_uniq h2 (once_find ho (by omega))
    rw [if_pos (by omega), if_pos (by omega), rdT_at (by omega), h1, Option.bind_some, if_pos rfl, wrap64_id (by omega) (by omega)]
    exact ih k (i + 1) (by omega) (by omega)
theorem PoolOnce_l0 (l : List S38) (hl : l.length ≤ 100) (d : Nat) : ∀ (k i : Nat) (p : List S38), i + d = l.length → 3 * d + 200 ≤ k → pmay p = true → once p → capstanlaw06_PoolOnce.l0 k l p i = some true := by
  induction d with
  | zero =>
    intro k i p hi hk hm ho
    obtain ⟨k, rfl⟩ : ∃ n, k = n + 1 := ⟨k - 1, by omega⟩
    simp only [capstanlaw06_PoolOnce.l0]
    rw [if_neg (by omega)]
    exact PoolOnce_l1 p (pmay_iff.1 hm).1 ho p.length k 0 (by omega) (by have := (pmay_iff.1 hm).1; omega)
  | succ d ih =>
    intro k i p hi hk hm ho
    obtain ⟨k, rfl⟩ : ∃ n, k = n + 1 := ⟨k - 1, by omega⟩
    have hp := (pmay_iff.1 hm).1
    obtain ⟨r, h1, h2⟩ := find_f p (by omega) l[i] k (by omega)
    simp only [capstanlaw06_PoolOnce.l0]
    rw [if_pos (by omega), if_pos (by omega), rdT_at (by omega), h1, Option.bind_some]
    have hA := add_f p l[i] r h2 k (by omega)
    rw [if_pos hm] at hA
    rcases h2 with ⟨rfl, hn⟩ | ⟨n, rfl, hv, hlt⟩
    · rw [if_neg (by omega)] at hA
      rw [hA, Option.bind_some]
      by_cases h4 : pmay (p ++ [l[i]]) = true
      · have hq := (pmay_iff.1 h4).1
        have hL : ((p ++ [l[i]]).length : Int) = (p.length : Int) + 1 := by simp
        obtain ⟨s, h5, h6⟩ := find_f (p ++ [l[i]]) (by omega) l[i] k (by omega)
        have ho2 := once_snoc ho hn
        have h7 := once_find ho2 (i := p.length) (by simp)
        rw [List.getElem_concat_length (by rfl)] at h7
        obtain rfl := isFind_uniq h6 h7
        rw [if_pos h4]
        dsimp only
        rw [if_pos rfl, pmay_f _ k (by omega), Option.bind_some, if_pos h4, if_neg (by omega), if_neg (by omega), if_pos (by omega), if_pos (by omega), rdT_at (by simp), List.getElem_concat_length (by rfl), if_neg (by simp), h5, Option.bind_some, show (((p.length : Int)) != (p.length : Int)) = false by simp]
        obtain ⟨k, rfl⟩ : ∃ n, k = n + 1 := ⟨k - 1, by omega⟩
        simp only [capstanlaw06_PoolOnce.j1]
        rw [if_neg (by decide), if_neg (by omega), if_pos (by omega), if_pos trivial, hL, wrap64_id (by omega) (by omega), if_pos rfl, if_neg (by omega), if_pos (by omega), if_pos (by omega), Int.toNat_natCast, List.take_left, same_f p (by omega) k (by omega), Option.bind_some, if_pos rfl, wrap64_id (by omega) (by omega)]
        exact ih k (i + 1) _ (by omega) (by omega) h4 ho2
      · rw [if_neg h4]
        dsimp only
        rw [if_neg (by decide), if_neg (by omega), if_neg (by simp)]
        unfold capstanref03_Copy.f
        rw [if_pos (by simp; omega), Option.bind_some, List.nil_append, Option.bind_some, if_pos (by simp; omega), pmay_f _ k (by omega), Option.bind_some]
        rw [if_neg h4, wrap64_id (by omega) (by omega)]
        exact ih k (i + 1) _ (by omega) (by omega) hm ho
    · obtain ⟨hn, he⟩ := List.getElem?_eq_some_iff.1 hv
      rw [if_pos (by omega)] at hA
      rw [hA, Option.bind_some]
      dsimp only
      rw [if_pos rfl, pmay_f _ k (by omega), Option.bind_some, if_pos hm, if_neg (by omega), if_neg (by omega), if_pos (by omega), if_pos (by omega), rdT_at hn, he, if_neg (by simp), h1, Option.bind_some, show (((n : Int)) != (n : Int)) = false by simp]
      obtain ⟨k, rfl⟩ : ∃ n, k = n + 1 := ⟨k - 1, by omega⟩
      simp only [capstanlaw06_PoolOnce.j1]
      rw [if_neg (by decide), if_pos (by omega), if_pos trivial, if_pos trivial, if_neg (by omega), if_neg (by omega), if_pos (by omega), if_pos (by omega), Int.toNat_natCast, List.take_length, same_f p (by omega) k (by omega), Option.bind_some, if_pos rfl, wrap64_id (by omega) (by omega)]
      exact ih k (i + 1) _ (by omega) (by omega) hm ho
theorem PoolOnce : capstanlaw06_PoolOnce.Pure := by
  intro l g
  refine ⟨600, ?_⟩
  unfold capstanlaw06_PoolOnce.f
  rw [pawake_f _ (by omega), Option.bind_some, if_pos rfl]
  by_cases ll : (l.length : Int) > 100
  · rw [if_pos ll]
  · rw [if_neg ll]
    exact PoolOnce_l0 l (by omega) l.length 600 0 [] (by omega) (by omega) (by decide) (fun i j v h => by simp at h)
end Go.Proofs.YtjnmomhkiknhdaaDoor.Pure
