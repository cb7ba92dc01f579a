/- PoolBack: what has bytes is read from them, wherever they stand; what is read has just those bytes. -/
import Derived.Test.YtjnmomhkiknhdaaDoorP7
import Derived.Test.YtjnmomhkiknhdaaDoorP8
import Derived.Test.YtjnmomhkiknhdaaDoorLPool2
import Derived.Test.YtjnmomhkiknhdaaDoorLStr
namespace Go.Proofs.YtjnmomhkiknhdaaDoor.Pure
open Go.RowKit Go.Proofs.YtjnmomhkiknhdaaDoor.P Go.Proofs.YtjnmomhkiknhdaaDoor.M Go.Proofs.YtjnmomhkiknhdaaDoorW.PrintWords Go.Proofs.YtjnmomhkiknhdaaDoorW.PrintLast Go.Proofs.YtjnmomhkiknhdaaDoorW.PrintMore

theorem pawake_f (k : Nat) (hk : 100 ≤ k) : capstanlaw06_awake.f k = some true := by
  obtain ⟨d, rfl⟩ := Nat.exists_eq_add_of_le hk
  induction d with
  | zero => decide +kernel
  | succ d ih => exact capstanlaw06_awake.mono _ _ (ih (by omega))
theorem PoolBack_j3 (k : Nat) (hk : 100 ≤ k) (l : List Int) (hb : isB l) (hl : l.length ≤ 1500) (a : Int) : capstanlaw06_PoolBack.j3 k l a = some true := by
  obtain ⟨k, rfl⟩ : ∃ d, k = d + 1 := ⟨k - 1, by omega⟩
  simp only [capstanlaw06_PoolBack.j3]
  rw [poolread_f l hb (by omega) a k (by omega), Option.bind_some]
  rcases poolread_back hb a with ⟨h0, h1, h2⟩ | ⟨h0, hm, h1, h2, h3, h4⟩
  · rw [if_neg h0, h1, h2]; rfl
  · have hn := piece_length (l := l) (a := a) (n := (poolread l a).2.1 - a) h1 (by omega) (by omega)
    have htd := td_piece l a ((poolread l a).2.1 - a) h1 (by omega)
    rw [show a + ((poolread l a).2.1 - a) = (poolread l a).2.1 by omega] at htd
    rw [if_pos h0, pbytes_f _ k (by omega), Option.bind_some, h4, if_pos rfl, pmay_f _ k (by omega), Option.bind_some, if_pos hm, if_pos h1, if_pos (by omega), if_pos h3]
    dsimp only
    rw [hn, if_pos (by rw [wrap64_id (by omega) (by omega)]; omega), if_pos h1, if_pos h2, htd, beq_self_eq_true]
theorem PoolBack_j1 (k : Nat) (hk : 110 ≤ k) (l : List S38) (ho : ∀ v ∈ l, vok v) (hl1 : l.length ≤ 1000) (x y : List Int) (hx : isB x) (hy : isB y) (lx : x.length ≤ 300) (ly : y.length ≤ 1500) (a : Int) :
    capstanlaw06_PoolBack.j1 k l x y a (pbytes l).1 (pbytes l).2 false = some true := by
  obtain ⟨k, rfl⟩ : ∃ d, k = d + 2 := ⟨k - 2, by omega⟩
  simp only [capstanlaw06_PoolBack.j1]
  rw [if_neg (by decide)]
  by_cases h : (pbytes l).2 = 0
  · obtain ⟨hm, he⟩ := pbytes_ok h
    obtain ⟨hm1, hm2⟩ := pmay_iff.1 hm
    have hf := vflat_len hm2
    have hlen : (pbytes l).1.length ≤ 300 ∧ 1 ≤ (pbytes l).1.length := by
      rw [he]; simp only [List.length_cons]; omega
    have hBs := isB_append.2 ⟨isB_append.2 ⟨hx, pbytes_isB l⟩, hy⟩
    rw [if_pos h, Option.bind_some, if_pos (by simp; omega), Option.bind_some, if_pos (by simp; omega), Option.bind_some, if_pos (by simp; omega), List.nil_append, poolread_f _ hBs (by rw [List.length_append, List.length_append]; omega) _ _ (by omega), Option.bind_some, poolread_put hm ho x y hx hy]
    dsimp only
    rw [if_pos rfl, if_pos (by rw [wrap64_id (by omega) (by omega)]), same_f _ (by omega) _ (by omega), Option.bind_some, if_pos rfl]
    simp only [capstanlaw06_PoolBack.j2]
    rw [if_neg (by rw [beq_iff_eq]; omega), wrap64_id (x := ((pbytes l).1.length : Int) - 1) (by omega) (by omega), if_pos (by omega), if_pos (by omega), show (((pbytes l).1.length : Int) - 1).toNat = (pbytes l).1.length - 1 by omega,
      poolread_f _ (isB_take _ (pbytes_isB l)) (by rw [List.length_take]; omega) _ _ (by omega), Option.bind_some, if_pos (poolread_short hm ho)]
    exact PoolBack_j3 k (by omega) y hy ly a
  · rw [if_neg h]
    exact PoolBack_j3 (k + 1) (by omega) y hy ly a
theorem PoolBack : capstanlaw06_PoolBack.Pure := by
  intro l x y a g mx _ wx my _ wy wa
  have ho : ∀ v ∈ l, vok v := fun v hv => wf_i64 (g.2 v hv).2.1
  refine ⟨1500, ?_⟩
  unfold capstanlaw06_PoolBack.f
  rw [pawake_f _ (by omega), Option.bind_some, if_pos rfl]
  by_cases ll : (l.length : Int) > 1000
  · rw [if_pos ll]; simp [capstanlaw06_PoolBack.j0]
  rw [if_neg ll]
  by_cases lx : (x.length : Int) > 300
  · rw [if_pos lx]; simp [capstanlaw06_PoolBack.j0]
  rw [if_neg lx]
  by_cases ly : (y.length : Int) > 1500
  · rw [decide_eq_true ly]; simp [capstanlaw06_PoolBack.j0]
  rw [decide_eq_false ly]
  have hj := PoolBack_j1 1499 (by omega) l ho (by omega) x y (isB_of wx) (isB_of wy) (by omega) (by omega) a
  simp only [capstanlaw06_PoolBack.j0]
  rw [if_neg (by decide), pbytes_f _ _ (by omega), Option.bind_some, pmay_f _ _ (by omega), Option.bind_some]
  by_cases hm : pmay l = true
  · have h : (pbytes l).2 = 0 := by unfold pbytes; rw [if_pos hm]
    rw [if_neg (by rw [h, hm]; decide), if_pos h]
    exact hj
  · have h : pbytes l = ([], 60) := by unfold pbytes; rw [if_neg hm]
    have hm2 : pmay l = false := by simpa using hm
    rw [h] at hj ⊢
    rw [if_neg (by rw [hm2]; decide), if_neg (by decide), if_pos rfl]
    exact hj
end Go.Proofs.YtjnmomhkiknhdaaDoor.Pure
