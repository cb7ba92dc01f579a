/- CodeReads: from any bytes, at any place, the code is read that the chapter says. -/
import Derived.Test.YtdfjjooejfgglaaDoorP3
import Derived.Test.YtdfjjooejfgglaaDoorP4
import Derived.Test.YtdfjjooejfgglaaDoorP5
import Derived.Test.YtdfjjooejfgglaaDoorP6
import Derived.Test.YtdfjjooejfgglaaDoorLCode
namespace Go.Proofs.YtdfjjooejfgglaaDoor.Pure
open Go.RowKit Go.Proofs.YtdfjjooejfgglaaDoor.P Go.Proofs.YtdfjjooejfgglaaDoor.M Go.Proofs.YtdfjjooejfgglaaDoorW.PrintWords Go.Proofs.YtdfjjooejfgglaaDoorW.PrintLast Go.Proofs.YtdfjjooejfgglaaDoorW.PrintMore

theorem refBnd_all : ∀ n : Fin 256, capstanref04_Bounds.f 5 ((n : Nat) : Int) = some (bnd ((n : Nat) : Int)) := by decide +kernel
theorem refBnd_f (n : Fin 256) (k : Nat) (hk : 5 ≤ k) : capstanref04_Bounds.f k ((n : Nat) : Int) = some (bnd ((n : Nat) : Int)) := op_up (fun k => capstanref04_Bounds.mono _ k) (refBnd_all n) k hk
theorem refWide_f (n : Fin 256) (k : Nat) (hk : 5 ≤ k) : capstanref05_Wide.f k ((n : Nat) : Int) = some (decide ((bnd ((n : Nat) : Int)).2 > 0)) := by
  unfold capstanref05_Wide.f
  rw [refBnd_f n k hk, Option.bind_some]
theorem refMay_f (n : Fin 256) (a : Int) (k : Nat) (hk : 5 ≤ k) : capstanref04_May.f k ((n : Nat) : Int) a 0 = some (imay ((n : Nat) : Int) a) := by
  unfold capstanref04_May.f imay
  rw [refBnd_f n k hk, Option.bind_some, if_pos rfl]
  by_cases h : (bnd ((n : Nat) : Int)).1 ≤ a
  · rw [if_pos h, decide_eq_true h, Bool.true_and]
  · rw [if_neg h, decide_eq_false h, Bool.false_and]
theorem get_two' {l : List Int} (hb : isB l) {a : Int} (h0 : 0 ≤ a) (h : a + 2 ≤ (l.length : Int)) : M.get l a 2 = (rd l a + 256 * rd l (a + 1), a + 2, 0) := by
  obtain ⟨i, rfl⟩ : ∃ i : Nat, a = (i : Int) := ⟨a.toNat, by omega⟩
  have hp : piece l (i : Int) 2 = [rd l (i : Int), rd l ((i : Int) + 1)] := by
    unfold piece
    rw [show ((i : Int) + 1) = ((i + 1 : Nat) : Int) by omega, Int.toNat_natCast, rd_at (by omega), rd_at (by omega), List.drop_eq_getElem_cons (by omega), List.drop_eq_getElem_cons (by omega)]
    rfl
  rw [(get_in hb (by omega) h0 h).1, hp]
  simp [val]
theorem refRead_l0 (l : List Int) (hb : isB l) (hl : l.length ≤ 1500) (many : Int) (hm : many ≤ 255) (d : Nat) : ∀ (k : Nat) (a : Int) (acc : List S42), (acc.length : Int) + d = many → 0 ≤ a ∧ a ≤ (l.length : Int) → d + 10 ≤ k → capstanref05_Read.l0 k l a many acc = some (cread l d a acc) := by
  induction d with
  | zero =>
    intro k a acc h ha hk
    obtain ⟨k, rfl⟩ : ∃ n, k = n + 1 := ⟨k - 1, by omega⟩
    simp only [capstanref05_Read.l0]
    rw [if_neg (by omega)]; rfl
  | succ d ih =>
    intro k a acc h ha hk
    obtain ⟨k, rfl⟩ : ∃ n, k = n + 1 := ⟨k - 1, by omega⟩
    simp only [capstanref05_Read.l0]
    rw [if_pos (by omega), cread]
    by_cases h1 : a ≥ (l.length : Int)
    · have e := get_short (w := 1) (by omega) ha (by omega)
      rw [if_pos h1, e, if_neg (by decide)]
    have e := get_one hb ha.1 (by omega)
    obtain ⟨n, hn⟩ := byte_fin (isB_rd hb a)
    have r1 := isB_rd hb (a + 1)
    have r2 := isB_rd hb (a + 1 + 1)
    rw [if_neg h1, if_pos ha.1, if_pos (by omega), e, if_pos rfl]
    dsimp only
    rw [hn]
    unfold capstanref04_Known.f
    rw [Option.bind_some]
    by_cases h2 : ((n : Nat) : Int) < 33
    case neg => rw [decide_eq_false h2, if_neg (by decide), if_neg h2]
    rw [decide_eq_true h2, if_pos rfl, if_pos h2, refWide_f n k (by omega), Option.bind_some, wrap64_id (x := a + 1) (by omega) (by omega)]
    by_cases h3 : (bnd ((n : Nat) : Int)).2 > 0
    · rw [decide_eq_true h3, if_pos rfl, if_pos h3, wrap64_id (x := (l.length : Int) - (a + 1)) (by omega) (by omega)]
      by_cases h4 : (l.length : Int) - (a + 1) < 2
      · have e2 := get_short (w := 2) (l := l) (a := a + 1) (by omega) (by omega) h4
        rw [if_pos h4, e2, if_neg (by decide)]
      have e2 := get_two' hb (a := a + 1) (by omega) (by omega)
      rw [if_neg h4, if_pos (by omega), if_pos (by omega), wrap64_id (x := a + 1 + 1) (by omega) (by omega), if_pos (by omega), if_pos (by omega), wrap64_id (x := rd l (a + 1)) (by omega) (by omega), wrap64_id (x := rd l (a + 1 + 1)) (by omega) (by omega), wrap64_id (x := 256 * rd l (a + 1 + 1)) (by omega) (by omega), wrap64_id (x := rd l (a + 1) + 256 * rd l (a + 1 + 1)) (by omega) (by omega), wrap64_id (x := a + 1 + 2) (by omega) (by omega), refMay_f n _ k (by omega), Option.bind_some, e2, if_pos rfl]
      dsimp only
      cases h5 : imay ((n : Nat) : Int) (rd l (a + 1) + 256 * rd l (a + 1 + 1))
      · rw [if_neg (by decide), if_neg (by decide)]
      · rw [if_pos rfl, if_pos rfl, if_pos (by omega), show a + 1 + 2 = a + 3 by omega]
        exact ih _ _ _ (by simp; omega) (by omega) (by omega)
    · rw [decide_eq_false h3, if_neg (by decide), if_neg h3, refMay_f n _ k (by omega), Option.bind_some]
      cases h5 : imay ((n : Nat) : Int) 0
      · rw [if_neg (by decide), if_neg (by decide)]
      · rw [if_pos rfl, if_pos rfl, if_pos (by omega)]
        exact ih _ _ _ (by simp; omega) (by omega) (by omega)
theorem refRead_f (l : List Int) (hb : isB l) (hl : l.length ≤ 1500) (a : Int) (k : Nat) (hk : 400 ≤ k) : capstanref05_Read.f k l a = some (cparse l a) := by
  obtain ⟨k, rfl⟩ : ∃ n, k = n + 2 := ⟨k - 2, by omega⟩
  have hout : a < 0 ∨ a > (l.length : Int) → cparse l a = ([], 0, 2) := by
    intro h
    have e : M.get l a 1 = (0, 0, 2) := by unfold M.get; rw [if_pos (by omega)]
    unfold cparse
    rw [e, if_neg (by decide)]
  unfold capstanref05_Read.f
  by_cases h1 : a < 0
  · rw [if_pos h1, capstanref05_Read.j0, if_pos rfl, hout (.inl h1)]
  rw [if_neg h1]
  by_cases h2 : a > (l.length : Int)
  · rw [capstanref05_Read.j0, decide_eq_true h2, if_pos rfl, hout (.inr h2)]
  rw [capstanref05_Read.j0, decide_eq_false h2, if_neg (by decide)]
  unfold cparse
  by_cases h3 : a = (l.length : Int)
  · have e := get_short (w := 1) (l := l) (a := a) (by omega) (by omega) (by omega)
    rw [if_pos h3, e, if_neg (by decide)]
  have e := get_one hb (a := a) (by omega) (by omega)
  have hr := isB_rd hb a
  rw [if_neg h3, if_pos (by omega), if_pos (by omega), wrap64_id (x := rd l a) (by omega) (by omega), wrap64_id (x := a + 1) (by omega) (by omega), e, if_pos rfl]
  dsimp only
  have hj : ∀ b, b = true → capstanref05_Read.j1 (k + 1) l (a + 1) (rd l a) b = some ([], 0, 40) := fun b hb => by rw [capstanref05_Read.j1, if_pos hb]
  by_cases h4 : rd l a < 1
  · rw [if_pos h4, hj _ rfl, if_neg (by omega)]
  rw [if_neg h4]
  by_cases h5 : rd l a > 200
  · rw [hj _ (decide_eq_true h5), if_neg (by omega)]
  rw [decide_eq_false h5, capstanref05_Read.j1, if_neg (by decide), if_pos (by omega)]
  exact refRead_l0 l hb hl _ (by omega) _ k _ [] (by simp; omega) (by omega) (by omega)
theorem same5_l0 (x : List S42) (hx : x.length ≤ 100000) (d : Nat) : ∀ (k i : Nat), i + d = x.length → d < k → capstanref05_Same.l0 k x x i = some true := by
  induction d with
  | zero =>
    intro k i hi hk
    obtain ⟨k, rfl⟩ : ∃ n, k = n + 1 := ⟨k - 1, by omega⟩
    simp only [capstanref05_Same.l0]
    rw [if_neg (by omega)]
  | succ d ih =>
    intro k i hi hk
    obtain ⟨k, rfl⟩ : ∃ n, k = n + 1 := ⟨k - 1, by omega⟩
    simp only [capstanref05_Same.l0]
    rw [if_pos (by omega), if_pos (by omega), if_pos (by omega), if_neg (by simp), wrap64_id (x := (i : Int) + 1) (by omega) (by omega), show ((i : Int) + 1) = ((i + 1 : Nat) : Int) by omega]
    exact ih k (i + 1) (by omega) (by omega)
theorem cread_length (l : List Int) : ∀ (d : Nat) (a : Int) (acc : List S42), (cread l d a acc).1.length ≤ acc.length + d := by
  intro d
  induction d with
  | zero => intro a acc; exact Nat.le_refl _
  | succ d ih =>
    intro a acc
    rw [cread]
    repeat' split
    all_goals first | (have h_ := ih (a + 3) (acc ++ [⟨(M.get l a 1).1, (M.get l (a + 1) 2).1, 0⟩]); simp at h_; omega) | (have h_ := ih (a + 1) (acc ++ [⟨(M.get l a 1).1, 0, 0⟩]); simp at h_; omega) | simp
theorem CodeReads : capstanlaw05_CodeReads.Pure := by
  intro l0 a1 _ _ hw0 _
  have hb := isB_of hw0
  refine ⟨1000, ?_⟩
  unfold capstanlaw05_CodeReads.f
  by_cases h1 : (l0.length : Int) > 1500
  · rw [if_pos h1]
  have hl : l0.length ≤ 1500 := by omega
  have hlen : (cparse l0 a1).1.length ≤ 300 := by
    unfold cparse
    split
    · split
      · have := cread_length l0 (M.get l0 a1 1).1.toNat (a1 + 1) []
        simp at this; omega
      · simp
    · simp
  rw [if_neg h1, Option.bind_some, if_pos (by simp; omega), Option.bind_some, List.nil_append, cparse_f hb (by omega) a1 _ (by omega), Option.bind_some, refRead_f l0 hb hl a1 _ (by omega), Option.bind_some]
  have hs : capstanref05_Same.f 1000 (cparse l0 a1).1 (cparse l0 a1).1 = some true := by
    unfold capstanref05_Same.f
    rw [if_pos rfl]
    exact same5_l0 _ (by omega) (cparse l0 a1).1.length 1000 0 (by omega) (by omega)
  rw [hs, Option.bind_some, if_pos rfl, if_pos rfl, if_pos rfl, beq_self_eq_true]
end Go.Proofs.YtdfjjooejfgglaaDoor.Pure
