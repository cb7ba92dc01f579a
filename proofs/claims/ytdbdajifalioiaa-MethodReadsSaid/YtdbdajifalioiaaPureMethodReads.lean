/- MethodReads: from any bytes, at any place, the head is read that the chapter says. -/
import Derived.Test.YtdbdajifalioiaaU3
import Derived.Test.YtdbdajifalioiaaU4
import Derived.Test.YtdbdajifalioiaaU6
import Derived.Test.YtdbdajifalioiaaLMethod2
import Derived.Test.YtdbdajifalioiaaLStr
namespace Go.Proofs.Ytdbdajifalioiaa.Pure
open Go.RowKit Go.Proofs.Ytdbdajifalioiaa.U Go.Proofs.Ytdbdajifalioiaa.M Go.Proofs.YtdbdajifalioiaaW.PrintWords Go.Proofs.YtdbdajifalioiaaW.PrintLast Go.Proofs.YtdbdajifalioiaaW.PrintMore

theorem st_short {l : List Int} {w lo hi a : Int} (hw : 1 ≤ w ∧ w ≤ 8) (ha : 0 ≤ a ∧ a ≤ (l.length : Int)) (h : (l.length : Int) - a < w) : st l w lo hi a = (0, 0, 10) := by
  unfold st
  rw [get_short hw ha h, if_neg (by decide)]
theorem st_one {l : List Int} (hb : isB l) {lo hi a : Int} (h0 : 0 ≤ a) (h : a < (l.length : Int)) : st l 1 lo hi a = if rd l a < lo ∨ rd l a > hi then (0, 0, 70) else (rd l a, a + 1, 0) := by
  unfold st
  rw [get_one hb h0 h, if_pos rfl]
theorem kf_le {l : List Int} : ∀ (d : Nat) (a : Int) (acc : List Int), 0 ≤ a ∧ a ≤ (l.length : Int) → (kf l d a acc).2.2 = 0 → 0 ≤ (kf l d a acc).2.1 ∧ (kf l d a acc).2.1 ≤ (l.length : Int) := by
  intro d
  induction d with
  | zero => intro a acc h _; exact h
  | succ d ih =>
    intro a acc h hz
    by_cases h1 : (st l 1 1 3 a).2.2 = 0
    · rw [kf, if_pos h1] at hz ⊢
      have hn := st_next h1
      exact ih _ _ (by omega) hz
    · rw [kf, if_neg h1] at hz; exact absurd hz h1
theorem kinds_snoc (acc : List Int) (x : Int) (h : acc.all kd = true) : (acc ++ [x]).all kd = kd x := by
  rw [List.all_append, h, Bool.true_and, List.all_cons, List.all_nil, Bool.and_true]
theorem refRow_l0 (l : List Int) (hb : isB l) (hl : l.length ≤ 1500) (a many : Int) (ha : 0 ≤ a) (hm : 0 ≤ many ∧ many ≤ 255) (d : Nat) : ∀ (k i : Nat) (acc : List Int), (i : Int) + d = many + 1 → 1 ≤ i → acc.all kd = true → acc.length + 1 = i → a + i ≤ (l.length : Int) → 300 + d ≤ k →
    capstanref07_row.l0 k l a many acc i = some (kf l d (a + i) acc) := by
  induction d with
  | zero =>
    intro k i acc hi h1 hk hlen hle hf
    obtain ⟨k, rfl⟩ : ∃ n, k = n + 1 := ⟨k - 1, by omega⟩
    simp only [capstanref07_row.l0]
    rw [if_neg (by omega), wrap64_id (x := a + 1) (by omega) (by omega), wrap64_id (by omega) (by omega), kf]
    congr 2; congr 1; omega
  | succ d ih =>
    intro k i acc hi h1 hk hlen hle hf
    obtain ⟨k, rfl⟩ : ∃ n, k = n + 1 := ⟨k - 1, by omega⟩
    simp only [capstanref07_row.l0]
    rw [if_pos (by omega), wrap64_id (x := a + i) (by omega) (by omega), kf]
    by_cases h2 : a + i ≥ (l.length : Int)
    · rw [if_pos h2, st_short (by omega) (by omega) (by omega), if_neg (by decide)]
    rw [if_neg h2, if_pos (by omega), if_pos (by omega), if_pos (by omega), Option.bind_some, refKinds_f _ (by simp; omega) _ (by simp; omega), Option.bind_some, kinds_snoc _ _ hk, st_one hb (by omega) (by omega)]
    have hr := isB_rd hb (a + i)
    cases h3 : kd (rd l (a + i))
    · have : rd l (a + i) < 1 ∨ rd l (a + i) > 3 := by unfold kd at h3; have := of_decide_eq_false h3; omega
      rw [if_neg (by decide), if_pos this, if_neg (by decide)]
    · have : ¬ (rd l (a + i) < 1 ∨ rd l (a + i) > 3) := by unfold kd at h3; have := of_decide_eq_true h3; omega
      rw [if_pos rfl, if_neg this, if_pos rfl, wrap64_id (by omega) (by omega), show rd l (a + i) % 256 = rd l (a + i) by omega, show ((i : Int) + 1) = ((i + 1 : Nat) : Int) by omega, show a + (i : Int) + 1 = a + ((i + 1 : Nat) : Int) by omega]
      exact ih k (i + 1) _ (by omega) (by omega) (by rw [kinds_snoc _ _ hk, h3]) (by simp; omega) (by omega) (by omega)
theorem refRow_f (l : List Int) (hb : isB l) (hl : l.length ≤ 1500) (a most : Int) (ha : 0 ≤ a ∧ a ≤ (l.length : Int)) (k : Nat) (hk : 600 ≤ k) : capstanref07_row.f k l a most = some (krow l a most) := by
  unfold capstanref07_row.f krow
  by_cases h1 : a ≥ (l.length : Int)
  · rw [if_pos h1, st_short (by omega) (by omega) (by omega), if_neg (by decide)]
  have hr := isB_rd hb a
  rw [if_neg h1, if_pos (by omega), if_pos (by omega), wrap64_id (by omega) (by omega)]
  by_cases h2 : rd l a > most
  · have e : st l 1 0 most a = (0, 0, 70) := by rw [st_one hb (by omega) (by omega), if_pos (.inr h2)]
    rw [if_pos h2, e, if_neg (by decide)]
  have e : st l 1 0 most a = (rd l a, a + 1, 0) := by rw [st_one hb (by omega) (by omega), if_neg (by omega)]
  rw [if_neg h2, e, if_pos rfl]
  have := refRow_l0 l hb hl a (rd l a) (by omega) hr (rd l a).toNat k 1 [] (by omega) (by omega) rfl rfl (by omega) (by omega)
  exact this
theorem refRead_step (l : List Int) (hb : isB l) (a : Int) (ha : 0 ≤ a ∧ a ≤ (l.length : Int)) (hl : l.length ≤ 1500) (i w lo hi : Int) (hi5 : 0 ≤ i ∧ i < 5) (ew : rd [1, 1, 3, 2, 2] i = w) (el : rd [1, 0, 0, 0, 0] i = lo) (eh : rd [2, 1, 1048576, 256, 1024] i = hi) (hw : 1 ≤ w ∧ w ≤ 3) (got A L : List Int) (hg : got.length ≤ 5) (k : Nat) (hk : 14 ≤ k) :
    capstanref07_Read.l0 (k + 1) l a [1, 1, 3, 2, 2] [1, 0, 0, 0, 0] [2, 1, 1048576, 256, 1024] got i A L 0 false 0 0 0 = if (st l w lo hi a).2.2 = 0 then capstanref07_Read.l0 k l (st l w lo hi a).2.1 [1, 1, 3, 2, 2] [1, 0, 0, 0, 0] [2, 1, 1048576, 256, 1024] (got ++ [(st l w lo hi a).1]) (i + 1) A L 0 false 0 0 0 else some (mbad (st l w lo hi a).2.2) := by
  conv => lhs; unfold capstanref07_Read.l0
  rw [if_pos hi5.2, if_pos hi5.1, if_pos (show i < (([1, 1, 3, 2, 2] : List Int).length : Int) from hi5.2), ew, refGet_f l hb (by omega) a w (by omega) k hk, Option.bind_some]
  by_cases h1 : (get l a w).2.2 = 0
  · rw [if_pos h1, if_pos (show i < (([1, 0, 0, 0, 0] : List Int).length : Int) from hi5.2), el]
    by_cases h2 : (get l a w).1 < lo
    · have e : st l w lo hi a = (0, 0, 70) := by unfold st; rw [if_pos h1, if_pos (.inl h2)]
      rw [if_pos h2, e, if_neg (by decide)]; rfl
    rw [if_neg h2, if_pos (show i < (([2, 1, 1048576, 256, 1024] : List Int).length : Int) from hi5.2), eh]
    by_cases h3 : (get l a w).1 > hi
    · have e : st l w lo hi a = (0, 0, 70) := by unfold st; rw [if_pos h1, if_pos (.inr h3)]
      rw [if_pos h3, e, if_neg (by decide)]; rfl
    have e : st l w lo hi a = ((get l a w).1, (get l a w).2.1, 0) := by unfold st; rw [if_pos h1, if_neg (by omega)]
    rw [if_neg h3, e, if_pos rfl, if_pos (by omega), wrap64_id (by omega) (by omega)]
  · have e : st l w lo hi a = (0, 0, 10) := by unfold st; rw [if_neg h1, get_err hb hw ha h1]
    rw [if_neg h1, e, if_neg (by decide)]; rfl
theorem refRead_l0 (l : List Int) (hb : isB l) (a : Int) (ha : 0 ≤ a ∧ a ≤ (l.length : Int)) (hl : l.length ≤ 1500) (A L : List Int) (k : Nat) (hk : 30 ≤ k) :
    capstanref07_Read.l0 k l a [1, 1, 3, 2, 2] [1, 0, 0, 0, 0] [2, 1, 1048576, 256, 1024] [] 0 A L 0 false 0 0 0 = some (mnums l A L a) := by
  obtain ⟨k, rfl⟩ : ∃ n, k = n + 6 := ⟨k - 6, by omega⟩
  unfold mnums
  rw [refRead_step l hb a ha hl 0 1 1 2 (by decide) rfl rfl rfl (by decide) [] A L (by decide) (k + 5) (by omega)]
  by_cases h1 : (st l 1 1 2 a).2.2 = 0
  case neg => rw [if_neg h1, if_neg h1]
  have n1 := st_next h1
  rw [if_pos h1, if_pos h1]
  generalize st l 1 1 2 a = v1 at *
  rw [refRead_step l hb v1.2.1 (by omega) hl _ 1 0 1 (by decide) rfl rfl rfl (by decide) _ A L (by simp) (k + 4) (by omega)]
  by_cases h2 : (st l 1 0 1 v1.2.1).2.2 = 0
  case neg => rw [if_neg h2, if_neg h2]
  have n2 := st_next h2
  rw [if_pos h2, if_pos h2]
  generalize st l 1 0 1 v1.2.1 = v2 at *
  rw [refRead_step l hb v2.2.1 (by omega) hl _ 3 0 1048576 (by decide) rfl rfl rfl (by decide) _ A L (by simp) (k + 3) (by omega)]
  by_cases h3 : (st l 3 0 1048576 v2.2.1).2.2 = 0
  case neg => rw [if_neg h3, if_neg h3]
  have n3 := st_next h3
  rw [if_pos h3, if_pos h3]
  generalize st l 3 0 1048576 v2.2.1 = v3 at *
  rw [refRead_step l hb v3.2.1 (by omega) hl _ 2 0 256 (by decide) rfl rfl rfl (by decide) _ A L (by simp) (k + 2) (by omega)]
  by_cases h4 : (st l 2 0 256 v3.2.1).2.2 = 0
  case neg => rw [if_neg h4, if_neg h4]
  have n4 := st_next h4
  rw [if_pos h4, if_pos h4]
  generalize st l 2 0 256 v3.2.1 = v4 at *
  rw [refRead_step l hb v4.2.1 (by omega) hl _ 2 0 1024 (by decide) rfl rfl rfl (by decide) _ A L (by simp) (k + 1) (by omega)]
  by_cases h5 : (st l 2 0 1024 v4.2.1).2.2 = 0
  case neg => rw [if_neg h5, if_neg h5]
  rw [if_pos h5, if_pos h5]
  generalize st l 2 0 1024 v4.2.1 = v5 at *
  conv => lhs; unfold capstanref07_Read.l0
  rfl
theorem refRead_f (l : List Int) (hb : isB l) (hl : l.length ≤ 1500) (a : Int) (k : Nat) (hk : 700 ≤ k) : capstanref07_Read.f k l a = some (mread l a) := by
  obtain ⟨k, rfl⟩ : ∃ n, k = n + 1 := ⟨k - 1, by omega⟩
  have hout : a < 0 ∨ a > (l.length : Int) → mread l a = mbad 2 := by
    intro h
    have e : (st l 1 0 4 a) = (0, 0, 2) := by
      have e0 : M.get l a 1 = (0, 0, 2) := by unfold M.get; rw [if_pos (by omega)]
      unfold st
      rw [e0, if_neg (by decide)]
    have e1 : krow l a 4 = ([], 0, 2) := by unfold krow; rw [e, if_neg (by decide)]
    unfold mread
    rw [e1, if_neg (by decide)]
  unfold capstanref07_Read.f
  by_cases h1 : a < 0
  · rw [if_pos h1, capstanref07_Read.j0, if_pos rfl, hout (.inl h1)]; rfl
  rw [if_neg h1]
  by_cases h2 : a > (l.length : Int)
  · rw [capstanref07_Read.j0, decide_eq_true h2, if_pos rfl, hout (.inr h2)]; rfl
  rw [capstanref07_Read.j0, decide_eq_false h2, if_neg (by decide), refRow_f l hb hl a 4 (by omega) k (by omega), Option.bind_some]
  unfold mread
  by_cases h3 : (krow l a 4).2.2 = 0
  case neg => rw [if_neg h3, if_neg h3]; rfl
  have hA : 0 ≤ (krow l a 4).2.1 ∧ (krow l a 4).2.1 ≤ (l.length : Int) ∧ (krow l a 4).1.length ≤ 4 := by
    unfold krow at h3 ⊢
    by_cases h4 : (st l 1 0 4 a).2.2 = 0
    · rw [if_pos h4] at h3 ⊢
      have hn := st_next h4
      have hle := kf_le _ _ _ (by omega) h3
      have hlen := kf_length _ _ _ h3
      simp at hlen
      exact ⟨hle.1, hle.2, by omega⟩
    · rw [if_neg h4] at h3; exact absurd h3 h4
  rw [if_pos h3, if_pos h3, wrap64_id (by omega) (by omega)]
  generalize krow l a 4 = A at *
  rw [refRow_f l hb hl A.2.1 _ (by omega) k (by omega), Option.bind_some]
  by_cases h4 : (krow l A.2.1 (16 - (A.1.length : Int))).2.2 = 0
  case neg => rw [if_neg h4, if_neg h4]; rfl
  rw [if_pos h4, if_pos h4]
  have hL : 0 ≤ (krow l A.2.1 (16 - (A.1.length : Int))).2.1 ∧ (krow l A.2.1 (16 - (A.1.length : Int))).2.1 ≤ (l.length : Int) := by
    unfold krow at h4 ⊢
    by_cases h5 : (st l 1 0 (16 - (A.1.length : Int)) A.2.1).2.2 = 0
    · rw [if_pos h5] at h4 ⊢
      have hn := st_next h5
      exact kf_le _ _ _ (by omega) h4
    · rw [if_neg h5] at h4; exact absurd h4 h5
  exact refRead_l0 l hb _ hL hl _ _ k (by omega)
theorem reads_l0 (x y : List Int) (d : Nat) : ∀ (k i : Nat) (A L : List Int) (r : Int) (q : Bool) (f s h : Int) (c : List S114), i + d = A.length → A.length ≤ 100000 → capstanlaw07_MethodReads.l0 (k + d + 1) x y true i A L r q f s h c = some ((strOfNums y).toList == (strOfNums x).toList) := by
  induction d with
  | zero =>
    intro k i A L r q f s h c hi hA
    simp only [capstanlaw07_MethodReads.l0]
    rw [if_neg (by omega), if_pos trivial]
  | succ d ih =>
    intro k i A L r q f s h c hi hA
    rw [show k + (d + 1) + 1 = (k + d + 1) + 1 from rfl]
    conv => lhs; unfold capstanlaw07_MethodReads.l0
    rw [if_pos (by omega), if_pos (by omega), wrap64_id (x := (i : Int) + 1) (by omega) (by omega)]
    exact ih k (i + 1) _ _ _ _ _ _ _ _ (by simp; omega) (by simpa using hA)
theorem mread_shape (l : List Int) (a : Int) : (mread l a).1.length ≤ 100 ∧ (mread l a).2.1.length ≤ 100 ∧ (mread l a).2.2.2.2.2.2.2.1 = [] := by
  unfold mread
  by_cases h1 : (krow l a 4).2.2 = 0
  case neg => rw [if_neg h1]; exact ⟨by simp [mbad], by simp [mbad], rfl⟩
  rw [if_pos h1]
  by_cases h2 : (krow l (krow l a 4).2.1 (16 - ((krow l a 4).1.length : Int))).2.2 = 0
  case neg => rw [if_neg h2]; exact ⟨by simp [mbad], by simp [mbad], rfl⟩
  rw [if_pos h2]
  have kl : ∀ (b m : Int), (krow l b m).2.2 = 0 → m ≤ 16 → (krow l b m).1.length ≤ 100 := by
    intro b m h hm
    unfold krow at h ⊢
    by_cases h4 : (st l 1 0 m b).2.2 = 0
    · rw [if_pos h4] at h ⊢
      have hn := st_next h4
      have hlen := kf_length _ _ _ h
      simp at hlen
      omega
    · rw [if_neg h4] at h; exact absurd h h4
  have a1 := kl _ _ h1 (by omega)
  have a2 := kl _ _ h2 (by omega)
  unfold mnums
  repeat' split
  all_goals first | exact ⟨a1, a2, rfl⟩ | exact ⟨by simp [mbad], by simp [mbad], rfl⟩
theorem MethodReads : capstanlaw07_MethodReads.Pure := by
  intro l0 a1 _ _ hw0 _
  have hb := isB_of hw0
  refine ⟨1000, ?_⟩
  unfold capstanlaw07_MethodReads.f
  by_cases h1 : (l0.length : Int) > 1500
  · rw [if_pos h1]
  have hl : l0.length ≤ 1500 := by omega
  rw [if_neg h1, Option.bind_some, if_pos (by simp; omega), Option.bind_some, List.nil_append, read_f hb (by omega) a1 _ (by omega), Option.bind_some, refRead_f l0 hb hl a1 _ (by omega), Option.bind_some]
  obtain ⟨hA, hL, hc⟩ := mread_shape l0 a1
  generalize mread l0 a1 = m at *
  rw [refSame7_f _ _ _ _ _ _ _ _ _ _ _ _ _ _ _ _ hA hL _ (by omega), Option.bind_some]
  have hs : msame m.1 m.2.1 m.2.2.1 m.2.2.2.1 m.2.2.2.2.1 m.2.2.2.2.2.1 m.2.2.2.2.2.2.1 m.1 m.2.1 m.2.2.1 m.2.2.2.1 m.2.2.2.2.1 m.2.2.2.2.2.1 m.2.2.2.2.2.2.1 = true := by unfold msame; simp
  rw [hs, if_pos rfl, hc, if_pos (by rfl), if_pos rfl, if_pos rfl, beq_self_eq_true]
  rw [show (1000 : Nat) = 999 + 1 from rfl, capstanlaw07_MethodReads.j0]
  obtain ⟨k, e⟩ : ∃ k, 999 = k + m.1.length + 1 := ⟨999 - m.1.length - 1, by omega⟩
  rw [e]
  have := reads_l0 l0 l0 m.1.length k 0 m.1 m.2.1 m.2.2.1 m.2.2.2.1 m.2.2.2.2.1 m.2.2.2.2.2.1 m.2.2.2.2.2.2.1 [] (by omega) (by omega)
  rw [show ((0 : Nat) : Int) = 0 from rfl] at this
  rw [this, beq_self_eq_true]
end Go.Proofs.Ytdbdajifalioiaa.Pure
