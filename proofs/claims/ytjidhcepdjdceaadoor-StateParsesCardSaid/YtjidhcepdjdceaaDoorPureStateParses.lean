/- StateParses: any bytes are of the state that the chapter says, or of none; they stay. -/
import Derived.Test.YtjidhcepdjdceaaDoorQ5
import Derived.Test.YtjidhcepdjdceaaDoorQ6
import Derived.Test.YtjidhcepdjdceaaDoorQ7
import Derived.Test.YtjidhcepdjdceaaDoorLState
namespace Go.Proofs.YtjidhcepdjdceaaDoor.Pure
open Go.RowKit Go.Proofs.YtjidhcepdjdceaaDoor.Q Go.Proofs.YtjidhcepdjdceaaDoor.M Go.Proofs.YtjidhcepdjdceaaDoorW.PrintWords Go.Proofs.YtjidhcepdjdceaaDoorW.PrintLast Go.Proofs.YtjidhcepdjdceaaDoorW.PrintMore

theorem num_l0 (l : List Int) (hb : isB l) (h8 : l.length ≤ 8) (i : Nat) : ∀ k : Nat, i ≤ l.length → i < k → capstanref18_number.l0 k l (val (l.drop i)) ((i : Int) - 1) = some (val l) := by
  induction i with
  | zero =>
    intro k hi hk
    obtain ⟨k, rfl⟩ : ∃ n, k = n + 1 := ⟨k - 1, by omega⟩
    simp only [capstanref18_number.l0]
    rw [if_neg (by omega)]; rfl
  | succ i ih =>
    intro k hi hk
    obtain ⟨k, rfl⟩ : ∃ n, k = n + 1 := ⟨k - 1, by omega⟩
    simp only [capstanref18_number.l0]
    have hv := val_drop_cons (l := l) (i := i) (by omega)
    have hr := isB_rd hb (i : Int)
    have h1 := val_bound (isB_drop i hb)
    have h2 := val_bound (isB_drop (i + 1) hb)
    have h3 := pow_le8 (n := (l.drop i).length) (by rw [List.length_drop]; omega)
    rw [show (((i + 1 : Nat) : Int) - 1) = (i : Int) by omega, if_pos (by omega), if_pos (by omega), if_pos (by omega), u64_id (x := 256 * val (l.drop (i + 1))) (by omega) (by omega), u64_id (x := rd l i) (by omega) (by omega), u64_id (by omega) (by omega), wrap64_id (by omega) (by omega),
      show 256 * val (l.drop (i + 1)) + rd l i = val (l.drop i) by omega]
    exact ih k (by omega) (by omega)
theorem num_f (l : List Int) (hb : isB l) (h8 : l.length ≤ 8) (k : Nat) (hk : 10 ≤ k) : capstanref18_number.f k l = some (val l) := by
  have h := num_l0 l hb h8 l.length k (by omega) (by omega)
  unfold capstanref18_number.f
  rw [wrap64_id (by omega) (by omega)]
  rw [List.drop_eq_nil_of_le (by omega)] at h
  exact h
theorem part_f (a : Int) : capstanref17_Part.f a = some (decide (-1048576 ≤ a ∧ a ≤ 1048576)) := by
  unfold capstanref17_Part.f
  split
  · congr 1; rw [Bool.eq_iff_iff, decide_eq_true_eq, decide_eq_true_eq]; omega
  · congr 1; rw [eq_comm, decide_eq_false_iff_not]; omega
theorem outside_f (k a b : Int) : capstanref17_Outside.f k a b = some (may k a b) := by
  unfold capstanref17_Outside.f may pm
  rw [part_f, part_f]
  by_cases h1 : k = 1
  · subst h1
    by_cases h3 : b = 0 <;> simp [h3]
  · by_cases h2 : k = 2
    · subst h2
      rw [if_neg (by omega), if_pos rfl, Option.bind_some]
      by_cases h4 : -1048576 ≤ a ∧ a ≤ 1048576
      · rw [if_pos (decide_eq_true h4), Option.bind_some]
        congr 1
        rw [Bool.eq_iff_iff]
        simp
        omega
      · rw [if_neg (by simpa using h4)]
        congr 1
        rw [eq_comm, ← Bool.not_eq_true]
        simp
        omega
    · simp [h1, h2]
theorem piece_take (l : List Int) (a : Int) : (piece l a 6).take 3 = piece l a 3 := by
  unfold piece
  rw [List.take_take]; rfl
theorem piece_drop (l : List Int) (a : Int) (h : 0 ≤ a) : (piece l a 6).drop 3 = piece l (a + 3) 3 := by
  unfold piece
  rw [List.drop_take, List.drop_drop, show (a + 3).toNat = a.toNat + 3 by omega]; rfl
theorem sread_f (l : List Int) (hb : isB l) (hl : l.length ≤ 1000) (a : Int) (h0 : 0 ≤ a) (h1 : a ≤ l.length) (k : Nat) (hk : 30 ≤ k) :
    capstanref18_Read.f k l a = some (if (vread l a).2.2.2.2 = 0 then ((vread l a).1, (vread l a).2.1, (vread l a).2.2.1, (vread l a).2.2.2.1) else (0, 0, 0, -1)) := by
  obtain ⟨k, rfl⟩ : ∃ n, k = n + 3 := ⟨k - 3, by omega⟩
  unfold capstanref18_Read.f vread
  rw [if_neg (by omega), if_neg (by omega : ¬ (a < 0 ∨ a > (l.length : Int)))]
  simp only [capstanref18_Read.j0]
  by_cases h2 : a ≥ (l.length : Int)
  · rw [if_pos (decide_eq_true h2), if_pos (by omega : (l.length : Int) - a < 1), if_neg (by decide)]
  rw [if_neg (by simpa using h2), if_pos h0, if_pos (by omega), if_neg (by omega : ¬ (l.length : Int) - a < 1)]
  by_cases h3 : rd l a = 1
  · rw [if_pos h3, if_pos h3, h3]
    simp only [capstanref18_Read.j1]
    rw [if_neg (by decide), wrap64_id (x := (l.length : Int) - a) (by omega) (by omega), wrap64_id (x := (l.length : Int) - a - 1) (by omega) (by omega)]
    simp only [capstanref18_Read.j2]
    rw [wrap64_id (x := a + 1) (by omega) (by omega), wrap64_id (x := a + 1 + 8) (by omega) (by omega)]
    by_cases h4 : (l.length : Int) < a + 9
    · rw [if_pos (decide_eq_true (by omega)), if_pos h4, if_neg (by decide)]
    · have hn := piece_length (l := l) (a := a + 1) (n := 8) (by omega) (by omega) (by omega)
      rw [if_neg (by simp; omega), if_pos (by omega), if_pos (by omega), if_pos (by omega), if_pos trivial, td_piece l (a + 1) 8 (by omega) (by omega), num_f _ (piece_isB _ _ hb) (by rw [hn]; decide) _ (by omega), Option.bind_some, outside_f, Option.bind_some, if_pos (by unfold may; simp), if_neg h4, if_pos rfl, show a + 1 + 8 = a + 9 by omega]
  rw [if_neg h3, if_neg h3]
  by_cases h4 : rd l a = 2
  · rw [if_pos h4, if_pos h4, h4]
    simp only [capstanref18_Read.j1]
    rw [if_neg (by decide), wrap64_id (x := (l.length : Int) - a) (by omega) (by omega), wrap64_id (x := (l.length : Int) - a - 1) (by omega) (by omega)]
    simp only [capstanref18_Read.j2]
    rw [wrap64_id (x := a + 1) (by omega) (by omega), wrap64_id (x := a + 1 + 6) (by omega) (by omega)]
    by_cases h5 : (l.length : Int) < a + 7
    · rw [if_pos (decide_eq_true (by omega)), if_pos h5, if_neg (by decide)]
    · have hn := piece_length (l := l) (a := a + 1) (n := 6) (by omega) (by omega) (by omega)
      obtain ⟨g1, b1, c1⟩ := get_three hb (a := a + 1) (by omega) (by omega)
      obtain ⟨g2, b2, c2⟩ := get_three hb (a := a + 4) (by omega) (by omega)
      have hn3 := piece_length (l := l) (a := a + 1) (n := 3) (by omega) (by omega) (by omega)
      have hn4 := piece_length (l := l) (a := a + 4) (n := 3) (by omega) (by omega) (by omega)
      rw [if_neg (by simp; omega), if_pos (by omega), if_pos (by omega), if_pos (by omega), if_neg (by decide), td_piece l (a + 1) 6 (by omega) (by omega), hn, if_pos (by decide), piece_take, piece_drop _ _ (by omega), show a + 1 + 3 = a + 4 by omega, num_f _ (piece_isB _ _ hb) (by rw [hn3]; decide) _ (by omega), Option.bind_some, num_f _ (piece_isB _ _ hb) (by rw [hn4]; decide) _ (by omega), Option.bind_some, outside_f, Option.bind_some,
        wrap64_id (x := val (piece l (a + 1) 3)) (by omega) (by omega), wrap64_id (x := val (piece l (a + 4) 3)) (by omega) (by omega), wrap64_id (x := val (piece l (a + 1) 3) - 1048576) (by omega) (by omega), wrap64_id (x := val (piece l (a + 4) 3) - 1048576) (by omega) (by omega), if_neg h5]
      by_cases h6 : pm (val (piece l (a + 1) 3) - 1048576) (val (piece l (a + 4) 3) - 1048576) = true
      · rw [if_pos (by unfold may; rw [h6]; rfl), if_pos h6, if_pos rfl, show a + 1 + 6 = a + 7 by omega]
      · rw [if_neg (by unfold may; rw [Bool.not_eq_true] at h6; rw [h6]; simp), if_neg h6, if_neg (by decide)]
  · rw [if_neg h4, if_neg h4, if_neg (by decide)]
    simp only [capstanref18_Read.j1, capstanref18_Read.j2]
    rw [if_pos trivial, if_pos trivial]
def rfin (l : List Int) (p : List S37 × Int × Int) : List S37 × Int := if p.2.2 = 0 then (if p.2.1 = (l.length : Int) then (p.1, 0) else ([], 180)) else ([], 180)
theorem refParse_l0 (l : List Int) (hb : isB l) (hl : l.length ≤ 1000) (h0 : 0 < l.length) (d : Nat) : ∀ (k i : Nat) (a : Int) (acc : List S37), acc.length = i → rd l 0 = i + d → rd l 0 ≤ 4 → 0 ≤ a → a ≤ l.length → d + 40 ≤ k → capstanref18_Parse.l0 k l acc a i = some (rfin l (pread l d a acc)) := by
  induction d with
  | zero =>
    intro k i a acc hi hr hr4 ha0 ha1 hk
    obtain ⟨k, rfl⟩ : ∃ n, k = n + 1 := ⟨k - 1, by omega⟩
    simp only [capstanref18_Parse.l0]
    have e : rfin l (pread l 0 a acc) = if a = (l.length : Int) then (acc, 0) else ([], 180) := by
      rw [show pread l 0 a acc = (acc, a, 0) from rfl]
      unfold rfin
      dsimp only
      rw [if_pos rfl]
    rw [e, if_pos (by omega), wrap64_id (by omega) (by omega), if_neg (by omega)]
    split <;> rfl
  | succ d ih =>
    intro k i a acc hi hr hr4 ha0 ha1 hk
    obtain ⟨k, rfl⟩ : ∃ n, k = n + 1 := ⟨k - 1, by omega⟩
    simp only [capstanref18_Parse.l0, pread]
    rw [if_pos (by omega), wrap64_id (by omega) (by omega), if_pos (by omega), sread_f l hb hl a ha0 ha1 k (by omega), Option.bind_some]
    rcases vread_back hb a with ⟨e0, _⟩ | ⟨e0, _, f1, f2, f3, _⟩
    · rw [if_neg e0, if_neg e0, if_pos (by decide)]
      unfold rfin
      rw [if_neg e0]
    · rw [if_pos e0, if_pos e0]
      dsimp only
      rw [if_neg (by omega), if_pos (by omega), wrap64_id (by omega) (by omega)]
      exact ih k (i + 1) _ _ (by simp [hi]) (by omega) hr4 (by omega) f2 (by omega)
theorem refParse_f (l : List Int) (hb : isB l) (hl : l.length ≤ 1000) (k : Nat) (hk : 60 ≤ k) : capstanref18_Parse.f k l = some (sparse l) := by
  obtain ⟨k, rfl⟩ : ∃ n, k = n + 1 := ⟨k - 1, by omega⟩
  unfold capstanref18_Parse.f sparse
  rw [get_one hb, if_neg (by omega : ¬ ((0 : Int) < 0 ∨ 0 > (l.length : Int)))]
  by_cases h : (l.length : Int) = 0
  · rw [if_pos h, if_pos (by omega : (l.length : Int) - 0 < 1), if_neg (by decide)]
    simp only [capstanref18_Parse.j0]
    rw [if_pos trivial]
  rw [if_neg h, if_pos (by omega), if_neg (by omega : ¬ (l.length : Int) - 0 < 1)]
  simp only [capstanref18_Parse.j0]
  have hr := isB_rd hb 0
  by_cases h2 : rd l 0 > 4
  · rw [if_pos (decide_eq_true h2), if_neg (fun c => by have := c.2; omega)]
  rw [if_neg (by simpa using h2), if_pos ⟨trivial, by omega⟩]
  have hp := refParse_l0 l hb hl (by omega) (rd l 0).toNat k 0 1 [] rfl (by omega) (by omega) (by omega) (by omega) (by omega)
  rw [show ((0 : Int) + 1) = 1 from rfl]
  refine Eq.trans hp ?_
  congr 1
  unfold rfin sfin
  rcases pread_back hb (rd l 0).toNat 1 [] (by omega) (by omega) with ⟨e0, _⟩ | ⟨m, g1, g2, g3, g4, g5, g6⟩
  · rw [if_neg e0, if_neg e0]
  · have gm : smay m = true := smay_iff.2 ⟨by omega, g3⟩
    have e1 : (pread l (rd l 0).toNat 1 []).1 = m := by rw [g1]; simp
    have e2 : (pread l (rd l 0).toNat 1 []).2.2 = 0 := by rw [g1]
    have e : sbytes m = (piece l 0 (pread l (rd l 0).toNat 1 []).2.1, 0) := by
      unfold sbytes
      have hj := piece_join l 0 1 ((pread l (rd l 0).toNat 1 []).2.1 - 1) (by omega) (by omega) (by omega)
      rw [piece_one (by omega) (by omega)] at hj
      rw [if_pos gm, g6, g2, show ((rd l 0).toNat : Int) = rd l 0 by omega, show (pread l (rd l 0).toNat 1 []).2.1 = 1 + ((pread l (rd l 0).toNat 1 []).2.1 - 1) by omega]
      rw [show 1 + ((pread l (rd l 0).toNat 1 []).2.1 - 1) - 1 = (pread l (rd l 0).toNat 1 []).2.1 - 1 by omega, ← hj]
      rfl
    have hn := piece_length (l := l) (a := 0) (n := (pread l (rd l 0).toNat 1 []).2.1) (by omega) (by omega) (by omega)
    rw [if_pos e2, if_pos e2, e1, e]
    by_cases h3 : (pread l (rd l 0).toNat 1 []).2.1 = (l.length : Int)
    · rw [if_pos h3, if_pos ⟨rfl, by rw [h3]; unfold piece; simp⟩]
    · rw [if_neg h3, if_neg (fun c => h3 (by have := congrArg List.length c.2; dsimp only at this; omega))]
theorem StateParses : capstanlaw18_StateParses.Pure := by
  intro l hm _ wl
  have hb := isB_of wl
  refine ⟨200, ?_⟩
  unfold capstanlaw18_StateParses.f
  by_cases h : (l.length : Int) > 100
  · rw [if_pos h]
  have hlen : (sparse l).1.length ≤ 100 := by
    rcases sparse_back l with ⟨_, h1⟩ | ⟨_, h1, _⟩
    · rw [h1]; simp
    · have := (smay_iff.1 h1).1; omega
  rw [if_neg h, Option.bind_some, if_pos (by simp; omega), Option.bind_some, List.nil_append, sparse_f l hb (by omega) _ (by omega), Option.bind_some, refParse_f l hb (by omega) _ (by omega), Option.bind_some,
    same17_f _ (by omega) _ (by omega), Option.bind_some, if_pos rfl, if_pos rfl, beq_self_eq_true]
end Go.Proofs.YtjidhcepdjdceaaDoor.Pure
