/- EntryParses: any bytes are of the entry that the chapter says, or of none; and the entry's bytes are its own. -/
import Derived.Test.YtjidhcepdjdceaaDoorE6
import Derived.Test.YtjidhcepdjdceaaDoorE7
import Derived.Test.YtjidhcepdjdceaaDoorE9
import Derived.Test.YtjidhcepdjdceaaDoorE10
import Derived.Test.YtjidhcepdjdceaaDoorLEntry2
namespace Go.Proofs.YtjidhcepdjdceaaDoor.Pure
open Go.RowKit Go.Proofs.YtjidhcepdjdceaaDoor.E Go.Proofs.YtjidhcepdjdceaaDoor.M Go.Proofs.YtjidhcepdjdceaaDoorW.PrintWords Go.Proofs.YtjidhcepdjdceaaDoorW.PrintLast Go.Proofs.YtjidhcepdjdceaaDoorW.PrintMore

theorem num_l0 (l : List Int) (hb : isB l) (h8 : l.length ≤ 8) (i : Nat) : ∀ k : Nat, i ≤ l.length → i < k → capstanref18_number.l0 k l (val (l.drop i)) ((i : Int) - 1) = some (val l) := by
  induction i with
  | zero =>
    intro k hi hk
    obtain ⟨k, rfl⟩ : ∃ n, k = n + 1 := ⟨k - 1, by omega⟩
    simp only [capstanref18_number.l0]
    rw [if_neg (by omega)]; rfl
  | succ i ih =>
    intro k hi hk
    obtain ⟨k, rfl⟩ : ∃ n, k = n + 1 := ⟨k - 1, by omega⟩
    simp only [capstanref18_number.l0]
    have hv := val_drop_cons (l := l) (i := i) (by omega)
    have hr := isB_rd hb (i : Int)
    have h1 := val_bound (isB_drop i hb)
    have h2 := val_bound (isB_drop (i + 1) hb)
    have h3 := pow_le8 (n := (l.drop i).length) (by rw [List.length_drop]; omega)
    rw [show (((i + 1 : Nat) : Int) - 1) = (i : Int) by omega, if_pos (by omega), if_pos (by omega), if_pos (by omega), u64_id (x := 256 * val (l.drop (i + 1))) (by omega) (by omega), u64_id (x := rd l i) (by omega) (by omega), u64_id (by omega) (by omega), wrap64_id (by omega) (by omega),
      show 256 * val (l.drop (i + 1)) + rd l i = val (l.drop i) by omega]
    exact ih k (by omega) (by omega)
theorem num_f (l : List Int) (hb : isB l) (h8 : l.length ≤ 8) (k : Nat) (hk : 10 ≤ k) : capstanref18_number.f k l = some (val l) := by
  have h := num_l0 l hb h8 l.length k (by omega) (by omega)
  unfold capstanref18_number.f
  rw [wrap64_id (by omega) (by omega)]
  rw [List.drop_eq_nil_of_le (by omega)] at h
  exact h
theorem piece_take (l : List Int) (a : Int) : (piece l a 6).take 3 = piece l a 3 := by
  unfold piece
  rw [List.take_take]; rfl
theorem piece_drop (l : List Int) (a : Int) (h : 0 ≤ a) : (piece l a 6).drop 3 = piece l (a + 3) 3 := by
  unfold piece
  rw [List.drop_take, List.drop_drop, show (a + 3).toNat = a.toNat + 3 by omega]; rfl
theorem sread_f (l : List Int) (hb : isB l) (hl : l.length ≤ 100000) (a : Int) (h0 : 0 ≤ a) (h1 : a ≤ l.length) (k : Nat) (hk : 30 ≤ k) :
    capstanref18_Read.f k l a = some (if (vread l a).2.2.2.2 = 0 then ((vread l a).1, (vread l a).2.1, (vread l a).2.2.1, (vread l a).2.2.2.1) else (0, 0, 0, -1)) := by
  obtain ⟨k, rfl⟩ : ∃ n, k = n + 3 := ⟨k - 3, by omega⟩
  unfold capstanref18_Read.f vread
  rw [if_neg (by omega), if_neg (by omega : ¬ (a < 0 ∨ a > (l.length : Int)))]
  simp only [capstanref18_Read.j0]
  by_cases h2 : a ≥ (l.length : Int)
  · rw [if_pos (decide_eq_true h2), if_pos (by omega : (l.length : Int) - a < 1), if_neg (by decide)]
  rw [if_neg (by simpa using h2), if_pos h0, if_pos (by omega), if_neg (by omega : ¬ (l.length : Int) - a < 1)]
  by_cases h3 : rd l a = 1
  · rw [if_pos h3, if_pos h3, h3]
    simp only [capstanref18_Read.j1]
    rw [if_neg (by decide), wrap64_id (x := (l.length : Int) - a) (by omega) (by omega), wrap64_id (x := (l.length : Int) - a - 1) (by omega) (by omega)]
    simp only [capstanref18_Read.j2]
    rw [wrap64_id (x := a + 1) (by omega) (by omega), wrap64_id (x := a + 1 + 8) (by omega) (by omega)]
    by_cases h4 : (l.length : Int) < a + 9
    · rw [if_pos (decide_eq_true (by omega)), if_pos h4, if_neg (by decide)]
    · have hn := piece_length (l := l) (a := a + 1) (n := 8) (by omega) (by omega) (by omega)
      rw [if_neg (by simp; omega), if_pos (by omega), if_pos (by omega), if_pos (by omega), if_pos trivial, td_piece l (a + 1) 8 (by omega) (by omega), num_f _ (piece_isB _ _ hb) (by rw [hn]; decide) _ (by omega), Option.bind_some, outside_f, Option.bind_some, if_pos (by unfold may; simp), if_neg h4, if_pos rfl, show a + 1 + 8 = a + 9 by omega]
  rw [if_neg h3, if_neg h3]
  by_cases h4 : rd l a = 2
  · rw [if_pos h4, if_pos h4, h4]
    simp only [capstanref18_Read.j1]
    rw [if_neg (by decide), wrap64_id (x := (l.length : Int) - a) (by omega) (by omega), wrap64_id (x := (l.length : Int) - a - 1) (by omega) (by omega)]
    simp only [capstanref18_Read.j2]
    rw [wrap64_id (x := a + 1) (by omega) (by omega), wrap64_id (x := a + 1 + 6) (by omega) (by omega)]
    by_cases h5 : (l.length : Int) < a + 7
    · rw [if_pos (decide_eq_true (by omega)), if_pos h5, if_neg (by decide)]
    · have hn := piece_length (l := l) (a := a + 1) (n := 6) (by omega) (by omega) (by omega)
      obtain ⟨g1, b1, c1⟩ := get_three hb (a := a + 1) (by omega) (by omega)
      obtain ⟨g2, b2, c2⟩ := get_three hb (a := a + 4) (by omega) (by omega)
      have hn3 := piece_length (l := l) (a := a + 1) (n := 3) (by omega) (by omega) (by omega)
      have hn4 := piece_length (l := l) (a := a + 4) (n := 3) (by omega) (by omega) (by omega)
      rw [if_neg (by simp; omega), if_pos (by omega), if_pos (by omega), if_pos (by omega), if_neg (by decide), td_piece l (a + 1) 6 (by omega) (by omega), hn, if_pos (by decide), piece_take, piece_drop _ _ (by omega), show a + 1 + 3 = a + 4 by omega, num_f _ (piece_isB _ _ hb) (by rw [hn3]; decide) _ (by omega), Option.bind_some, num_f _ (piece_isB _ _ hb) (by rw [hn4]; decide) _ (by omega), Option.bind_some, outside_f, Option.bind_some,
        wrap64_id (x := val (piece l (a + 1) 3)) (by omega) (by omega), wrap64_id (x := val (piece l (a + 4) 3)) (by omega) (by omega), wrap64_id (x := val (piece l (a + 1) 3) - 1048576) (by omega) (by omega), wrap64_id (x := val (piece l (a + 4) 3) - 1048576) (by omega) (by omega), if_neg h5]
      by_cases h6 : pm (val (piece l (a + 1) 3) - 1048576) (val (piece l (a + 4) 3) - 1048576) = true
      · rw [if_pos (by unfold may; rw [h6]; rfl), if_pos h6, if_pos rfl, show a + 1 + 6 = a + 7 by omega]
      · rw [if_neg (by unfold may; rw [Bool.not_eq_true] at h6; rw [h6]; simp), if_neg h6, if_neg (by decide)]
  · rw [if_neg h4, if_neg h4, if_neg (by decide)]
    simp only [capstanref18_Read.j1, capstanref18_Read.j2]
    rw [if_pos trivial, if_pos trivial]

def rfin (l : List Int) (p s : Int) (q : List S37 × Int × Int) : Int × Int × Int × Int × List S37 × List Int × Int := if q.2.2 = 0 then (if q.2.1 = (l.length : Int) then (if eent p s (rd l 7) (rd l 8) q.1 [] = true then (p, s, rd l 7, rd l 8, q.1, [], 0) else efail) else efail) else efail
def rtail (l : List Int) (p s : Int) : Int × Int × Int × Int × List S37 × List Int × Int := if rd l 7 = 2 then (if (l.length : Int) = 10 + rd l 8 + 256 * rd l 9 then (if eent p s (rd l 7) 0 [] (l.drop 10) = true then (p, s, rd l 7, 0, [], l.drop 10, 0) else efail) else efail) else rfin l p s (pread l (rd l 9).toNat 10 [])
def rparse (l : List Int) : Int × Int × Int × Int × List S37 × List Int × Int := if (l.length : Int) < 10 then efail else rtail l (rd l 0) (val (piece l 1 6))
theorem refE_l1 (l : List Int) (hb : isB l) (hl : l.length ≤ 100000) (h10 : 10 ≤ l.length) (p s : Int) (d : Nat) : ∀ (k i : Nat) (a : Int) (acc : List S37), acc.length = i → rd l 9 = i + d → 0 ≤ a → a ≤ l.length → d + 600 ≤ k → capstanref20_Parse.l1 k l a i 0 0 0 0 p s (rd l 7) (rd l 8) acc = some (rfin l p s (pread l d a acc)) := by
  have hr := isB_rd hb 9
  induction d with
  | zero =>
    intro k i a acc hi h9 ha0 ha1 hk
    obtain ⟨k, rfl⟩ : ∃ n, k = n + 1 := ⟨k - 1, by omega⟩
    simp only [capstanref20_Parse.l1]
    rw [if_pos (by omega), wrap64_id (by omega) (by omega), if_neg (by omega), show pread l 0 a acc = (acc, a, 0) from rfl]
    unfold rfin efail
    dsimp only
    rw [if_pos rfl]
    by_cases h : a = (l.length : Int)
    · rw [if_pos h, if_pos h, refEEnt_f _ _ _ _ _ _ (by omega) _ (by omega), Option.bind_some]
      split <;> rfl
    · rw [if_neg h, if_neg h]
  | succ d ih =>
    intro k i a acc hi h9 ha0 ha1 hk
    obtain ⟨k, rfl⟩ : ∃ n, k = n + 1 := ⟨k - 1, by omega⟩
    simp only [capstanref20_Parse.l1, pread]
    rw [if_pos (by omega), wrap64_id (by omega) (by omega), if_pos (by omega), sread_f l hb hl a ha0 ha1 k (by omega), Option.bind_some]
    rcases vread_back hb a with ⟨e0, _⟩ | ⟨e0, _, f1, f2, f3, _⟩
    · rw [if_neg e0, if_neg e0, if_pos (by decide)]
      unfold rfin efail
      rw [if_neg e0]
    · rw [if_pos e0, if_pos e0]
      dsimp only
      rw [if_neg (by omega), if_pos (by omega), wrap64_id (by omega) (by omega)]
      exact ih k (i + 1) _ _ (by simp [hi]) (by omega) (by omega) f2 (by omega)
theorem refE_end (l : List Int) (hb : isB l) (hl : l.length ≤ 100000) (h10 : 10 ≤ l.length) (p s : Int) (k : Nat) (hk : 900 ≤ k) : capstanref20_Parse.l0 k l 0 0 0 0 0 p s 0 0 = some (rtail l p s) := by
  obtain ⟨k, rfl⟩ : ∃ n, k = n + 1 := ⟨k - 1, by omega⟩
  have h8 := isB_rd hb 8
  have h9 := isB_rd hb 9
  simp only [capstanref20_Parse.l0]
  unfold rtail
  rw [if_neg (by decide), if_pos (by omega)]
  by_cases h2 : rd l 7 = 2
  · rw [if_pos h2, if_pos h2, if_pos (by omega), if_pos (by omega), wrap64_id (x := rd l 8) (by omega) (by omega), wrap64_id (x := rd l 9) (by omega) (by omega), wrap64_id (x := 10 + rd l 8) (by omega) (by omega), wrap64_id (x := 256 * rd l 9) (by omega) (by omega), wrap64_id (by omega) (by omega)]
    by_cases h3 : (l.length : Int) = 10 + rd l 8 + 256 * rd l 9
    · rw [if_pos h3, if_pos h3, Option.bind_some, if_pos (by omega), if_pos (by simp; omega), Option.bind_some, List.nil_append, refEEnt_f _ _ _ _ _ _ (by simp) _ (by simp; omega), Option.bind_some]
      unfold efail
      split <;> rfl
    · rw [if_neg h3, if_neg h3]; rfl
  · rw [if_neg h2, if_neg h2, if_pos (by omega), wrap64_id (x := rd l 8) (by omega) (by omega)]
    exact refE_l1 l hb hl h10 p s (rd l 9).toNat k 0 10 [] rfl (by omega) (by omega) (by omega) (by omega)
theorem refE_step (l : List Int) (hb : isB l) (h10 : 10 ≤ l.length) (p s i j : Int) (h1 : 1 ≤ i) (h6 : i ≤ 6) (hj : j = i - 1) (hs0 : 0 ≤ s) (hs : s < 1099511627776) (k : Nat) : capstanref20_Parse.l0 (k + 1) l i 0 0 0 0 p s 0 0 = capstanref20_Parse.l0 k l j 0 0 0 0 p (rd l i + 256 * s) 0 0 := by
  subst hj
  have hr := isB_rd hb i
  conv => lhs; unfold capstanref20_Parse.l0
  rw [if_pos (by omega), if_pos (by omega), if_pos (by omega), wrap64_id (x := i - 1) (by omega) (by omega), wrap64_id (x := 256 * s) (by omega) (by omega), wrap64_id (x := rd l i) (by omega) (by omega), wrap64_id (by omega) (by omega), Int.add_comm]
theorem seqval (l : List Int) (h10 : 10 ≤ l.length) : val (piece l 1 6) = rd l 1 + 256 * (rd l 2 + 256 * (rd l 3 + 256 * (rd l 4 + 256 * (rd l 5 + 256 * (rd l 6 + 256 * 0))))) := by
  match l, h10 with
  | a0 :: a1 :: a2 :: a3 :: a4 :: a5 :: a6 :: a7 :: a8 :: a9 :: t, _ => rfl
theorem refEParse_f (l : List Int) (hb : isB l) (hl : l.length ≤ 100000) (k : Nat) (hk : 1000 ≤ k) : capstanref20_Parse.f k l = some (rparse l) := by
  unfold capstanref20_Parse.f rparse
  by_cases h : (l.length : Int) < 10
  · rw [if_pos h, if_pos h]; rfl
  · obtain ⟨k, rfl⟩ : ∃ n, k = n + 6 := ⟨k - 6, by omega⟩
    have h0 := isB_rd hb 0
    have h1 := isB_rd hb 1
    have h2 := isB_rd hb 2
    have h3 := isB_rd hb 3
    have h4 := isB_rd hb 4
    have h5 := isB_rd hb 5
    have h6 := isB_rd hb 6
    have e := refE_end l hb hl (by omega) (rd l 0) (val (piece l 1 6)) k (by omega)
    rw [seqval l (by omega)] at e ⊢
    rw [if_neg h, if_neg h, if_pos (by omega), wrap64_id (by omega) (by omega), ← e,
      show k + 6 = k + 5 + 1 from rfl, refE_step l hb (by omega) _ _ 6 5 (by omega) (by omega) (by omega) (by omega) (by omega),
      show k + 5 = k + 4 + 1 from rfl, refE_step l hb (by omega) _ _ 5 4 (by omega) (by omega) (by omega) (by omega) (by omega),
      show k + 4 = k + 3 + 1 from rfl, refE_step l hb (by omega) _ _ 4 3 (by omega) (by omega) (by omega) (by omega) (by omega),
      show k + 3 = k + 2 + 1 from rfl, refE_step l hb (by omega) _ _ 3 2 (by omega) (by omega) (by omega) (by omega) (by omega),
      show k + 2 = k + 1 + 1 from rfl, refE_step l hb (by omega) _ _ 2 1 (by omega) (by omega) (by omega) (by omega) (by omega),
      refE_step l hb (by omega) _ _ 1 0 (by omega) (by omega) (by omega) (by omega) (by omega)]
theorem pread_vok (l : List Int) (d : Nat) (a : Int) (h : (pread l d a []).2.2 = 0) : ∀ v ∈ (pread l d a []).1, vok v := by
  have := evals_vok l d a false [] (fun v hv => by cases hv)
  rw [evals_pread l d a [] h] at this
  exact this
theorem rparse_back (l : List Int) (hb : isB l) : rparse l = efail ∨ ∃ p s kd m args b, rparse l = (p, s, kd, m, args, b, 0) ∧ ebytes p s kd m args b = (l, 0) ∧ (∀ v ∈ args, vok v) := by
  unfold rparse
  by_cases h : (l.length : Int) < 10
  · rw [if_pos h]; exact .inl rfl
  rw [if_neg h]
  obtain ⟨a0, a1, a2, a3, a4, a5, a6, a7, a8, a9, t, rfl⟩ : ∃ a0 a1 a2 a3 a4 a5 a6 a7 a8 a9 t, l = a0 :: a1 :: a2 :: a3 :: a4 :: a5 :: a6 :: a7 :: a8 :: a9 :: t := by
    match l, h with
    | a0 :: a1 :: a2 :: a3 :: a4 :: a5 :: a6 :: a7 :: a8 :: a9 :: t, _ => exact ⟨_, _, _, _, _, _, _, _, _, _, _, rfl⟩
    | [_, _, _, _, _, _, _, _, _], h => exact absurd (by simp) h
    | [_, _, _, _, _, _, _, _], h => exact absurd (by simp) h
    | [_, _, _, _, _, _, _], h => exact absurd (by simp) h
    | [_, _, _, _, _, _], h => exact absurd (by simp) h
    | [_, _, _, _, _], h => exact absurd (by simp) h
    | [_, _, _, _], h => exact absurd (by simp) h
    | [_, _, _], h => exact absurd (by simp) h
    | [_, _], h => exact absurd (by simp) h
    | [_], h => exact absurd (by simp) h
    | [], h => exact absurd (by simp) h
  obtain ⟨L, hL⟩ : ∃ L, L = a0 :: a1 :: a2 :: a3 :: a4 :: a5 :: a6 :: a7 :: a8 :: a9 :: t := ⟨_, rfl⟩
  have hs : leb 6 (val (piece L 1 6)) = [a1, a2, a3, a4, a5, a6] := by
    have := leb_pc (l := L) (by rw [hL]; exact hb) (a := 1) (w := 6) (by omega) (by omega) (by rw [hL]; simp; omega)
    rw [show piece L 1 6 = [a1, a2, a3, a4, a5, a6] by rw [hL]; rfl] at this ⊢
    exact this
  have r0 : rd L 0 = a0 := by rw [hL]; rfl
  have r7 : rd L 7 = a7 := by rw [hL]; rfl
  have r8 : rd L 8 = a8 := by rw [hL]; rfl
  have r9 : rd L 9 = a9 := by rw [hL]; rfl
  have hd : L.drop 10 = t := by rw [hL]; rfl
  have hlen : (L.length : Int) = 10 + t.length := by rw [hL]; simp; omega
  have b8 := isB_rd (l := L) (by rw [hL]; exact hb) 8
  have b9 := isB_rd (l := L) (by rw [hL]; exact hb) 9
  rw [← hL] at hb ⊢
  unfold rtail
  rw [r0, r7, r8, r9, hd, hlen]
  rw [r8] at b8
  rw [r9] at b9
  by_cases h2 : a7 = 2
  · rw [if_pos h2]
    by_cases h3 : (10 : Int) + t.length = 10 + a8 + 256 * a9
    · rw [if_pos h3]
      by_cases h4 : eent a0 (val (piece L 1 6)) a7 0 [] t = true
      · rw [if_pos h4]
        refine .inr ⟨_, _, _, _, _, _, rfl, ?_, fun v hv => by cases hv⟩
        unfold ebytes
        rw [if_pos h4, hs, hL]
        unfold ebody
        rw [if_neg (by omega), show leb 2 (t.length : Int) = [(t.length : Int) % 256, (t.length : Int) / 256 % 256] from rfl, show (t.length : Int) % 256 = a8 by omega, show (t.length : Int) / 256 % 256 = a9 by omega]
        rfl
      · rw [if_neg h4]; exact .inl rfl
    · rw [if_neg h3]; exact .inl rfl
  · rw [if_neg h2]
    unfold rfin
    rcases pread_back hb a9.toNat 10 [] (by omega) (by omega) with ⟨e0, _⟩ | ⟨m, g1, g2, g3, g4, g5, g6⟩
    · rw [if_neg e0]; exact .inl rfl
    · have e2 : (pread L a9.toNat 10 []).2.2 = 0 := by rw [g1]
      have e1 : (pread L a9.toNat 10 []).1 = m := by rw [g1]; simp
      have ho := pread_vok L a9.toNat 10 e2
      rw [e1] at ho
      rw [if_pos e2, e1, r7, r8]
      by_cases h3 : (pread L a9.toNat 10 []).2.1 = (L.length : Int)
      · rw [if_pos h3]
        by_cases h4 : eent a0 (val (piece L 1 6)) a7 a8 m [] = true
        · rw [if_pos h4]
          refine .inr ⟨_, _, _, _, _, _, rfl, ?_, ho⟩
          have h7 : a7 = 1 := by
            rcases (eent_ok h4).2 with h5 | h5
            · exact h5.1
            · exact absurd h5.1 h2
          unfold ebytes
          rw [if_pos h4, hs, hL]
          unfold ebody
          rw [if_pos h7, g6, h3, hlen, show piece L 10 (10 + (t.length : Int) - 10) = t by unfold piece; rw [show (10 : Int).toNat = 10 from rfl, hd]; exact List.take_of_length_le (by omega), g2, show ((a9.toNat : Nat) : Int) = a9 by omega]
          rfl
        · rw [if_neg h4]; exact .inl rfl
      · rw [if_neg h3]; exact .inl rfl
theorem rparse_put {p s kd m : Int} {args : List S37} {b : List Int} (h : eent p s kd m args b = true) (ho : ∀ v ∈ args, vok v) : rparse (ebytes p s kd m args b).1 = (p, s, kd, m, args, b, 0) := by
  obtain ⟨h1, h2⟩ := eent_ok h
  have he : ebytes p s kd m args b = (p :: (leb 6 s ++ kd :: ebody kd m args b), 0) := by unfold ebytes; rw [if_pos h]
  have l6 := leb_length 6 s
  have hv := val_leb 6 s (by omega) (by omega)
  rw [he]
  dsimp only
  obtain ⟨X, hX⟩ : ∃ X, X = p :: (leb 6 s ++ kd :: ebody kd m args b) := ⟨_, rfl⟩
  have r0 : rd X 0 = p := by rw [hX]; rfl
  have r7 : rd X 7 = kd := by rw [hX]; rfl
  have hp : piece X 1 6 = leb 6 s := by rw [hX]; rfl
  rw [← hX]
  unfold rparse rtail
  rw [r0, r7, hp, hv]
  rcases h2 with ⟨rfl, h3, h4, h5, rfl, h6⟩ | ⟨rfl, rfl, rfl, h3⟩
  · have eb : ebody 1 m args [] = m :: (args.length : Int) :: vflat args := by unfold ebody; rw [if_pos rfl]
    rw [eb] at hX
    have r8 : rd X 8 = m := by rw [hX]; rfl
    have r9 : rd X 9 = args.length := by rw [hX]; rfl
    have hlen : (X.length : Int) = 10 + (vflat args).length := by rw [hX]; simp [l6]; omega
    have hq : pread X args.length 10 [] = (args, 10 + ((vflat args).length : Int), 0) := by
      have := pread_put args (fun v hv => ⟨h6 v hv, ho v hv⟩) (p :: (leb 6 s ++ [1, m, (args.length : Int)])) [] []
      have hX2 : (p :: (leb 6 s ++ [1, m, (args.length : Int)])) ++ vflat args ++ [] = X := by rw [hX]; simp
      have hl2 : ((p :: (leb 6 s ++ [1, m, (args.length : Int)]) : List Int).length : Int) = 10 := by simp [l6]
      rw [hX2, hl2] at this
      simpa using this
    rw [if_neg (by omega), if_neg (by decide), r9, Int.toNat_natCast, hq]
    unfold rfin
    rw [if_pos rfl, if_pos hlen.symm, r7, r8, if_pos h]
  · have eb : ebody 2 0 [] b = leb 2 b.length ++ b := by unfold ebody; rw [if_neg (by decide)]
    rw [eb] at hX
    have r8 : rd X 8 = (b.length : Int) % 256 := by rw [hX]; rfl
    have r9 : rd X 9 = (b.length : Int) / 256 % 256 := by rw [hX]; rfl
    have hd : X.drop 10 = b := by rw [hX]; rfl
    have hlen : (X.length : Int) = 10 + b.length := by rw [hX]; simp [l6, leb_length]; omega
    rw [if_neg (by omega), if_pos rfl, r8, r9, hd, if_pos (by omega), if_pos h]
theorem eparse_rparse (l : List Int) (hb : isB l) : eparse l = rparse l := by
  rcases rparse_back l hb with h | ⟨p, s, kd, m, args, b, h, h1, h2⟩
  · rcases eparse_back l hb with h3 | ⟨p, s, kd, m, args, b, h3, h4, h5, _⟩
    · rw [h, h3]
    · have := rparse_put (ebytes_eent (by rw [h4])) h5
      rw [h4, h] at this
      unfold efail at this
      simp at this
  · have := eparse_put (ebytes_eent (by rw [h1])) h2 []
    rw [List.append_nil, if_pos rfl, h1] at this
    rw [h, this]
theorem set_l0 (x y : List Int) (p s kd m : Int) (args : List S37) (d : Nat) : ∀ (k i : Nat) (b : List Int), isB b → i + d = b.length → b.length ≤ 100000 → d < k → capstanlaw20_EntryParses.l0 k x y i p s kd m args b = some ((strOfNums y).toList == (strOfNums x).toList) := by
  induction d with
  | zero =>
    intro k i b _ hi hl hk
    obtain ⟨k, rfl⟩ : ∃ n, k = n + 1 := ⟨k - 1, by omega⟩
    simp only [capstanlaw20_EntryParses.l0]
    rw [if_neg (by omega)]
  | succ d ih =>
    intro k i b h hi hl hk
    obtain ⟨k, rfl⟩ : ∃ n, k = n + 1 := ⟨k - 1, by omega⟩
    simp only [capstanlaw20_EntryParses.l0]
    rw [if_pos (by omega), if_pos (by omega), wrap64_id (by omega) (by omega)]
    exact ih k (i + 1) _ (fun v hv => by
      rcases List.mem_or_eq_of_mem_set hv with h1 | h1
      · exact h v h1
      · omega) (by simp; omega) (by simp; omega) (by omega)
theorem rparse_small (l : List Int) (hb : isB l) : (rparse l).2.2.2.2.1.length ≤ 100000 ∧ (rparse l).2.2.2.2.2.1.length ≤ 100000 ∧ isB (rparse l).2.2.2.2.2.1 := by
  rw [← eparse_rparse l hb]
  rcases eparse_back l hb with h | ⟨p, s, kd, m, args, b, h, h1, h2, h3⟩
  · rw [h]
    exact ⟨by simp [efail], by simp [efail], isB_nil⟩
  · rw [h]
    obtain ⟨h4, h5⟩ := eent_ok (ebytes_eent (by rw [h1]))
    refine ⟨?_, ?_, h3⟩
    · rcases h5 with h6 | h6
      · have := h6.2.2.2.1; dsimp only; omega
      · rw [h6.2.2.1]; simp
    · rcases h5 with h6 | h6
      · rw [h6.2.2.2.2.1]; simp
      · have := h6.2.2.2; dsimp only; omega
theorem EntryParses : capstanlaw20_EntryParses.Pure := by
  intro l hm _ wl
  have hb := isB_of wl
  refine ⟨200000, ?_⟩
  unfold capstanlaw20_EntryParses.f
  by_cases h : (l.length : Int) > 3000
  · rw [if_pos h]
  obtain ⟨s1, s2, s3⟩ := rparse_small l hb
  rw [if_neg h, Option.bind_some, if_pos (by simp; omega), Option.bind_some, List.nil_append, eparse_f l hb (by omega) _ (by omega), Option.bind_some, refEParse_f l hb (by omega) _ (by omega), Option.bind_some, eparse_rparse l hb]
  obtain ⟨⟨p, s, kd, m, args, b, e⟩, hq⟩ : ∃ q, q = rparse l := ⟨_, rfl⟩
  rw [← hq] at s1 s2 s3 ⊢
  dsimp only at s1 s2 s3 ⊢
  rw [refESameE_f _ _ _ _ _ _ _ _ _ _ _ _ s1 _ (by omega), Option.bind_some, esame_self, if_pos (by simp), if_pos rfl]
  rw [show (200000 : Nat) = 199999 + 1 from rfl]
  simp only [capstanlaw20_EntryParses.j0]
  rw [if_neg (by simp)]
  have := set_l0 l l p s kd m args b.length 199999 0 b s3 (by omega) s2 (by omega)
  rw [show ((0 : Nat) : Int) = 0 from rfl] at this
  rw [this, beq_self_eq_true]
end Go.Proofs.YtjidhcepdjdceaaDoor.Pure
