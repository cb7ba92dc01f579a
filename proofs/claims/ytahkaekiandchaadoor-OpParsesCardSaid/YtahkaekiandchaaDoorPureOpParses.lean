/- OpParses: any text is the operation's name that the chapter says, or none's. -/
import Derived.Test.YtahkaekiandchaaDoorQ1
import Derived.Test.YtahkaekiandchaaDoorLib
namespace Go.Proofs.YtahkaekiandchaaDoor.Pure
open Go.RowKit Go.Proofs.YtahkaekiandchaaDoor.Q Go.Proofs.YtahkaekiandchaaDoor.M Go.Proofs.YtahkaekiandchaaDoorW.PrintWords Go.Proofs.YtahkaekiandchaaDoorW.PrintLast Go.Proofs.YtahkaekiandchaaDoorW.PrintMore

theorem strIndex_l0 (l : List ByteArray) (hl : l.length ≤ 1000) (s : ByteArray) (d : Nat) : ∀ (k i : Nat), i + d = l.length → d < k → ∃ r, slices_Index_string_string.l0 k l s (l.length : Int) i = some r ∧ ((r = -1 ∧ ∀ j, i ≤ j → j < l.length → ¬ s.toList = (rdOf ByteArray.empty l (j : Int)).toList) ∨ ∃ n : Nat, r = n ∧ i ≤ n ∧ n < l.length ∧ s.toList = (rdOf ByteArray.empty l (n : Int)).toList ∧ ∀ j, i ≤ j → j < n → ¬ s.toList = (rdOf ByteArray.empty l (j : Int)).toList) := by
  induction d with
  | zero =>
    intro k i hi hk
    obtain ⟨k, rfl⟩ : ∃ n, k = n + 1 := ⟨k - 1, by omega⟩
    simp only [slices_Index_string_string.l0]
    rw [if_neg (by omega)]
    exact ⟨-1, rfl, .inl ⟨rfl, fun j h1 h2 => by omega⟩⟩
  | succ d ih =>
    intro k i hi hk
    obtain ⟨k, rfl⟩ : ∃ n, k = n + 1 := ⟨k - 1, by omega⟩
    simp only [slices_Index_string_string.l0]
    rw [if_pos (by omega), if_pos (by omega), if_pos (by omega)]
    by_cases h : s.toList = (rdOf ByteArray.empty l (i : Int)).toList
    · rw [if_pos h]
      exact ⟨(i : Int), rfl, .inr ⟨i, rfl, Nat.le_refl _, by omega, h, fun j h1 h2 => by omega⟩⟩
    · rw [if_neg h, wrap64_id (by omega) (by omega)]
      obtain ⟨r, h1, h2⟩ := ih k (i + 1) (by omega) (by omega)
      refine ⟨r, h1, ?_⟩
      rcases h2 with ⟨h2, h3⟩ | ⟨n, h2, h3, h4, h5, h6⟩
      · refine .inl ⟨h2, fun j h4 h5 => ?_⟩
        rcases Nat.eq_or_lt_of_le h4 with rfl | h6
        · exact h
        · exact h3 j h6 h5
      · refine .inr ⟨n, h2, by omega, h4, h5, fun j h7 h8 => ?_⟩
        rcases Nat.eq_or_lt_of_le h7 with rfl | h9
        · exact h
        · exact h6 j h9 h8
theorem parse_f (s : ByteArray) (k : Nat) (hk : 40 ≤ k) : (op_Parse.f k s = some (0, false) ∧ ∀ j, j < 33 → ¬ s.toList = (rdOf ByteArray.empty gl0 ((j : Nat) : Int)).toList) ∨ ∃ n : Nat, n < 33 ∧ op_Parse.f k s = some ((n : Int), true) ∧ s.toList = (rdOf ByteArray.empty gl0 (n : Int)).toList ∧ ∀ j, j < n → ¬ s.toList = (rdOf ByteArray.empty gl0 ((j : Nat) : Int)).toList := by
  have hL : gl0.length = 33 := rfl
  obtain ⟨r, h1, h2⟩ := strIndex_l0 gl0 (by omega) s 33 k 0 (by omega) (by omega)
  have h3 : slices_Index_string_string.f k gl0 s = some r := h1
  unfold op_Parse.f
  rw [h3, Option.bind_some]
  rcases h2 with ⟨rfl, h4⟩ | ⟨n, rfl, _, h4, h5, h6⟩
  · exact .inl ⟨by rw [if_pos (by omega)], fun j hj => h4 j (by omega) (by omega)⟩
  · exact .inr ⟨n, by omega, by rw [if_neg (by omega), if_pos (by omega)], h5, fun j hj => h6 j (by omega) hj⟩

theorem refname_all : ∀ n : Fin 33, capstanref04_Name.f ((n : Nat) : Int) = some (rdOf ByteArray.empty gl0 ((n : Nat) : Int)) := by decide +kernel
theorem refParse_l0 (s : ByteArray) (d : Nat) : ∀ (k i : Nat), i + d = 33 → d < k → (∀ j, j < i → ¬ s.toList = (rdOf ByteArray.empty gl0 ((j : Nat) : Int)).toList) → (capstanref04_Parse.l0 k s (i : Int) = some (0, false) ∧ ∀ j, j < 33 → ¬ s.toList = (rdOf ByteArray.empty gl0 ((j : Nat) : Int)).toList) ∨ ∃ n : Nat, n < 33 ∧ capstanref04_Parse.l0 k s (i : Int) = some ((n : Int), true) ∧ s.toList = (rdOf ByteArray.empty gl0 (n : Int)).toList ∧ ∀ j, j < n → ¬ s.toList = (rdOf ByteArray.empty gl0 ((j : Nat) : Int)).toList := by
  induction d with
  | zero =>
    intro k i hi hk hj
    obtain ⟨k, rfl⟩ : ∃ n, k = n + 1 := ⟨k - 1, by omega⟩
    simp only [capstanref04_Parse.l0]
    rw [if_neg (by omega)]
    exact .inl ⟨rfl, fun j h => hj j (by omega)⟩
  | succ d ih =>
    intro k i hi hk hj
    obtain ⟨k, rfl⟩ : ∃ n, k = n + 1 := ⟨k - 1, by omega⟩
    simp only [capstanref04_Parse.l0]
    have hn := refname_all ⟨i, by omega⟩
    dsimp only at hn
    rw [if_pos (by omega), hn, Option.bind_some]
    by_cases h : s.toList = (rdOf ByteArray.empty gl0 (i : Int)).toList
    · rw [if_pos h.symm]
      exact .inr ⟨i, by omega, rfl, h, hj⟩
    · rw [if_neg (fun c => h c.symm), show (((i : Int) + 1) % 256) = ((i + 1 : Nat) : Int) by omega]
      refine ih k (i + 1) (by omega) (by omega) (fun j hlt => ?_)
      rcases Nat.lt_or_ge j i with h1 | h1
      · exact hj j h1
      · obtain rfl : j = i := by omega
        exact h
theorem OpParses : capstanlaw04_OpParses.Pure := by
  intro s _
  refine ⟨50, ?_⟩
  unfold capstanlaw04_OpParses.f
  by_cases h : (s.size : Int) > 100
  · rw [if_pos h]
  rw [if_neg h]
  have h2 := refParse_l0 s 33 50 0 (by omega) (by omega) (fun j hj => by omega)
  change (capstanref04_Parse.f 50 s = _ ∧ _) ∨ (∃ n : Nat, _ ∧ capstanref04_Parse.f 50 s = _ ∧ _) at h2
  rcases parse_f s 50 (by omega) with ⟨h1, h3⟩ | ⟨n, hn, h1, h3, h4⟩ <;> rcases h2 with ⟨g1, g3⟩ | ⟨m, hm, g1, g3, g4⟩
  · rw [h1, Option.bind_some, g1, Option.bind_some, if_pos rfl]; rfl
  · exact absurd g3 (h3 m hm)
  · exact absurd h3 (g3 n hn)
  · have e : n = m := by
      rcases Nat.lt_trichotomy n m with c | c | c
      · exact absurd h3 (g4 n c)
      · exact c
      · exact absurd g3 (h4 m c)
    subst e
    rw [h1, Option.bind_some, g1, Option.bind_some, if_pos rfl]; rfl
end Go.Proofs.YtahkaekiandchaaDoor.Pure
