/- OpNames: no two operations have one name; each name is parsed as its operation. -/
import Derived.Test.YtahkaekiandchaaDoorP2
import Derived.Test.YtahkaekiandchaaDoorP3
import Derived.Test.YtahkaekiandchaaDoorP5
import Derived.Test.YtahkaekiandchaaDoorP6
import Derived.Test.YtahkaekiandchaaDoorLOpAw
namespace Go.Proofs.YtahkaekiandchaaDoor.Pure
open Go.RowKit Go.Proofs.YtahkaekiandchaaDoor.P Go.Proofs.YtahkaekiandchaaDoor.M Go.Proofs.YtahkaekiandchaaDoorW.PrintWords Go.Proofs.YtahkaekiandchaaDoorW.PrintLast Go.Proofs.YtahkaekiandchaaDoorW.PrintMore

theorem strIndex_l0 (l : List ByteArray) (hl : l.length ≤ 1000) (s : ByteArray) (d : Nat) : ∀ (k i : Nat), i + d = l.length → d < k → ∃ r, slices_Index_string_string.l0 k l s (l.length : Int) i = some r ∧ ((r = -1 ∧ ∀ j, i ≤ j → j < l.length → ¬ s.toList = (rdOf ByteArray.empty l (j : Int)).toList) ∨ ∃ n : Nat, r = n ∧ i ≤ n ∧ n < l.length ∧ s.toList = (rdOf ByteArray.empty l (n : Int)).toList ∧ ∀ j, i ≤ j → j < n → ¬ s.toList = (rdOf ByteArray.empty l (j : Int)).toList) := by
  induction d with
  | zero =>
    intro k i hi hk
    obtain ⟨k, rfl⟩ : ∃ n, k = n + 1 := ⟨k - 1, by omega⟩
    simp only [slices_Index_string_string.l0]
    rw [if_neg (by omega)]
    exact ⟨-1, rfl, .inl ⟨rfl, fun j h1 h2 => by omega⟩⟩
  | succ d ih =>
    intro k i hi hk
    obtain ⟨k, rfl⟩ : ∃ n, k = n + 1 := ⟨k - 1, by omega⟩
    simp only [slices_Index_string_string.l0]
    rw [if_pos (by omega), if_pos (by omega), if_pos (by omega)]
    by_cases h : s.toList = (rdOf ByteArray.empty l (i : Int)).toList
    · rw [if_pos h]
      exact ⟨(i : Int), rfl, .inr ⟨i, rfl, Nat.le_refl _, by omega, h, fun j h1 h2 => by omega⟩⟩
    · rw [if_neg h, wrap64_id (by omega) (by omega)]
      obtain ⟨r, h1, h2⟩ := ih k (i + 1) (by omega) (by omega)
      refine ⟨r, h1, ?_⟩
      rcases h2 with ⟨h2, h3⟩ | ⟨n, h2, h3, h4, h5, h6⟩
      · refine .inl ⟨h2, fun j h4 h5 => ?_⟩
        rcases Nat.eq_or_lt_of_le h4 with rfl | h6
        · exact h
        · exact h3 j h6 h5
      · refine .inr ⟨n, h2, by omega, h4, h5, fun j h7 h8 => ?_⟩
        rcases Nat.eq_or_lt_of_le h7 with rfl | h9
        · exact h
        · exact h6 j h9 h8
theorem parse_f (s : ByteArray) (k : Nat) (hk : 40 ≤ k) : (op_Parse.f k s = some (0, false) ∧ ∀ j, j < 33 → ¬ s.toList = (rdOf ByteArray.empty gl0 ((j : Nat) : Int)).toList) ∨ ∃ n : Nat, n < 33 ∧ op_Parse.f k s = some ((n : Int), true) ∧ s.toList = (rdOf ByteArray.empty gl0 (n : Int)).toList ∧ ∀ j, j < n → ¬ s.toList = (rdOf ByteArray.empty gl0 ((j : Nat) : Int)).toList := by
  have hL : gl0.length = 33 := rfl
  obtain ⟨r, h1, h2⟩ := strIndex_l0 gl0 (by omega) s 33 k 0 (by omega) (by omega)
  have h3 : slices_Index_string_string.f k gl0 s = some r := h1
  unfold op_Parse.f
  rw [h3, Option.bind_some]
  rcases h2 with ⟨rfl, h4⟩ | ⟨n, rfl, _, h4, h5, h6⟩
  · exact .inl ⟨by rw [if_pos (by omega)], fun j hj => h4 j (by omega) (by omega)⟩
  · exact .inr ⟨n, by omega, by rw [if_neg (by omega), if_pos (by omega)], h5, fun j hj => h6 j (by omega) hj⟩

theorem names_lt : ∀ n : Fin 256, (n : Nat) < 33 → op_Name.f ((n : Nat) : Int) = some (rdOf ByteArray.empty gl0 ((n : Nat) : Int)) := by decide +kernel
theorem names_ge : ∀ n : Fin 256, ¬ (n : Nat) < 33 → op_Name.f ((n : Nat) : Int) = some (⟨#[]⟩ : ByteArray) ∧ op_Goes.f ((n : Nat) : Int) = some false ∧ op_Leads.f 10 ((n : Nat) : Int) = some false := by decide +kernel
theorem names_full : ∀ n : Fin 33, ¬ (rdOf ByteArray.empty gl0 ((n : Nat) : Int)).toList = ([] : List UInt8) := by decide +kernel
theorem names_inj : ∀ n m : Fin 33, ((rdOf ByteArray.empty gl0 ((n : Nat) : Int)).toList == (rdOf ByteArray.empty gl0 ((m : Nat) : Int)).toList) = (((n : Nat) : Int) == ((m : Nat) : Int)) := by decide +kernel
theorem OpNames_j1 (k : Nat) (hk : 60 ≤ k) (s : ByteArray) : capstanlaw04_OpNames.j1 k s false = some true := by
  obtain ⟨k, rfl⟩ : ∃ d, k = d + 1 := ⟨k - 1, by omega⟩
  simp only [capstanlaw04_OpNames.j1]
  rw [if_neg (by decide)]
  rcases parse_f s k (by omega) with ⟨h, _⟩ | ⟨n, hn, h, h2, _⟩
  · rw [h, Option.bind_some, if_neg (by decide)]; rfl
  · rw [h, Option.bind_some, if_pos rfl, known_f ⟨n, by omega⟩, Option.bind_some, if_pos (by simpa using hn), names_lt ⟨n, by omega⟩ hn, Option.bind_some, if_pos h2.symm]
theorem OpNames_j0 (k : Nat) (hk : 70 ≤ k) (n m : Fin 256) (s : ByteArray) : capstanlaw04_OpNames.j0 k ((n : Nat) : Int) ((m : Nat) : Int) s = some true := by
  obtain ⟨k, rfl⟩ : ∃ d, k = d + 1 := ⟨k - 1, by omega⟩
  simp only [capstanlaw04_OpNames.j0]
  rw [known_f n, Option.bind_some]
  by_cases hn : (n : Nat) < 33
  · rw [if_pos (decide_eq_true hn), known_f m, Option.bind_some]
    by_cases hm : (m : Nat) < 33
    · rw [if_pos (decide_eq_true hm), names_lt n hn, Option.bind_some, names_lt m hm, Option.bind_some, names_inj ⟨n, hn⟩ ⟨m, hm⟩, show (((((n : Nat) : Int) == ((m : Nat) : Int)) != (((n : Nat) : Int) == ((m : Nat) : Int)))) = false by simp]
      exact OpNames_j1 k (by omega) s
    · rw [if_neg (by simpa using hm)]
      exact OpNames_j1 k (by omega) s
  · rw [if_neg (by simpa using hn)]
    exact OpNames_j1 k (by omega) s
theorem OpNames : capstanlaw04_OpNames.Pure := by
  intro a b s wa wb _
  obtain ⟨n, rfl⟩ := op_fin wa
  obtain ⟨m, rfl⟩ := op_fin wb
  refine ⟨100, ?_⟩
  unfold capstanlaw04_OpNames.f
  rw [opawake_f _ (by omega), Option.bind_some, if_pos rfl]
  by_cases h : (s.size : Int) > 100
  · rw [if_pos h]
  rw [if_neg h, known_f n, Option.bind_some]
  by_cases hn : (n : Nat) < 33
  · rw [if_pos (decide_eq_true hn), names_lt n hn, Option.bind_some]
    rcases parse_f (rdOf ByteArray.empty gl0 ((n : Nat) : Int)) 100 (by omega) with ⟨_, h2⟩ | ⟨r, hr, h1, h2, _⟩
    · exact absurd rfl (h2 n hn)
    · have e : n.val = r := by
        have h3 := names_inj ⟨n, hn⟩ ⟨r, hr⟩
        rw [show ((rdOf ByteArray.empty gl0 (((⟨n, hn⟩ : Fin 33) : Nat) : Int)).toList == (rdOf ByteArray.empty gl0 (((⟨r, hr⟩ : Fin 33) : Nat) : Int)).toList) = true from beq_iff_eq.2 h2] at h3
        have h4 := beq_iff_eq.1 h3.symm
        dsimp only at h4
        omega
      rw [h1, Option.bind_some, if_pos rfl, if_pos (by rw [← e]), Option.bind_some, if_neg (names_full ⟨n, hn⟩)]
      exact OpNames_j0 100 (by omega) n m s
  · obtain ⟨h1, h2, h3⟩ := names_ge n hn
    have hb := (bnd_all n).2.2.2 hn
    rw [if_neg (by simpa using hn), h1, Option.bind_some, if_pos (by decide +kernel), opmay_f n 0 0 100 (by omega), Option.bind_some, hb, if_neg (by decide), h2, Option.bind_some, if_neg (by decide), op_up (fun k => op_Leads.mono _ k) h3 100 (by omega), Option.bind_some, if_neg (by decide)]
    exact OpNames_j0 100 (by omega) n m s
end Go.Proofs.YtahkaekiandchaaDoor.Pure
