/- The document's reading of code's text, in plain terms. -/
import Derived.Test.YtdfjjooejfgglaaDoorX4
import Derived.Test.YtdfjjooejfgglaaDoorX6
import Derived.Test.YtdfjjooejfgglaaDoorX7
import Derived.Test.YtdfjjooejfgglaaDoorX8
import Derived.Test.YtdfjjooejfgglaaDoorLText
namespace Go.Proofs.YtdfjjooejfgglaaDoor.M
open Go Go.RowKit Go.Proofs.YtdfjjooejfgglaaDoor.X Go.Proofs.YtdfjjooejfgglaaDoorW.PrintWords Go.Proofs.YtdfjjooejfgglaaDoorW.PrintLast Go.Proofs.YtdfjjooejfgglaaDoorW.PrintMore
theorem ba_bt {l : List UInt8} {i : Nat} (h : i < l.length) : bt ⟨l.toArray⟩ (i : Int) = (l[i].toNat : Int) := by
  have hs : (i : Int).toNat < (⟨l.toArray⟩ : ByteArray).size := by rw [ba_size]; simpa using h
  rw [← bt_at _ _ hs]
  rfl
theorem ba_list (s : ByteArray) : s.toList = s.data.toList := by
  simp [ByteArray.toList_eq]
theorem ba_ext {a b : ByteArray} (h : a.toList = b.toList) : a = b := by
  rw [ba_list, ba_list] at h
  cases a; cases b
  simpa using h
theorem p10 (i : Nat) : (0 : Int) < 10 ^ i := Int.pow_pos (by decide)
theorem pow10_le {i j : Nat} (h : i ≤ j) : (10 : Int) ^ i ≤ 10 ^ j := by
  induction h with
  | refl => exact Int.le_refl _
  | step h ih => rename_i m; rw [Int.pow_succ]; have := p10 m; omega
/-- The document's numbers. -/
theorem digits_tot : ∀ (k : Nat), k ≤ 6 → ∀ (n : Int), 0 ≤ n → n < 10 ^ (k + 1) → ∃ s, capstanref05_Digits.f (k + 1) n = some s ∧ s.size ≤ k + 1 := by
  intro k
  have hs : ∀ n : Int, (strOfNums [(48 + ((Int.tmod n 10) % 256)) % 256]).size = 1 := fun _ => rfl
  induction k with
  | zero =>
    intro _ n h0 h1
    simp only [capstanref05_Digits.f]
    rw [Option.bind_some, if_pos (by simpa using h1)]
    exact ⟨_, rfl, by rw [hs]; omega⟩
  | succ k ih =>
    intro hk n h0 h1
    rw [capstanref05_Digits.f, Option.bind_some]
    by_cases h : n < 10
    · rw [if_pos h]; exact ⟨_, rfl, by rw [hs]; omega⟩
    · rw [if_neg h]
      have h6 : (10 : Int) ^ (k + 1 + 1) ≤ 10 ^ 8 := pow10_le (by omega)
      have h7 : (10 : Int) ^ 8 = 100000000 := by decide
      have e : wrap64 (Int.tdiv n 10) = n / 10 := by
        rw [Int.tdiv_eq_ediv_of_nonneg h0, wrap64_id (by omega) (by omega)]
      rw [e]
      obtain ⟨s, g1, g2⟩ := ih (by omega) (n / 10) (by omega) (by rw [Int.pow_succ] at h1; omega)
      rw [g1, Option.bind_some, hs, if_pos (by omega)]
      exact ⟨_, rfl, by rw [ByteArray.size_append, hs]; omega⟩
theorem num_l0 (x : List UInt8) (hx : x.length ≤ 4) (d : Nat) : ∀ (k i : Nat) (n : Int), i + d = x.length → 0 ≤ n → n < 10 ^ i → d + 20 ≤ k → ∃ r, capstanref05_number.l0 k ⟨x.toArray⟩ n i = some r ∧ (r = -1 ∨ (0 ≤ r ∧ capstanref05_Digits.f 7 r = some ⟨x.toArray⟩)) := by
  induction d with
  | zero =>
    intro k i n hi h0 h1 hk
    obtain ⟨k, rfl⟩ : ∃ n, k = n + 1 := ⟨k - 1, by omega⟩
    have h6 : (10 : Int) ^ i ≤ 10 ^ (6 + 1) := pow10_le (by omega)
    obtain ⟨s, g1, g2⟩ := digits_tot 6 (by omega) n h0 (by omega)
    have g3 := op_up (fun k => capstanref05_Digits.mono _ k) g1 k (by omega)
    simp only [capstanref05_number.l0]
    rw [ba_size, if_neg (by omega), g3, Option.bind_some]
    by_cases h : s.toList = (⟨x.toArray⟩ : ByteArray).toList
    · rw [if_pos h]; exact ⟨n, rfl, .inr ⟨h0, by rw [← ba_ext h]; exact g1⟩⟩
    · rw [if_neg h]; exact ⟨-1, rfl, .inl rfl⟩
  | succ d ih =>
    intro k i n hi h0 h1 hk
    obtain ⟨k, rfl⟩ : ∃ n, k = n + 1 := ⟨k - 1, by omega⟩
    have h6 : (10 : Int) ^ i ≤ 10 ^ 4 := pow10_le (by omega)
    have h7 : (10 : Int) ^ 4 = 10000 := by decide
    have hb := bt_range ⟨x.toArray⟩ (i : Int)
    simp only [capstanref05_number.l0]
    rw [ba_size, if_pos (by omega), if_pos (by omega)]
    by_cases c1 : bt ⟨x.toArray⟩ (i : Int) < 48
    · rw [if_pos c1]; exact ⟨-1, rfl, .inl rfl⟩
    rw [if_neg c1]
    by_cases c2 : bt ⟨x.toArray⟩ (i : Int) > 57
    · rw [if_pos c2]; exact ⟨-1, rfl, .inl rfl⟩
    rw [if_neg c2, wrap64_id (x := 10 * n) (by omega) (by omega), wrap64_id (x := 10 * n + (bt ⟨x.toArray⟩ (i : Int) - 48) % 256) (by omega) (by omega), wrap64_id (x := (i : Int) + 1) (by omega) (by omega), show ((i : Int) + 1) = ((i + 1 : Nat) : Int) by omega]
    exact ih k (i + 1) _ (by omega) (by omega) (by rw [Int.pow_succ]; omega) (by omega)
theorem num_f (x : List UInt8) (k : Nat) (hk : 100 ≤ k) : ∃ r, capstanref05_number.f k ⟨x.toArray⟩ = some r ∧ (r = -1 ∨ (0 ≤ r ∧ capstanref05_Digits.f 7 r = some ⟨x.toArray⟩)) := by
  obtain ⟨k, rfl⟩ : ∃ n, k = n + 1 := ⟨k - 1, by omega⟩
  unfold capstanref05_number.f
  rw [ba_size]
  by_cases h : (x.length : Int) < 1
  · rw [if_pos h, capstanref05_number.j0, if_pos rfl]; exact ⟨_, rfl, .inl rfl⟩
  rw [if_neg h, capstanref05_number.j0]
  by_cases h2 : (x.length : Int) > 4
  · rw [if_pos (decide_eq_true h2)]; exact ⟨_, rfl, .inl rfl⟩
  · rw [if_neg (by simpa using h2)]
    exact num_l0 x (by omega) x.length k 0 0 (by omega) (by omega) (by decide) (by omega)
theorem num_all : ∀ n : Fin 1025, capstanref05_number.f 40 ⟨(Lib.itoa ((n : Nat) : Int)).toArray⟩ = some ((n : Nat) : Int) := by decide +kernel
theorem num_run {a : Int} (h : 0 ≤ a ∧ a ≤ 1024) (k : Nat) (hk : 40 ≤ k) : capstanref05_number.f k ⟨(Lib.itoa a).toArray⟩ = some a := by
  obtain ⟨n, hn⟩ : ∃ n : Fin 1025, a = ((n : Nat) : Int) := ⟨⟨a.toNat, by omega⟩, by simp; omega⟩
  rw [hn]
  exact op_up (fun k => capstanref05_number.mono _ k) (num_all n) k hk
/-- The document's operations. -/
theorem rparse_l0 (s : ByteArray) (d : Nat) : ∀ (k i : Nat), i + d = 33 → d < k → capstanref04_Parse.l0 k s (i : Int) = some (0, false) ∨ ∃ n : Nat, n < 33 ∧ capstanref04_Parse.l0 k s (i : Int) = some ((n : Int), true) ∧ s = ⟨(nameb ((n : Nat) : Int)).toArray⟩ := by
  induction d with
  | zero =>
    intro k i hi hk
    obtain ⟨k, rfl⟩ : ∃ n, k = n + 1 := ⟨k - 1, by omega⟩
    simp only [capstanref04_Parse.l0]
    rw [if_neg (by omega)]
    exact .inl rfl
  | succ d ih =>
    intro k i hi hk
    obtain ⟨k, rfl⟩ : ∃ n, k = n + 1 := ⟨k - 1, by omega⟩
    simp only [capstanref04_Parse.l0]
    have hn := (name_all ⟨i, by omega⟩).2.1
    dsimp only at hn
    rw [if_pos (by omega), hn, Option.bind_some]
    by_cases h : (⟨(nameb ((i : Nat) : Int)).toArray⟩ : ByteArray).toList = s.toList
    · rw [if_pos h]
      exact .inr ⟨i, by omega, rfl, (ba_ext h).symm⟩
    · rw [if_neg h, show (((i : Int) + 1) % 256) = ((i + 1 : Nat) : Int) by omega]
      exact ih k (i + 1) (by omega) (by omega)
theorem rname_f (s : ByteArray) (k : Nat) (hk : 40 ≤ k) : capstanref04_Parse.f k s = some (0, false) ∨ ∃ n : Nat, n < 33 ∧ capstanref04_Parse.f k s = some ((n : Int), true) ∧ s = ⟨(nameb ((n : Nat) : Int)).toArray⟩ := rparse_l0 s 33 k 0 (by omega) (by omega)
theorem rname_all : ∀ n : Fin 33, capstanref04_Parse.f 40 ⟨(nameb ((n : Nat) : Int)).toArray⟩ = some (((n : Nat) : Int), true) := by decide +kernel
theorem rname_run {a : Int} (h : 0 ≤ a ∧ a < 33) (k : Nat) (hk : 40 ≤ k) : capstanref04_Parse.f k ⟨(nameb a).toArray⟩ = some (a, true) := by
  obtain ⟨n, hn⟩ : ∃ n : Fin 33, a = ((n : Nat) : Int) := ⟨⟨a.toNat, by omega⟩, by simp; omega⟩
  rw [hn]
  exact op_up (fun k => capstanref04_Parse.mono _ k) (rname_all n) k hk
/-- An operation behind which nothing stands may be with 0. -/
theorem bare_all : ∀ n : Fin 33, (decide ((bnd ((n : Nat) : Int)).2 > 0) || (decide ((bnd ((n : Nat) : Int)).1 ≤ 0) && decide (0 ≤ (bnd ((n : Nat) : Int)).2))) = true := by decide +kernel
/-- The document's line. -/
theorem line_at (x : List UInt8) (hx : x.length ≤ 100000) (d : Nat) : ∀ (k i : Nat), i + d = x.length → (∀ (j : Nat) (h : j < x.length), j < i → x[j] ≠ 32) → d + 1 ≤ k → ∃ at_ k', at_ ≤ x.length ∧ (∀ (j : Nat) (h : j < x.length), j < at_ → x[j] ≠ 32) ∧ (∀ h : at_ < x.length, x[at_] = 32) ∧ capstanref05_line.l0 k ⟨x.toArray⟩ i = capstanref05_line.j1 k' ⟨x.toArray⟩ at_ ∧ k ≤ k' + d + 1 := by
  induction d with
  | zero =>
    intro k i hi hj hk
    obtain ⟨k, rfl⟩ : ∃ n, k = n + 1 := ⟨k - 1, by omega⟩
    refine ⟨i, k, by omega, hj, fun h => by omega, ?_, by omega⟩
    simp only [capstanref05_line.l0]
    rw [ba_size, if_neg (by omega)]
  | succ d ih =>
    intro k i hi hj hk
    obtain ⟨k, rfl⟩ : ∃ n, k = n + 1 := ⟨k - 1, by omega⟩
    simp only [capstanref05_line.l0]
    rw [ba_size, if_pos (by omega), if_pos (by omega), ba_bt (by omega : i < x.length)]
    by_cases h : x[i] = 32
    · have h2 : ((x[i].toNat : Nat) : Int) = 32 := by rw [h]; rfl
      rw [if_pos h2]
      exact ⟨i, k, by omega, hj, fun _ => h, rfl, by omega⟩
    · have h2 : ¬ ((x[i].toNat : Nat) : Int) = 32 := fun e => h (UInt8.toNat_inj.1 (by have : x[i].toNat = 32 := (by omega); exact this))
      rw [if_neg h2, wrap64_id (x := (i : Int) + 1) (by omega) (by omega), show ((i : Int) + 1) = ((i + 1 : Nat) : Int) by omega]
      obtain ⟨at_, k', q1, q2, q3, q4, q5⟩ := ih k (i + 1) (by omega) (fun j hl hlt => by
        rcases Nat.lt_or_ge j i with c | c
        · exact hj j hl c
        · obtain rfl : j = i := by omega
          exact h) (by omega)
      exact ⟨at_, k', q1, q2, q3, q4, by omega⟩
theorem line_f (x : List UInt8) (hx : x.length ≤ 4000) (k : Nat) (hk : 5000 ≤ k) : ∃ (u : IN) (b : Bool), capstanref05_line.f k ⟨x.toArray⟩ = some (u.f0, u.f1, u.f2, b) ∧ (b = true → itext u = x ++ [10] ∧ imays u = true ∧ 0 ≤ u.f0 ∧ u.f0 ≤ 255) := by
  obtain ⟨at_, k', q1, q2, q3, q4, q5⟩ := line_at x (by omega) x.length k 0 (by omega) (fun j _ h => by omega) (by omega)
  obtain ⟨k', rfl⟩ : ∃ n, k' = n + 1 := ⟨k' - 1, by omega⟩
  unfold capstanref05_line.f
  rw [show (0 : Int) = ((0 : Nat) : Int) from rfl, q4]
  simp only [capstanref05_line.j1]
  rw [ba_size, if_pos (by omega), if_pos (by omega), ba_extract, List.drop_zero, Int.toNat_natCast]
  rcases rname_f ⟨(x.take at_).toArray⟩ k' (by omega) with h | ⟨n, hn, h, hname⟩
  · rw [h, Option.bind_some]
    dsimp only
    rw [if_neg (by decide)]
    exact ⟨⟨0, 0, 0⟩, false, rfl, fun h => by cases h⟩
  rw [h, Option.bind_some]
  dsimp only
  have hu : 0 ≤ ((n : Nat) : Int) ∧ ((n : Nat) : Int) ≤ 255 := by omega
  have hname2 : x.take at_ = nameb ((n : Nat) : Int) := by
    have := congrArg (fun s : ByteArray => s.data.toList) hname
    simpa using this
  rw [if_pos rfl, tWide_f ⟨(n : Int), 0, 0⟩ hu k' (by omega), Option.bind_some]
  have hb := bare_all ⟨n, hn⟩
  dsimp only at hb
  by_cases hw : (bnd ((n : Nat) : Int)).2 > 0
  · rw [decide_eq_true hw, if_pos rfl]
    by_cases he : ((at_ : Nat) : Int) = (x.length : Int)
    · rw [if_pos he]; exact ⟨⟨n, 0, 0⟩, false, rfl, fun h => by cases h⟩
    · have hat : at_ < x.length := by omega
      rw [if_neg he, wrap64_id (x := (at_ : Int) + 1) (by omega) (by omega), if_pos (by omega), if_pos (by omega), ba_extract, show ((at_ : Int) + 1).toNat = at_ + 1 by omega, List.take_of_length_le (Nat.le_refl _)]
      obtain ⟨r, r1, r2⟩ := num_f (x.drop (at_ + 1)) k' (by omega)
      rw [r1, Option.bind_some, tMay_f ⟨(n : Int), r, 0⟩ hu k' (by omega), Option.bind_some]
      refine ⟨⟨n, r, 0⟩, imays ⟨n, r, 0⟩, rfl, fun hm => ⟨?_, hm, hu⟩⟩
      obtain ⟨i1, i2, i3, i4, i5, i6⟩ := imays_inv hm hu
      dsimp only at i2 i3
      rcases r2 with rfl | ⟨_, r2⟩
      · omega
      rw [(digits_f ⟨i2, i3⟩ 7 (by omega)).1] at r2
      have hd : Lib.itoa r = x.drop (at_ + 1) := by
        have := congrArg (fun s : Option ByteArray => s.map fun s => s.data.toList) r2
        simpa using this
      unfold itext
      dsimp only
      rw [if_pos hw, ← hname2, hd, ← q3 hat, ← List.drop_eq_getElem_cons hat, List.take_append_drop]
  · rw [decide_eq_false hw, if_neg (by decide)]
    refine ⟨⟨n, 0, 0⟩, ((at_ : Nat) : Int) == (x.length : Int), rfl, fun he => ⟨?_, ?_, hu⟩⟩
    · have he2 : at_ = x.length := by rw [beq_iff_eq] at he; omega
      unfold itext
      dsimp only
      rw [if_neg hw, ← hname2, he2, List.take_length, List.append_nil]
    · rw [decide_eq_false hw, Bool.false_or] at hb
      unfold imays
      dsimp only
      rw [← Bool.and_assoc, hb]; rfl
theorem line_run {u : IN} (hu : 0 ≤ u.f0 ∧ u.f0 ≤ 255) (hm : imays u = true) (k : Nat) (hk : 5000 ≤ k) : capstanref05_line.f k ⟨(ibody u).toArray⟩ = some (u.f0, u.f1, u.f2, true) := by
  obtain ⟨i1, i2, i3, i4, i5, i6⟩ := imays_inv hm hu
  have hl := body_length hu hm
  have hl2 : (ibody u).length + 1 = (itext u).length := by show _ = (ibody u ++ [10]).length; simp
  obtain ⟨at_, k', q1, q2, q3, q4, q5⟩ := line_at (ibody u) (by omega) (ibody u).length k 0 (by omega) (fun j _ h => by omega) (by omega)
  obtain ⟨k', rfl⟩ : ∃ n, k' = n + 1 := ⟨k' - 1, by omega⟩
  have hno := fun c hc => (name_of u hu c hc).2
  unfold capstanref05_line.f
  rw [show (0 : Int) = ((0 : Nat) : Int) from rfl, q4]
  simp only [capstanref05_line.j1]
  rw [ba_size, if_pos (by omega), if_pos (by omega), ba_extract, List.drop_zero, Int.toNat_natCast]
  by_cases hw : (bnd u.f0).2 > 0
  · have eb : ibody u = nameb u.f0 ++ 32 :: Lib.itoa u.f1 := by unfold ibody; rw [if_pos hw]
    have hat : at_ = (nameb u.f0).length := by
      rcases Nat.lt_trichotomy at_ (nameb u.f0).length with c | c | c
      · exfalso
        have h1 : at_ < (ibody u).length := by rw [eb, List.length_append]; omega
        have h2 := q3 h1
        have h3 : (ibody u)[at_] = (nameb u.f0)[at_] := by simp only [eb]; rw [List.getElem_append_left c]
        rw [h3] at h2
        exact hno _ (List.getElem_mem c) h2
      · exact c
      · exfalso
        have h1 : (nameb u.f0).length < (ibody u).length := by rw [eb]; simp
        refine q2 _ h1 c ?_
        simp only [eb]
        rw [List.getElem_append_right (Nat.le_refl _)]
        simp
    have ht : (ibody u).take at_ = nameb u.f0 := by rw [eb, hat, List.take_left]
    have hdr : (ibody u).drop (at_ + 1) = Lib.itoa u.f1 := by
      rw [eb, hat, show (nameb u.f0).length + 1 = (nameb u.f0 ++ [32]).length by simp, show nameb u.f0 ++ 32 :: Lib.itoa u.f1 = (nameb u.f0 ++ [32]) ++ Lib.itoa u.f1 by simp, List.drop_left]
    have hlt : at_ < (ibody u).length := by rw [eb, hat]; simp
    rw [ht, rname_run ⟨hu.1, i1⟩ k' (by omega), Option.bind_some]
    dsimp only
    rw [if_pos rfl, tWide_f u hu k' (by omega), Option.bind_some, decide_eq_true hw, if_pos rfl, if_neg (by omega), wrap64_id (x := (at_ : Int) + 1) (by omega) (by omega), if_pos (by omega), if_pos (by omega), ba_extract, show ((at_ : Int) + 1).toNat = at_ + 1 by omega, List.take_of_length_le (Nat.le_refl _), hdr, num_run ⟨i2, i3⟩ k' (by omega), Option.bind_some]
    have hmy := tMay_f u hu k' (by omega)
    rw [i4] at hmy
    rw [hmy, Option.bind_some, hm, i4]
  · have eb : ibody u = nameb u.f0 := by unfold ibody; rw [if_neg hw, List.append_nil]
    have hat : at_ = (ibody u).length := by
      rcases Nat.lt_or_ge at_ (ibody u).length with c | c
      · exfalso
        have h2 := q3 c
        refine hno (ibody u)[at_] ?_ h2
        have := List.getElem_mem c
        simp only [eb] at this ⊢
        exact this
      · omega
    rw [hat, List.take_length, eb, rname_run ⟨hu.1, i1⟩ k' (by omega), Option.bind_some]
    dsimp only
    rw [if_pos rfl, tWide_f u hu k' (by omega), Option.bind_some, decide_eq_false hw, if_neg (by decide), i6 hw, i4, beq_self_eq_true]
/-- The document's line, as a function. -/
def rline (x : List UInt8) : IN × Bool := match capstanref05_line.f 5000 ⟨x.toArray⟩ with
  | some (a, b, c, d) => (⟨a, b, c⟩, d)
  | none => (⟨0, 0, 0⟩, false)
theorem rline_f (x : List UInt8) (hx : x.length ≤ 4000) (k : Nat) (hk : 5000 ≤ k) : capstanref05_line.f k ⟨x.toArray⟩ = some ((rline x).1.f0, (rline x).1.f1, (rline x).1.f2, (rline x).2) := by
  obtain ⟨u, b, h, _⟩ := line_f x hx 5000 (by omega)
  have h2 : rline x = (u, b) := by unfold rline; rw [h]
  rw [h2, op_up (fun k => capstanref05_line.mono _ k) h k hk]
theorem rline_ok (x : List UInt8) (hx : x.length ≤ 4000) (h : (rline x).2 = true) : itext (rline x).1 = x ++ [10] ∧ imays (rline x).1 = true ∧ 0 ≤ (rline x).1.f0 ∧ (rline x).1.f0 ≤ 255 := by
  obtain ⟨u, b, h1, h2⟩ := line_f x hx 5000 (by omega)
  have h3 : rline x = (u, b) := by unfold rline; rw [h1]
  rw [h3] at h ⊢
  exact h2 h
theorem rline_run {u : IN} (hu : 0 ≤ u.f0 ∧ u.f0 ≤ 255) (hm : imays u = true) : rline (ibody u) = (u, true) := by
  unfold rline
  rw [line_run hu hm 5000 (by omega)]
def rparse : List UInt8 → List UInt8 → List IN → Option (List IN)
  | seg, [], acc => if seg = [] ∧ acc ≠ [] then some acc else none
  | seg, c :: r, acc => if c = 10 then (if (rline seg).2 = true then (if acc.length ≥ 200 then none else rparse [] r (acc ++ [(rline seg).1])) else none) else rparse (seg ++ [c]) r acc
theorem rparse_sound : ∀ (r seg : List UInt8) (acc L : List IN), rparse seg r acc = some L → seg.length + r.length ≤ 4000 → acc.length ≤ 200 → ∃ t, L = acc ++ t ∧ seg ++ r = t.flatMap itext ∧ isI t ∧ t.all imays = true ∧ L ≠ [] ∧ L.length ≤ 200 := by
  intro r
  induction r with
  | nil =>
    intro seg acc L h hl ha
    rw [rparse] at h
    split at h
    · rename_i c
      cases h
      exact ⟨[], by simp, by rw [c.1]; rfl, (fun _ h => by cases h), rfl, c.2, ha⟩
    · cases h
  | cons c r ih =>
    intro seg acc L h hl ha
    rw [List.length_cons] at hl
    rw [rparse] at h
    by_cases hc : c = 10
    · rw [if_pos hc] at h
      by_cases hr : (rline seg).2 = true
      case neg => rw [if_neg hr] at h; cases h
      rw [if_pos hr] at h
      by_cases h2 : acc.length ≥ 200
      case pos => rw [if_pos h2] at h; cases h
      rw [if_neg h2] at h
      obtain ⟨e1, e2, e3⟩ := rline_ok seg (by omega) hr
      obtain ⟨t, t1, t2, t3, t4, t5, t6⟩ := ih [] _ L h (by simp; omega) (by simp; omega)
      refine ⟨(rline seg).1 :: t, by rw [t1]; simp, ?_, ?_, ?_, t5, t6⟩
      · rw [List.flatMap_cons, e1, ← t2, hc]; simp
      · intro z hz
        rcases List.mem_cons.1 hz with rfl | hz
        · exact e3
        · exact t3 z hz
      · rw [List.all_cons, e2, t4]; rfl
    · rw [if_neg hc] at h
      obtain ⟨t, t1, t2, t3⟩ := ih (seg ++ [c]) acc L h (by simp; omega) ha
      exact ⟨t, t1, by rw [← t2]; simp, t3⟩
theorem rparse_seg : ∀ (a seg r : List UInt8) (acc : List IN), (∀ c ∈ a, c ≠ 10) → rparse seg (a ++ 10 :: r) acc = if (rline (seg ++ a)).2 = true then (if acc.length ≥ 200 then none else rparse [] r (acc ++ [(rline (seg ++ a)).1])) else none := by
  intro a
  induction a with
  | nil => intro seg r acc _; rw [List.nil_append, rparse, if_pos rfl, List.append_nil]
  | cons c a ih =>
    intro seg r acc h
    rw [List.cons_append, rparse, if_neg (h c List.mem_cons_self), ih _ _ _ (fun x hx => h x (List.mem_cons_of_mem _ hx))]
    simp
theorem rparse_run : ∀ (t acc : List IN), isI t → t.all imays = true → acc.length + t.length ≤ 200 → acc ++ t ≠ [] → rparse [] (t.flatMap itext) acc = some (acc ++ t) := by
  intro t
  induction t with
  | nil =>
    intro acc _ _ _ hne
    rw [List.append_nil] at hne ⊢
    rw [List.flatMap_nil, rparse, if_pos ⟨rfl, hne⟩]
  | cons x t ih =>
    intro acc hI ha hl _
    rw [List.all_cons, Bool.and_eq_true] at ha
    have hx := hI x List.mem_cons_self
    have e : (x :: t).flatMap itext = ibody x ++ 10 :: t.flatMap itext := by
      rw [List.flatMap_cons]
      show (ibody x ++ [10]) ++ _ = _
      rw [List.append_assoc]; rfl
    rw [List.length_cons] at hl
    rw [e, rparse_seg _ _ _ _ (body_bytes hx ha.1), List.nil_append, rline_run hx ha.1, if_pos rfl, if_neg (by omega), ih (acc ++ [x]) (fun z hz => hI z (List.mem_cons_of_mem _ hz)) ha.2 (by simp; omega) (by simp)]
    simp
theorem parse_l0 : ∀ (r p seg : List UInt8) (acc : List IN) (k : Nat), (p ++ seg ++ r).length ≤ 4000 → acc.length ≤ 200 → r.length + 5100 ≤ k → capstanref05_Parse.l0 k ⟨(p ++ seg ++ r).toArray⟩ acc p.length ((p.length + seg.length : Nat) : Int) = some (match rparse seg r acc with | some L => (L, 0) | none => ([], 40)) := by
  intro r
  induction r with
  | nil =>
    intro p seg acc k hl ha hk
    obtain ⟨k, rfl⟩ : ∃ n, k = n + 1 := ⟨k - 1, by omega⟩
    simp only [capstanref05_Parse.l0]
    rw [ba_size, if_neg (by simp), rparse]
    by_cases hs : seg = []
    · rw [if_neg (by rw [hs]; simp)]
      by_cases h2 : acc = []
      · rw [if_pos (by rw [h2]; rfl), if_neg (by rw [h2]; simp)]
      · have : ¬ (acc.length : Int) = 0 := fun h => h2 (List.eq_nil_of_length_eq_zero (by omega))
        rw [if_neg this, if_pos ⟨hs, h2⟩]
    · have : 0 < seg.length := List.length_pos_iff.2 hs
      rw [if_pos (by simp; omega), if_neg (fun h => hs h.1)]
  | cons c r ih =>
    intro p seg acc k hl ha hk
    obtain ⟨k, rfl⟩ : ∃ n, k = n + 1 := ⟨k - 1, by omega⟩
    rw [List.length_cons] at hk
    have hlen : (p ++ seg ++ c :: r).length = p.length + seg.length + r.length + 1 := by simp; omega
    rw [hlen] at hl
    have hat : (p ++ seg ++ c :: r)[p.length + seg.length]'(by rw [hlen]; omega) = c := by
      rw [List.getElem_append_right (by simp)]
      simp
    simp only [capstanref05_Parse.l0]
    rw [ba_size, hlen, if_pos (by omega), if_pos (by omega), ba_bt (by rw [hlen]; omega), hat, rparse]
    by_cases hc : c = 10
    · have h2 : ((c.toNat : Nat) : Int) = 10 := by rw [hc]; rfl
      rw [if_pos h2, if_pos hc, if_pos (by omega), if_pos (by omega), if_pos (by omega), ba_extract]
      have hseg : ((p ++ seg ++ c :: r).take (((p.length + seg.length : Nat) : Int)).toNat).drop ((p.length : Nat) : Int).toNat = seg := by
        rw [Int.toNat_natCast, Int.toNat_natCast, show p.length + seg.length = (p ++ seg).length by simp, List.take_left, List.drop_left]
      rw [hseg, rline_f seg (by omega) k (by omega), Option.bind_some]
      dsimp only
      by_cases hr : (rline seg).2 = true
      · rw [if_pos hr, if_pos hr]
        by_cases h3 : acc.length ≥ 200
        · rw [if_pos (by omega), if_pos h3]
        · rw [if_neg (by omega), if_neg h3, if_pos (by omega), wrap64_id (by omega) (by omega)]
          have := ih (p ++ seg ++ [c]) [] (acc ++ [(rline seg).1]) k (by simp; omega) (by simp; omega) (by omega)
          rw [show p ++ seg ++ [c] ++ [] ++ r = p ++ seg ++ c :: r by simp] at this
          rw [show ((p.length + seg.length : Nat) : Int) + 1 = (((p ++ seg ++ [c]).length : Nat) : Int) by simp; omega]
          rw [show (p ++ seg ++ [c]).length + ([] : List UInt8).length = (p ++ seg ++ [c]).length by simp] at this
          exact this
      · rw [if_neg hr, if_neg hr]
    · have h2 : ¬ ((c.toNat : Nat) : Int) = 10 := fun e => hc (UInt8.toNat_inj.1 (by have : c.toNat = 10 := (by omega); exact this))
      rw [if_neg h2, if_neg hc, wrap64_id (by omega) (by omega)]
      have := ih p (seg ++ [c]) acc k (by simp; omega) ha (by omega)
      rw [show p ++ (seg ++ [c]) ++ r = p ++ seg ++ c :: r by simp] at this
      rw [show ((p.length + seg.length : Nat) : Int) + 1 = ((p.length + (seg ++ [c]).length : Nat) : Int) by simp; omega]
      exact this
theorem rParse_f (l : List UInt8) (hl : l.length ≤ 4000) (k : Nat) (hk : 9200 ≤ k) : capstanref05_Parse.f k ⟨l.toArray⟩ = some (match rparse [] l [] with | some L => (L, 0) | none => ([], 40)) := by
  have := parse_l0 l [] [] [] k (by simpa using hl) (by simp) (by omega)
  simpa [capstanref05_Parse.f] using this
/-- code.Parse tells the document's answer. -/
theorem cParse_f (l : List UInt8) (hl : l.length ≤ 4000) (k : Nat) (hk : 2200 ≤ k) : code_Parse.f k ⟨l.toArray⟩ = some (match rparse [] l [] with | some L => (L, 0) | none => ([], 40)) := by
  unfold code_Parse.f
  rw [ba_size, if_pos hl]
  cases h : rparse [] l [] with
  | some L =>
    obtain ⟨t, t1, t2, t3, t4, t5, t6⟩ := rparse_sound l [] [] L h (by simpa using hl) (by simp)
    rw [List.nil_append] at t1 t2
    subst t1
    have hpos : 0 < L.length := List.length_pos_iff.2 t5
    have hm : cmay L = true := by unfold cmay; rw [decide_eq_true ⟨hpos, t6⟩, t4]; rfl
    have hr := lines_run k (by omega) L [] 4001 t3 t4 (by omega) (by simpa using t6)
    rw [List.nil_append] at hr
    rw [t2, hr, Option.bind_some, text_f L t3 (by omega) k (by omega), Option.bind_some, if_pos hm, if_pos ⟨rfl, rfl⟩]
  | none =>
    obtain ⟨L, h1, h2, h3⟩ := lines_tot k (by omega) 4001 ⟨l.toArray⟩ [] (by rw [ba_size]; omega) (fun _ h => by cases h) (by simp)
    rw [h1, Option.bind_some, text_f L h2 (by omega) k (by omega), Option.bind_some]
    cases hm : cmay L
    · simp
    · simp only [reduceIte]
      obtain ⟨q1, q2⟩ := cmay_inv hm
      rw [if_neg]
      rintro ⟨_, e⟩
      have e2 : L.flatMap itext = l := by
        have := congrArg (fun s : ByteArray => s.data.toList) e
        simpa using this
      have := rparse_run L [] h2 q2 (by simpa using q1.2) (by simpa using List.length_pos_iff.1 q1.1)
      rw [e2, h] at this
      cases this
end Go.Proofs.YtdfjjooejfgglaaDoor.M
