/- Layer 8 in plain terms. -/
import Derived.Test.YthmjblmdbcmjcaaDoorB8
import Derived.Test.YthmjblmdbcmjcaaDoorB9
import Derived.Test.YthmjblmdbcmjcaaDoorB10
import Derived.Test.YthmjblmdbcmjcaaDoorB11
import Derived.Test.YthmjblmdbcmjcaaDoorB12
import Derived.Test.YthmjblmdbcmjcaaDoorB19
import Derived.Test.YthmjblmdbcmjcaaDoorB20
import Derived.Test.YthmjblmdbcmjcaaDoorB22
import Derived.Test.YthmjblmdbcmjcaaDoorB23
import Derived.Test.YthmjblmdbcmjcaaDoorB24
import Derived.Test.YthmjblmdbcmjcaaDoorLA
import Derived.Test.YthmjblmdbcmjcaaDoorLC
namespace Go.Proofs.YthmjblmdbcmjcaaDoor.M.MC
open Go.RowKit Go.Proofs.YthmjblmdbcmjcaaDoor.B Go.Proofs.YthmjblmdbcmjcaaDoorW.PrintWords Go.Proofs.YthmjblmdbcmjcaaDoorW.PrintLast Go.Proofs.YthmjblmdbcmjcaaDoorW.PrintMore
abbrev ME : Type := S47
abbrev VA : Type := S73
instance decV : DecidableEq S73 := fun u v => decidable_of_iff (u.f0 = v.f0 ∧ u.f1 = v.f1 ∧ u.f2 = v.f2) ⟨fun h => by cases u; cases v; obtain ⟨h0, h1, h2⟩ := h; cases h0; cases h1; cases h2; rfl, fun h => by cases h; exact ⟨rfl, rfl, rfl⟩⟩
def mb (x : ME) : List Int × Int := mbytes x.f0 x.f1 x.f2 x.f3 x.f4 x.f5 x.f6
def cb (x : ME) : List Int × Int := if cmay x.f7 = true then (cbytes x.f7, 0) else ([], 40)
def mall : List ME → List Int × Int
  | [] => ([], 0)
  | x :: r => if (mb x).2 = 0 then (if (cb x).2 = 0 then (if (mall r).2 = 0 then ((mb x).1 ++ (cb x).1 ++ (mall r).1, 0) else ([], (mall r).2)) else ([], (cb x).2)) else ([], (mb x).2)
structure OkM (ms : List ME) : Prop where
  len : ms.length ≤ 40
  one : ∀ x ∈ ms, x.f0.length ≤ 100 ∧ x.f1.length ≤ 100 ∧ x.f7.length ≤ 300 ∧ isI x.f7
theorem rdm_at {l : List ME} {i : Nat} (h : i < l.length) : rd_T47 l (i : Int) = l[i] := by simp [rd_T47, List.getD, List.getElem?_eq_getElem h]
theorem mb_len (x : ME) : (mb x).1.length ≤ 30 := by
  unfold mb mbytes
  by_cases h : mmay x.f0 x.f1 x.f2 x.f4 x.f5 x.f6 = true
  · rw [if_pos h]
    have h2 := (mmay_iff.1 h).1
    simp [mhead, leb_length]
    omega
  · rw [if_neg h]; simp
theorem cb_len (x : ME) : (cb x).1.length ≤ 601 := by
  unfold cb
  by_cases h : cmay x.f7 = true
  · rw [if_pos h]
    have h1 := (cmay_inv h).1
    have h2 := flat_length x.f7
    simp only [cbytes, List.length_cons]
    omega
  · rw [if_neg h]; simp
def mgb (a : Int) : Int := if a ≥ 0 then a % 256 else 255
def m8raw (l0 l1 : List VA) (ms : List ME) (a : Int) : List Int × Int :=
  if l0.length > 4 ∨ ms.length > 16 ∨ a < -1 ∨ a ≥ (ms.length : Int) then ([], 80) else
    if (pbytes l0).2 = 0 then (if (pbytes l1).2 = 0 then (if (mall ms).2 = 0 then ((pbytes l0).1 ++ (pbytes l1).1 ++ [(ms.length : Int)] ++ (mall ms).1 ++ [mgb a], 0) else ([], (mall ms).2)) else ([], (pbytes l1).2)) else ([], (pbytes l0).2)
def m8 (l0 l1 : List VA) (ms : List ME) (a : Int) : List Int × Int :=
  if (m8raw l0 l1 ms a).2 = 0 then (if (m8raw l0 l1 ms a).1.length > 2000 then ([], 3) else (m8raw l0 l1 ms a)) else ([], (m8raw l0 l1 ms a).2)
theorem whole_l0 {ms : List ME} (ok : OkM ms) (L0 L1 : List VA) (M : List ME) (a : Int) (d : Nat) : ∀ (k i : Nat) (acc : List Int), i + d = ms.length → acc.length ≤ 1000 + 640 * i → d + 3000 ≤ k →
    module_whole.l0 k acc ms ms.length i L0 L1 M a = some (if (mall (ms.drop i)).2 = 0 then (acc ++ (mall (ms.drop i)).1 ++ [mgb a], 0) else ([], (mall (ms.drop i)).2)) := by
  have hlen := ok.len
  induction d with
  | zero =>
    intro k i acc hi ha hk
    obtain ⟨k, rfl⟩ : ∃ n, k = n + 1 := ⟨k - 1, by omega⟩
    rw [module_whole.l0, if_neg (by omega), List.drop_eq_nil_of_le (by omega), mall, if_pos rfl, List.append_nil]
    unfold mgb
    by_cases h : a ≥ 0
    · rw [if_pos h, if_pos h, Option.bind_some, if_pos (by simp; omega)]
    · rw [if_neg h, if_neg h, Option.bind_some, if_pos (by simp; omega)]
  | succ d ih =>
    intro k i acc hi ha hk
    obtain ⟨k, rfl⟩ : ∃ n, k = n + 1 := ⟨k - 1, by omega⟩
    obtain ⟨h0, h1, h7, hI⟩ := ok.one ms[i] (List.getElem_mem _)
    have l1 := mb_len ms[i]
    have l2 := cb_len ms[i]
    rw [module_whole.l0, if_pos (by omega), if_pos (by omega), if_pos (by omega), rdm_at (by omega), mBytes_f _ _ _ _ _ _ _ _ h0 h1 k (by omega), Option.bind_some, List.drop_eq_getElem_cons (by omega : i < ms.length), mall]
    change (if (mb ms[i]).2 = 0 then _ else _) = _
    by_cases c0 : (mb ms[i]).2 = 0
    · rw [if_pos c0, if_pos c0, cBytes_f _ hI (by omega) k (by omega), Option.bind_some]
      change (if (cb ms[i]).2 = 0 then (if acc.length + (mb ms[i]).1.length < 140737488355328 then _ else _) else _) = _
      by_cases c1 : (cb ms[i]).2 = 0
      · rw [if_pos c1, if_pos c1, if_pos (by omega), Option.bind_some]
        change (if (acc ++ (mb ms[i]).1).length + (cb ms[i]).1.length < 140737488355328 then module_whole.l0 k (acc ++ (mb ms[i]).1 ++ (cb ms[i]).1) ms ms.length _ L0 L1 M a else _) = _
        rw [if_pos (by rw [List.length_append]; omega), wrap64_id (by omega) (by omega), show ((i : Int) + 1) = ((i + 1 : Nat) : Int) by omega, ih k (i + 1) _ (by omega) (by simp only [List.length_append]; omega) (by omega)]
        by_cases c2 : (mall (ms.drop (i + 1))).2 = 0
        · rw [if_pos c2, if_pos c2, if_pos rfl]; simp only [List.append_assoc]
        · rw [if_neg c2, if_neg c2, if_neg (show ¬ ([], (mall (ms.drop (i + 1))).2).2 = (0 : Int) from c2)]
      · rw [if_neg c1, if_neg c1, if_neg (show ¬ ([], (cb ms[i]).2).2 = (0 : Int) from c1)]; rfl
    · rw [if_neg c0, if_neg c0, if_neg (show ¬ ([], (mb ms[i]).2).2 = (0 : Int) from c0)]; rfl
theorem whole_j0 {l0 l1 : List VA} {ms : List ME} (ok : OkM ms) (h16 : ms.length ≤ 16) (a : Int) (k : Nat) (hk : 4000 ≤ k) (b : Bool) : module_whole.j0 k b l0 l1 ms a = some (if b = true then ([], 80) else if (pbytes l0).2 = 0 then (if (pbytes l1).2 = 0 then (if (mall ms).2 = 0 then ((pbytes l0).1 ++ (pbytes l1).1 ++ [(ms.length : Int)] ++ (mall ms).1 ++ [mgb a], 0) else ([], (mall ms).2)) else ([], (pbytes l1).2)) else ([], (pbytes l0).2)) := by
  have hlen := ok.len
  obtain ⟨k, rfl⟩ : ∃ n, k = n + 1 := ⟨k - 1, by omega⟩
  have p0 := pbytes_length l0
  have p1 := pbytes_length l1
  rw [module_whole.j0]
  cases b
  · rw [if_neg (by decide), if_neg (by decide), pbytes_f l0 k (by omega), Option.bind_some]
    by_cases c0 : (pbytes l0).2 = 0
    · rw [if_pos c0, if_pos c0, pbytes_f l1 k (by omega), Option.bind_some]
      by_cases c1 : (pbytes l1).2 = 0
      · rw [if_pos c1, if_pos c1, if_pos (by omega), Option.bind_some, Option.bind_some, if_pos (by simp; omega)]
        have := whole_l0 ok l0 l1 ms a ms.length k 0 ((pbytes l0).1 ++ (pbytes l1).1 ++ [(ms.length : Int)]) (by omega) (by simp; omega) (by omega)
        rw [List.drop_zero] at this
        rw [show ((ms.length : Int)) % 256 = ms.length by omega]
        exact this
      · rw [if_neg c1, if_neg c1]
    · rw [if_neg c0, if_neg c0]
  · rw [if_pos rfl, if_pos rfl]
theorem whole_bad (l0 l1 : List VA) (ms : List ME) (a : Int) (k : Nat) (hk : 0 < k) : module_whole.j0 k true l0 l1 ms a = some ([], 80) := by
  obtain ⟨k, rfl⟩ : ∃ n, k = n + 1 := ⟨k - 1, by omega⟩
  rw [module_whole.j0, if_pos rfl]
theorem whole_f {l0 l1 : List VA} {ms : List ME} (ok : OkM ms) (a : Int) (k : Nat) (hk : 4000 ≤ k) : module_whole.f k l0 l1 ms a = some (m8raw l0 l1 ms a) := by
  unfold module_whole.f m8raw
  by_cases c0 : l0.length > 4
  · rw [if_pos (by omega), if_pos (.inl c0), whole_bad _ _ _ _ _ (by omega)]
  by_cases c1 : ms.length > 16
  · rw [if_neg (by omega), if_pos (by omega), if_pos (.inr (.inl c1)), whole_bad _ _ _ _ _ (by omega)]
  by_cases c2 : a < -1
  · rw [if_neg (by omega), if_neg (by omega), if_pos c2, if_pos (.inr (.inr (.inl c2))), whole_bad _ _ _ _ _ (by omega)]
  rw [if_neg (by omega), if_neg (by omega), if_neg c2, whole_j0 ok (by omega) a k hk]
  by_cases c3 : a ≥ (ms.length : Int)
  · rw [if_pos (decide_eq_true c3), if_pos (Or.inr (Or.inr (Or.inr c3)))]
  · rw [if_neg (show ¬ decide (a ≥ (ms.length : Int)) = true by simpa using c3), if_neg (show ¬ (l0.length > 4 ∨ ms.length > 16 ∨ a < -1 ∨ a ≥ (ms.length : Int)) by omega)]
theorem bytes_f {l0 l1 : List VA} {ms : List ME} (ok : OkM ms) (a : Int) (k : Nat) (hk : 4000 ≤ k) : module_Bytes.f k l0 l1 ms a = some (m8 l0 l1 ms a) := by
  unfold module_Bytes.f m8
  rw [whole_f ok a k hk, Option.bind_some]
  by_cases c0 : (m8raw l0 l1 ms a).2 = 0
  · rw [if_pos c0, if_pos c0]
    by_cases c1 : (m8raw l0 l1 ms a).1.length > 2000
    · rw [if_pos (by omega), if_pos c1]
    · rw [if_neg (by omega), if_neg c1]
      congr 1
      exact Prod.ext rfl c0.symm
  · rw [if_neg c0, if_neg c0]
theorem may8_f {l0 l1 : List VA} {ms : List ME} (ok : OkM ms) (a : Int) (k : Nat) (hk : 4000 ≤ k) : module_May.f k l0 l1 ms a = some (m8 l0 l1 ms a).2 := by
  unfold module_May.f
  rw [bytes_f ok a k hk, Option.bind_some]
theorem m8_isB {l0 l1 : List VA} {ms : List ME} {a : Int} (hm : ∀ x ∈ ms, isB x.f0 ∧ isB x.f1 ∧ isI x.f7) : isB (m8 l0 l1 ms a).1 := by
  have hall : ∀ ms : List ME, (∀ x ∈ ms, isB x.f0 ∧ isB x.f1 ∧ isI x.f7) → isB (mall ms).1 := by
    intro ms
    induction ms with
    | nil => intro _; exact isB_nil
    | cons x r ih =>
      intro h
      obtain ⟨h0, h1, h7⟩ := h x (by simp)
      have a1 : isB (mb x).1 := mbytes_isB h0 h1
      have a2 : isB (cb x).1 := by
        unfold cb
        by_cases c : cmay x.f7 = true
        · rw [if_pos c]
          have hl := (cmay_inv c).1
          exact isB_cons.2 ⟨by omega, flat_isB h7⟩
        · rw [if_neg c]; exact isB_nil
      have a3 := ih fun y hy => h y (by simp [hy])
      rw [mall]
      split
      · split
        · split
          · exact isB_append.2 ⟨isB_append.2 ⟨a1, a2⟩, a3⟩
          · exact isB_nil
        · exact isB_nil
      · exact isB_nil
  have hraw : isB (m8raw l0 l1 ms a).1 := by
    unfold m8raw
    split
    · exact isB_nil
    · rename_i hc
      split
      · split
        · split
          · refine isB_append.2 ⟨isB_append.2 ⟨isB_append.2 ⟨isB_append.2 ⟨pbytes_isB _, pbytes_isB _⟩, isB_cons.2 ⟨by omega, isB_nil⟩⟩, hall _ hm⟩, isB_cons.2 ⟨?_, isB_nil⟩⟩
            unfold mgb
            split <;> omega
          · exact isB_nil
        · exact isB_nil
      · exact isB_nil
  unfold m8
  split
  · split
    · exact isB_nil
    · exact hraw
  · exact isB_nil
end Go.Proofs.YthmjblmdbcmjcaaDoor.M.MC
namespace Go.Proofs.YthmjblmdbcmjcaaDoor.M.MC
open Go.RowKit Go.Proofs.YthmjblmdbcmjcaaDoor.B Go.Proofs.YthmjblmdbcmjcaaDoorW.PrintWords Go.Proofs.YthmjblmdbcmjcaaDoorW.PrintLast Go.Proofs.YthmjblmdbcmjcaaDoorW.PrintMore
theorem vne_iff (u v : VA) : ((!(u.f0 == v.f0) || (!(u.f1 == v.f1) || (!(u.f2 == v.f2)))) = true) ↔ u ≠ v := by
  cases u; cases v
  simp only [Bool.or_eq_true, Bool.not_eq_true', beq_eq_false_iff_ne, ne_eq, S73.mk.injEq]
  omega
theorem vsame_l0 (x y : List VA) (hx : x.length ≤ 100000) (hy : x.length = y.length) (d : Nat) : ∀ (k i : Nat), i + d = x.length → d < k → slices_Equal_api_Value_api_Value.l0 k x y x.length i = some (decide (x.drop i = y.drop i)) := by
  induction d with
  | zero =>
    intro k i hi hk
    obtain ⟨k, rfl⟩ : ∃ n, k = n + 1 := ⟨k - 1, by omega⟩
    simp only [slices_Equal_api_Value_api_Value.l0]
    rw [if_neg (by omega), List.drop_eq_nil_of_le (by omega), List.drop_eq_nil_of_le (by omega)]; rfl
  | succ d ih =>
    intro k i hi hk
    obtain ⟨k, rfl⟩ : ∃ n, k = n + 1 := ⟨k - 1, by omega⟩
    have hr := ih k (i + 1) (by omega) (by omega)
    simp only [slices_Equal_api_Value_api_Value.l0]
    rw [if_pos (by omega), if_pos (by omega), if_pos (by omega), if_pos (by omega), rdT_at (by omega : i < x.length), rdT_at (by omega : i < y.length), wrap64_id (by omega) (by omega), show ((i : Int) + 1) = ((i + 1 : Nat) : Int) by omega, hr, List.drop_eq_getElem_cons (by omega : i < x.length), List.drop_eq_getElem_cons (by omega : i < y.length)]
    by_cases h : x[i] = y[i]
    · rw [if_neg (fun c => (vne_iff _ _).1 c h)]
      congr 1; rw [Bool.eq_iff_iff, decide_eq_true_eq, decide_eq_true_eq, List.cons.injEq]
      exact ⟨fun e => ⟨h, e⟩, fun e => e.2⟩
    · rw [if_pos ((vne_iff _ _).2 h), decide_eq_false (fun c => h (List.cons.inj c).1)]
theorem vsame_f (x y : List VA) (hx : x.length ≤ 100000) (k : Nat) (hk : x.length < k) : slices_Equal_api_Value_api_Value.f k x y = some (decide (x = y)) := by
  unfold slices_Equal_api_Value_api_Value.f
  by_cases h : x.length = y.length
  · have hr := vsame_l0 x y hx h x.length k 0 (by omega) hk
    rw [if_pos (by omega)]
    exact hr
  · rw [if_neg (by omega), decide_eq_false (fun c => h (by rw [c]))]
theorem rvsame_l0 (x y : List VA) (hx : x.length ≤ 100000) (hy : x.length = y.length) (d : Nat) : ∀ (k i : Nat), i + d = x.length → d < k → capstanref03_Same.l0 k x y i = some (decide (x.drop i = y.drop i)) := by
  induction d with
  | zero =>
    intro k i hi hk
    obtain ⟨k, rfl⟩ : ∃ n, k = n + 1 := ⟨k - 1, by omega⟩
    simp only [capstanref03_Same.l0]
    rw [if_neg (by omega), List.drop_eq_nil_of_le (by omega), List.drop_eq_nil_of_le (by omega)]; rfl
  | succ d ih =>
    intro k i hi hk
    obtain ⟨k, rfl⟩ : ∃ n, k = n + 1 := ⟨k - 1, by omega⟩
    have hr := ih k (i + 1) (by omega) (by omega)
    simp only [capstanref03_Same.l0]
    rw [if_pos (by omega), if_pos (by omega), if_pos (by omega), rdT_at (by omega : i < x.length), rdT_at (by omega : i < y.length), wrap64_id (by omega) (by omega), show ((i : Int) + 1) = ((i + 1 : Nat) : Int) by omega, hr, List.drop_eq_getElem_cons (by omega : i < x.length), List.drop_eq_getElem_cons (by omega : i < y.length)]
    by_cases h : x[i] = y[i]
    · rw [if_neg (fun c => (vne_iff _ _).1 c h)]
      congr 1; rw [Bool.eq_iff_iff, decide_eq_true_eq, decide_eq_true_eq, List.cons.injEq]
      exact ⟨fun e => ⟨h, e⟩, fun e => e.2⟩
    · rw [if_pos ((vne_iff _ _).2 h), decide_eq_false (fun c => h (List.cons.inj c).1)]
theorem rvsame_f (x y : List VA) (hx : x.length ≤ 100000) (k : Nat) (hk : x.length < k) : capstanref03_Same.f k x y = some (decide (x = y)) := by
  unfold capstanref03_Same.f
  by_cases h : x.length = y.length
  · have hr := rvsame_l0 x y hx h x.length k 0 (by omega) hk
    rw [if_pos (by omega)]
    exact hr
  · rw [if_neg (by omega), decide_eq_false (fun c => h (by rw [c]))]
def one8 (x y : ME) : Bool := msame x.f0 x.f1 x.f2 x.f3 x.f4 x.f5 x.f6 y.f0 y.f1 y.f2 y.f3 y.f4 y.f5 y.f6 && csame x.f7 y.f7
def all8 : List ME → List ME → Bool
  | x :: r, y :: s => one8 x y && all8 r s
  | _, _ => true
def same8 (l0 l1 : List VA) (ms : List ME) (a : Int) (u0 u1 : List VA) (us : List ME) (b : Int) : Bool := decide (a = b) && (decide (l0 = u0) && (decide (l1 = u1) && (decide (ms.length = us.length) && all8 ms us)))
theorem alike_f (x y : ME) (h0 : x.f0.length ≤ 100) (h1 : x.f1.length ≤ 100) (h7 : x.f7.length ≤ 300) (k : Nat) (hk : 3000 ≤ k) : module_Same_1.f k x.f0 x.f1 x.f2 x.f3 x.f4 x.f5 x.f6 x.f7 y.f0 y.f1 y.f2 y.f3 y.f4 y.f5 y.f6 y.f7 = some (one8 x y) := by
  unfold module_Same_1.f one8
  rw [mSame_f _ _ _ _ _ _ _ _ _ _ _ _ _ _ _ _ h0 h1 k (by omega), Option.bind_some]
  cases msame x.f0 x.f1 x.f2 x.f3 x.f4 x.f5 x.f6 y.f0 y.f1 y.f2 y.f3 y.f4 y.f5 y.f6
  · rw [if_neg (by decide), Bool.false_and]
  · rw [if_pos rfl, same_f _ _ (by omega) k (by omega), Option.bind_some, Bool.true_and]
theorem eqf_l0 {ms : List ME} (ok : OkM ms) (us : List ME) (hy : ms.length = us.length) (d : Nat) : ∀ (k i : Nat), i + d = ms.length → d + 3000 ≤ k → slices_EqualFunc_api_Method_api_Method_api_Method_api_Method.l0 k us ms ms.length i = some (all8 (ms.drop i) (us.drop i)) := by
  have hlen := ok.len
  induction d with
  | zero =>
    intro k i hi hk
    obtain ⟨k, rfl⟩ : ∃ n, k = n + 1 := ⟨k - 1, by omega⟩
    rw [slices_EqualFunc_api_Method_api_Method_api_Method_api_Method.l0, if_neg (by omega), List.drop_eq_nil_of_le (by omega), List.drop_eq_nil_of_le (by omega)]; rfl
  | succ d ih =>
    intro k i hi hk
    obtain ⟨k, rfl⟩ : ∃ n, k = n + 1 := ⟨k - 1, by omega⟩
    obtain ⟨h0, h1, h7, _⟩ := ok.one ms[i] (List.getElem_mem _)
    rw [slices_EqualFunc_api_Method_api_Method_api_Method_api_Method.l0, if_pos (by omega), if_pos (by omega), if_pos (by omega), if_pos (by omega), rdm_at (by omega : i < ms.length), rdm_at (by omega : i < us.length), alike_f _ _ h0 h1 h7 k (by omega), Option.bind_some, List.drop_eq_getElem_cons (by omega : i < ms.length), List.drop_eq_getElem_cons (by omega : i < us.length), all8]
    cases one8 ms[i] us[i]
    · rw [if_neg (by decide), Bool.false_and]
    · rw [if_pos rfl, Bool.true_and, wrap64_id (by omega) (by omega), show ((i : Int) + 1) = ((i + 1 : Nat) : Int) by omega]
      exact ih k (i + 1) (by omega) (by omega)
theorem same8_f {ms : List ME} (ok : OkM ms) (l0 l1 : List VA) (a : Int) (u0 u1 : List VA) (us : List ME) (b : Int) (hl0 : l0.length ≤ 1000) (hl1 : l1.length ≤ 1000) (k : Nat) (hk : 4000 ≤ k) : module_Same.f k l0 l1 ms a u0 u1 us b = some (same8 l0 l1 ms a u0 u1 us b) := by
  have hlen := ok.len
  unfold module_Same.f same8
  by_cases c0 : a = b
  · rw [if_pos c0, decide_eq_true c0, Bool.true_and, vsame_f _ _ (by omega) k (by omega), Option.bind_some]
    by_cases c1 : l0 = u0
    · rw [if_pos (decide_eq_true c1), decide_eq_true c1, Bool.true_and, vsame_f _ _ (by omega) k (by omega), Option.bind_some]
      by_cases c2 : l1 = u1
      · rw [if_pos (decide_eq_true c2), decide_eq_true c2, Bool.true_and]
        unfold slices_EqualFunc_api_Method_api_Method_api_Method_api_Method.f
        by_cases c3 : ms.length = us.length
        · have := eqf_l0 ok us c3 ms.length k 0 (by omega) (by omega)
          rw [List.drop_zero, List.drop_zero] at this
          rw [if_pos (by omega), decide_eq_true c3, Bool.true_and]
          rw [show slices_EqualFunc_api_Method_api_Method_api_Method_api_Method.l0 k us ms ms.length 0 = _ from this, Option.bind_some]
        · rw [if_neg (by omega), decide_eq_false c3, Bool.false_and, Option.bind_some]
      · rw [if_neg (by simpa using c2), decide_eq_false c2, Bool.false_and]
    · rw [if_neg (by simpa using c1), decide_eq_false c1, Bool.false_and]
  · rw [if_neg c0, decide_eq_false c0, Bool.false_and]
theorem rsame_l0 {ms : List ME} (ok : OkM ms) (l0 l1 : List VA) (a : Int) (u0 u1 : List VA) (us : List ME) (b : Int) (hy : ms.length = us.length) (d : Nat) : ∀ (k i : Nat), i + d = ms.length → d + 3000 ≤ k → capstanref08_Same.l0 k i l0 l1 ms a u0 u1 us b = some (all8 (ms.drop i) (us.drop i)) := by
  have hlen := ok.len
  induction d with
  | zero =>
    intro k i hi hk
    obtain ⟨k, rfl⟩ : ∃ n, k = n + 1 := ⟨k - 1, by omega⟩
    rw [capstanref08_Same.l0, if_neg (by omega), List.drop_eq_nil_of_le (by omega), List.drop_eq_nil_of_le (by omega)]; rfl
  | succ d ih =>
    intro k i hi hk
    obtain ⟨k, rfl⟩ : ∃ n, k = n + 1 := ⟨k - 1, by omega⟩
    obtain ⟨h0, h1, h7, _⟩ := ok.one ms[i] (List.getElem_mem _)
    rw [capstanref08_Same.l0, if_pos (by omega), if_pos (by omega), if_pos (by omega), rdm_at (by omega : i < ms.length), rdm_at (by omega : i < us.length), refSame7_f _ _ _ _ _ _ _ _ _ _ _ _ _ _ _ _ h0 h1 k (by omega), Option.bind_some, List.drop_eq_getElem_cons (by omega : i < ms.length), List.drop_eq_getElem_cons (by omega : i < us.length), all8, one8]
    cases msame ms[i].f0 ms[i].f1 ms[i].f2 ms[i].f3 ms[i].f4 ms[i].f5 ms[i].f6 us[i].f0 us[i].f1 us[i].f2 us[i].f3 us[i].f4 us[i].f5 us[i].f6
    · rw [if_neg (by decide), Bool.false_and, Bool.false_and]
    · rw [if_pos rfl, Bool.true_and, tSame_f _ _ (by omega) k (by omega), Option.bind_some]
      cases csame ms[i].f7 us[i].f7
      · rw [if_neg (by decide), Bool.false_and]
      · rw [if_pos rfl, Bool.true_and, wrap64_id (by omega) (by omega), show ((i : Int) + 1) = ((i + 1 : Nat) : Int) by omega]
        exact ih k (i + 1) (by omega) (by omega)
theorem rsame_j0 (l0 l1 : List VA) (ms : List ME) (a : Int) (u0 u1 : List VA) (us : List ME) (b : Int) (k : Nat) (hk : 0 < k) : capstanref08_Same.j0 k true l0 l1 ms a u0 u1 us b = some false := by
  obtain ⟨k, rfl⟩ : ∃ n, k = n + 1 := ⟨k - 1, by omega⟩
  rw [capstanref08_Same.j0, if_pos rfl]
theorem rsame8_f {ms : List ME} (ok : OkM ms) (l0 l1 : List VA) (a : Int) (u0 u1 : List VA) (us : List ME) (b : Int) (hl0 : l0.length ≤ 1000) (hl1 : l1.length ≤ 1000) (k : Nat) (hk : 4000 ≤ k) : capstanref08_Same.f k l0 l1 ms a u0 u1 us b = some (same8 l0 l1 ms a u0 u1 us b) := by
  have hlen := ok.len
  unfold capstanref08_Same.f same8
  by_cases c0 : a = b
  · rw [if_pos c0, decide_eq_true c0, Bool.true_and, rvsame_f _ _ (by omega) k (by omega), Option.bind_some]
    by_cases c1 : l0 = u0
    · rw [if_pos (decide_eq_true c1), decide_eq_true c1, Bool.true_and, rvsame_f _ _ (by omega) k (by omega), Option.bind_some]
      by_cases c2 : l1 = u1
      · rw [if_pos (decide_eq_true c2), decide_eq_true c2, Bool.true_and]
        by_cases c3 : ms.length = us.length
        · rw [show ((ms.length : Int) != (us.length : Int)) = false from by rw [bne_eq_false_iff_eq]; omega, decide_eq_true c3, Bool.true_and]
          obtain ⟨k, rfl⟩ : ∃ n, k = n + 1 := ⟨k - 1, by omega⟩
          have := rsame_l0 ok l0 l1 a u0 u1 us b c3 ms.length k 0 (by omega) (by omega)
          rw [List.drop_zero, List.drop_zero] at this
          rw [capstanref08_Same.j0, if_neg (by decide)]
          exact this
        · rw [show ((ms.length : Int) != (us.length : Int)) = true from by rw [bne_iff_ne]; omega, decide_eq_false c3, Bool.false_and, rsame_j0 _ _ _ _ _ _ _ _ _ (by omega)]
      · rw [if_neg (by simpa using c2), decide_eq_false c2, Bool.false_and, rsame_j0 _ _ _ _ _ _ _ _ _ (by omega)]
    · rw [if_neg (by simpa using c1), decide_eq_false c1, Bool.false_and, rsame_j0 _ _ _ _ _ _ _ _ _ (by omega)]
  · rw [if_neg c0, decide_eq_false c0, Bool.false_and, rsame_j0 _ _ _ _ _ _ _ _ _ (by omega)]
theorem all8_self : ∀ ms : List ME, all8 ms ms = true := by
  intro ms
  induction ms with
  | nil => rfl
  | cons x r ih => rw [all8, ih, Bool.and_true, one8, csame_self, Bool.and_true]; exact msame_iff.2 ⟨rfl, rfl, rfl, rfl, rfl, rfl, rfl⟩
theorem same8_self (l0 l1 : List VA) (ms : List ME) (a : Int) : same8 l0 l1 ms a l0 l1 ms a = true := by simp [same8, all8_self]
end Go.Proofs.YthmjblmdbcmjcaaDoor.M.MC
namespace Go.Proofs.YthmjblmdbcmjcaaDoor.M.MC
open Go.RowKit Go.Proofs.YthmjblmdbcmjcaaDoor.B Go.Proofs.YthmjblmdbcmjcaaDoorW.PrintWords Go.Proofs.YthmjblmdbcmjcaaDoorW.PrintLast Go.Proofs.YthmjblmdbcmjcaaDoorW.PrintMore
theorem okm {l0 l1 : List VA} {ms : List ME} {a : Int} (hg : capstanlaw08_Great.f 60 l0 l1 ms a = some false) (hs : Small ms) (h300 : ∀ j : Int, 0 ≤ j → j < (ms.length : Int) → (rd_T47 ms j).f7.length ≤ 300) (hI : ∀ x ∈ ms, isI x.f7) : OkM ms := by
  have hf := great_few hs.len hg
  refine ⟨hs.len, fun x hx => ?_⟩
  obtain ⟨j, hj, rfl⟩ := List.mem_iff_getElem.1 hx
  have a := hf j hj
  have b := h300 (j : Int) (by omega) (by omega)
  rw [rdm_at hj] at a b
  exact ⟨a.1, a.2, b, hI _ hx⟩
theorem awake8_f (k : Nat) (hk : 60 ≤ k) : capstanlaw08_awake.f k = some true := by
  obtain ⟨d, rfl⟩ := Nat.exists_eq_add_of_le hk
  induction d with
  | zero => decide +kernel
  | succ d ih => exact capstanlaw08_awake.mono _ _ (ih (by omega))
end Go.Proofs.YthmjblmdbcmjcaaDoor.M.MC
namespace Go.Proofs.YthmjblmdbcmjcaaDoor.M.MC
open Go.RowKit Go.Proofs.YthmjblmdbcmjcaaDoor.B Go.Proofs.YthmjblmdbcmjcaaDoorW.PrintWords Go.Proofs.YthmjblmdbcmjcaaDoorW.PrintLast Go.Proofs.YthmjblmdbcmjcaaDoorW.PrintMore
abbrev PT : Type := List VA × List VA × List ME × Int × Int
def mone (l : List Int) (a : Int) : MT := if (mread l a).2.2.2.2.2.2.2.2.2 = 0 then ((mread l a).1, (mread l a).2.1, (mread l a).2.2.1, (mread l a).2.2.2.1, (mread l a).2.2.2.2.1, (mread l a).2.2.2.2.2.1, (mread l a).2.2.2.2.2.2.1, (cparse l (mread l a).2.2.2.2.2.2.2.2.1).1, (cparse l (mread l a).2.2.2.2.2.2.2.2.1).2.1, (cparse l (mread l a).2.2.2.2.2.2.2.2.1).2.2) else ([], [], 0, false, 0, 0, 0, [], 0, (mread l a).2.2.2.2.2.2.2.2.2)
theorem mone_f {l : List Int} (hb : isB l) (hl : l.length ≤ 10000) (a : Int) (k : Nat) (hk : 100 ≤ k) : module_one.f k l a = some (mone l a) := by
  unfold module_one.f mone
  rw [read_f hb (by omega) a k (by omega), Option.bind_some]
  by_cases h : (mread l a).2.2.2.2.2.2.2.2.2 = 0
  · rw [if_pos h, if_pos h, cparse_f hb (by omega) _ k (by omega), Option.bind_some]
  · rw [if_neg h, if_neg h]
def mof (t : MT) : ME := ⟨t.1, t.2.1, t.2.2.1, t.2.2.2.1, t.2.2.2.2.1, t.2.2.2.2.2.1, t.2.2.2.2.2.2.1, t.2.2.2.2.2.2.2.1⟩
def mloop (l : List Int) : Nat → Int → List ME → List ME × Int × Int
  | 0, a, acc => (acc, a, 0)
  | d + 1, a, acc => if (mone l a).2.2.2.2.2.2.2.2.2 = 0 then mloop l d (mone l a).2.2.2.2.2.2.2.2.1 (acc ++ [mof (mone l a)]) else ([], 0, (mone l a).2.2.2.2.2.2.2.2.2)
theorem mloop_f {l : List Int} (hb : isB l) (hl : l.length ≤ 10000) (k : Nat) (hk : 100 ≤ k) : ∀ (d : Nat) (a : Int) (acc : List ME), module_Parse.l0 k l d a acc = some (mloop l d a acc) := by
  intro d
  induction d with
  | zero => intro a acc; rfl
  | succ d ih =>
    intro a acc
    rw [module_Parse.l0, mone_f hb hl a k hk, Option.bind_some, mloop]
    by_cases h : (mone l a).2.2.2.2.2.2.2.2.2 = 0
    · rw [if_pos h, if_pos h, ih]; rfl
    · rw [if_neg h, if_neg h]
def mpbad (e : Int) : PT := ([], [], [], 0, e)
def mp4 (l : List Int) (G P : List VA) (M : List ME) (n a : Int) : PT := if (get l a 1).2.2 = 0 then (if ((get l a 1).1 < n ∨ (get l a 1).1 = 255) ∧ (get l a 1).2.1 = (l.length : Int) then (G, P, M, if (get l a 1).1 = 255 then -1 else (get l a 1).1, 0) else mpbad 80) else mpbad (get l a 1).2.2
def mp3 (l : List Int) (G P : List VA) (n a : Int) : PT := if (mloop l n.toNat a []).2.2 = 0 then mp4 l G P (mloop l n.toNat a []).1 n (mloop l n.toNat a []).2.1 else mpbad (mloop l n.toNat a []).2.2
def mp2 (l : List Int) (G P : List VA) (a : Int) : PT := if (get l a 1).2.2 = 0 then (if (get l a 1).1 ≤ 16 then mp3 l G P (get l a 1).1 (get l a 1).2.1 else mpbad 80) else mpbad (get l a 1).2.2
def mp1 (l : List Int) (G : List VA) (a : Int) : PT := if (poolread l a).2.2 = 0 then mp2 l G (poolread l a).1 (poolread l a).2.1 else mpbad (poolread l a).2.2
def mparse (l : List Int) : PT := if (l.length : Int) > 2000 then mpbad 3 else if (poolread l 0).2.2 = 0 then (if ((poolread l 0).1.length : Int) ≤ 4 then mp1 l (poolread l 0).1 (poolread l 0).2.1 else mpbad 80) else mpbad (poolread l 0).2.2
theorem mparse_f {l : List Int} (hb : isB l) (hl : l.length ≤ 10000) (k : Nat) (hk : 100 ≤ k) : module_Parse.f k l = some (mparse l) := by
  unfold module_Parse.f mparse
  by_cases c : (l.length : Int) > 2000
  · rw [if_pos c, if_pos c]; rfl
  rw [if_neg c, if_neg c, poolread_f l hb (by omega) 0 k (by omega), Option.bind_some]
  by_cases c0 : (poolread l 0).2.2 = 0
  rotate_left
  · rw [if_neg c0, if_neg c0]; rfl
  rw [if_pos c0, if_pos c0]
  by_cases c1 : ((poolread l 0).1.length : Int) ≤ 4
  rotate_left
  · rw [if_neg c1, if_neg c1]; rfl
  rw [if_pos c1, if_pos c1, mp1, poolread_f l hb (by omega) _ k (by omega), Option.bind_some]
  generalize (poolread l 0).1 = G
  generalize (poolread l 0).2.1 = a1
  by_cases c2 : (poolread l a1).2.2 = 0
  rotate_left
  · rw [if_neg c2, if_neg c2]; rfl
  rw [if_pos c2, if_pos c2, mp2, get_f l hb (by omega) _ _ k (by omega), Option.bind_some]
  generalize (poolread l a1).1 = P
  generalize (poolread l a1).2.1 = a2
  by_cases c3 : (get l a2 1).2.2 = 0
  rotate_left
  · rw [if_neg c3, if_neg c3]; rfl
  rw [if_pos c3, if_pos c3]
  by_cases c4 : (get l a2 1).1 ≤ 16
  rotate_left
  · rw [if_neg c4, if_neg c4]; rfl
  rw [if_pos c4, if_pos c4, mp3, mloop_f hb hl k hk, Option.bind_some]
  generalize (get l a2 1).1 = n
  generalize (get l a2 1).2.1 = a3
  by_cases c5 : (mloop l n.toNat a3 []).2.2 = 0
  rotate_left
  · rw [if_neg c5, if_neg c5]; rfl
  rw [if_pos c5, if_pos c5, mp4, get_f l hb (by omega) _ _ k (by omega), Option.bind_some]
  generalize (mloop l n.toNat a3 []).1 = M
  generalize (mloop l n.toNat a3 []).2.1 = a4
  by_cases c6 : (get l a4 1).2.2 = 0
  rotate_left
  · rw [if_neg c6, if_neg c6]; rfl
  rw [if_pos c6, if_pos c6]
  by_cases c7 : ((get l a4 1).1 < n ∨ (get l a4 1).1 = 255) ∧ (get l a4 1).2.1 = (l.length : Int)
  · rw [if_pos c7, if_pos c7]
  · rw [if_neg c7, if_neg c7]; rfl
end Go.Proofs.YthmjblmdbcmjcaaDoor.M.MC
namespace Go.Proofs.YthmjblmdbcmjcaaDoor.M.MC
open Go.RowKit Go.Proofs.YthmjblmdbcmjcaaDoor.B Go.Proofs.YthmjblmdbcmjcaaDoorW.PrintWords Go.Proofs.YthmjblmdbcmjcaaDoorW.PrintLast Go.Proofs.YthmjblmdbcmjcaaDoorW.PrintMore
structure WfM (ms : List ME) : Prop where
  one : ∀ x ∈ ms, isB x.f0 ∧ isB x.f1 ∧ isI x.f7
theorem mb_ok {x : ME} (h : (mb x).2 = 0) : mmay x.f0 x.f1 x.f2 x.f4 x.f5 x.f6 = true ∧ (mb x).1 = mhead x.f0 x.f1 x.f2 x.f3 x.f4 x.f5 x.f6 := by
  unfold mb mbytes at h ⊢
  by_cases c : mmay x.f0 x.f1 x.f2 x.f4 x.f5 x.f6 = true
  · rw [if_pos c]; exact ⟨c, rfl⟩
  · rw [if_neg c] at h; exact absurd h (by decide)
theorem cb_ok {x : ME} (h : (cb x).2 = 0) : cmay x.f7 = true ∧ (cb x).1 = cbytes x.f7 := by
  unfold cb at h ⊢
  by_cases c : cmay x.f7 = true
  · rw [if_pos c]; exact ⟨c, rfl⟩
  · rw [if_neg c] at h; exact absurd h (by decide)
theorem mall_cons {x : ME} {r : List ME} (h : (mall (x :: r)).2 = 0) : (mb x).2 = 0 ∧ (cb x).2 = 0 ∧ (mall r).2 = 0 ∧ (mall (x :: r)).1 = (mb x).1 ++ (cb x).1 ++ (mall r).1 := by
  rw [mall] at h ⊢
  by_cases c0 : (mb x).2 = 0
  · rw [if_pos c0] at h ⊢
    by_cases c1 : (cb x).2 = 0
    · rw [if_pos c1] at h ⊢
      by_cases c2 : (mall r).2 = 0
      · rw [if_pos c2]; exact ⟨c0, c1, c2, rfl⟩
      · rw [if_neg c2] at h; exact absurd h c2
    · rw [if_neg c1] at h; exact absurd h c1
  · rw [if_neg c0] at h; exact absurd h c0
theorem mone_put (x y : List Int) {m : ME} (h0 : (mb m).2 = 0) (h1 : (cb m).2 = 0) (hI : isI m.f7) : mone (x ++ ((mb m).1 ++ (cb m).1) ++ y) x.length = (m.f0, m.f1, m.f2, m.f3, m.f4, m.f5, m.f6, m.f7, ((x ++ ((mb m).1 ++ (cb m).1)).length : Int), 0) := by
  obtain ⟨a0, a1⟩ := mb_ok h0
  obtain ⟨b0, b1⟩ := cb_ok h1
  have e : x ++ ((mb m).1 ++ (cb m).1) ++ y = x ++ mhead m.f0 m.f1 m.f2 m.f3 m.f4 m.f5 m.f6 ++ (cbytes m.f7 ++ y) := by rw [a1, b1]; simp only [List.append_assoc]
  have e2 : x ++ ((mb m).1 ++ (cb m).1) ++ y = (x ++ mhead m.f0 m.f1 m.f2 m.f3 m.f4 m.f5 m.f6) ++ cbytes m.f7 ++ y := by rw [a1, b1]; simp only [List.append_assoc]
  have hr := mread_put x (cbytes m.f7 ++ y) a0 (q := m.f3)
  have hc := cparse_put (x ++ mhead m.f0 m.f1 m.f2 m.f3 m.f4 m.f5 m.f6) y hI b0
  rw [← e] at hr
  rw [← e2] at hc
  unfold mone
  rw [hr]
  dsimp only
  rw [if_pos rfl, show (x.length : Int) + ((mhead m.f0 m.f1 m.f2 m.f3 m.f4 m.f5 m.f6).length : Int) = ((x ++ mhead m.f0 m.f1 m.f2 m.f3 m.f4 m.f5 m.f6).length : Int) by rw [List.length_append]; omega, hc, a1, b1]
  simp only [List.length_append, Prod.mk.injEq, true_and, and_true]
  omega
theorem mloop_put : ∀ (ms : List ME) (x y : List Int) (acc : List ME), (mall ms).2 = 0 → (∀ m ∈ ms, isI m.f7) → mloop (x ++ (mall ms).1 ++ y) ms.length x.length acc = (acc ++ ms, ((x ++ (mall ms).1).length : Int), 0) := by
  intro ms
  induction ms with
  | nil => intro x y acc _ _; simp [mall, mloop]
  | cons m r ih =>
    intro x y acc h hI
    obtain ⟨h0, h1, h2, h3⟩ := mall_cons h
    have e : x ++ (mall (m :: r)).1 ++ y = x ++ ((mb m).1 ++ (cb m).1) ++ ((mall r).1 ++ y) := by rw [h3]; simp only [List.append_assoc]
    have e2 : x ++ (mall (m :: r)).1 ++ y = (x ++ ((mb m).1 ++ (cb m).1)) ++ (mall r).1 ++ y := by rw [h3]; simp only [List.append_assoc]
    have ho := mone_put x ((mall r).1 ++ y) h0 h1 (hI m (by simp))
    rw [← e] at ho
    have hl := ih (x ++ ((mb m).1 ++ (cb m).1)) y (acc ++ [m]) h2 (fun q hq => hI q (by simp [hq]))
    rw [← e2] at hl
    rw [List.length_cons, mloop, ho]
    dsimp only
    rw [if_pos rfl]
    have em : mof (m.f0, m.f1, m.f2, m.f3, m.f4, m.f5, m.f6, m.f7, ((x ++ ((mb m).1 ++ (cb m).1)).length : Int), 0) = m := rfl
    rw [em, hl, h3]
    simp only [List.append_assoc, List.singleton_append]
theorem mall_isB : ∀ ms : List ME, (∀ x ∈ ms, isB x.f0 ∧ isB x.f1 ∧ isI x.f7) → isB (mall ms).1 := by
  intro ms
  induction ms with
  | nil => intro _; exact isB_nil
  | cons x r ih =>
    intro h
    obtain ⟨h0, h1, h7⟩ := h x (by simp)
    have a1 : isB (mb x).1 := mbytes_isB h0 h1
    have a2 : isB (cb x).1 := by
      unfold cb
      by_cases c : cmay x.f7 = true
      · rw [if_pos c]
        have hl := (cmay_inv c).1
        exact isB_cons.2 ⟨by omega, flat_isB h7⟩
      · rw [if_neg c]; exact isB_nil
    have a3 := ih fun y hy => h y (by simp [hy])
    rw [mall]
    split
    · split
      · split
        · exact isB_append.2 ⟨isB_append.2 ⟨a1, a2⟩, a3⟩
        · exact isB_nil
      · exact isB_nil
    · exact isB_nil
structure Has (l0 l1 : List VA) (ms : List ME) (a : Int) : Prop where
  g4 : l0.length ≤ 4
  m16 : ms.length ≤ 16
  a0 : -1 ≤ a
  a1 : a < (ms.length : Int)
  p0 : pmay l0 = true
  p1 : pmay l1 = true
  ma : (mall ms).2 = 0
def body (l0 l1 : List VA) (ms : List ME) : List Int := (pbytes l0).1 ++ (pbytes l1).1 ++ [(ms.length : Int)] ++ (mall ms).1
theorem pmay_of {l : List VA} (h : (pbytes l).2 = 0) : pmay l = true := by
  unfold pbytes at h
  by_cases c : pmay l = true
  · exact c
  · rw [if_neg c] at h; exact absurd h (by decide)
theorem of_pmay {l : List VA} (h : pmay l = true) : (pbytes l).2 = 0 := by unfold pbytes; rw [if_pos h]
theorem m8_has {l0 l1 : List VA} {ms : List ME} {a : Int} (h : (m8 l0 l1 ms a).2 = 0) : Has l0 l1 ms a ∧ m8 l0 l1 ms a = (body l0 l1 ms ++ [mgb a], 0) ∧ (body l0 l1 ms ++ [mgb a]).length ≤ 2000 := by
  unfold m8 at h ⊢
  by_cases c : (m8raw l0 l1 ms a).2 = 0
  · rw [if_pos c] at h ⊢
    by_cases d : (m8raw l0 l1 ms a).1.length > 2000
    · rw [if_pos d] at h; exact absurd h (by decide)
    · rw [if_neg d]
      clear h
      unfold m8raw at c d ⊢
      by_cases c0 : l0.length > 4 ∨ ms.length > 16 ∨ a < -1 ∨ a ≥ (ms.length : Int)
      · rw [if_pos c0] at c; exact absurd c (by decide)
      · rw [if_neg c0] at c d ⊢
        by_cases c1 : (pbytes l0).2 = 0
        · rw [if_pos c1] at c d ⊢
          by_cases c2 : (pbytes l1).2 = 0
          · rw [if_pos c2] at c d ⊢
            by_cases c3 : (mall ms).2 = 0
            · rw [if_pos c3] at c d ⊢
              have d' : ¬ (body l0 l1 ms ++ [mgb a]).length > 2000 := d
              exact ⟨⟨by omega, by omega, by omega, by omega, pmay_of c1, pmay_of c2, c3⟩, rfl, by omega⟩
            · rw [if_neg c3] at c; exact absurd c c3
          · rw [if_neg c2] at c; exact absurd c c2
        · rw [if_neg c1] at c; exact absurd c c1
  · rw [if_neg c] at h; exact absurd h c
theorem m8_of {l0 l1 : List VA} {ms : List ME} {a : Int} (h : Has l0 l1 ms a) (hl : (body l0 l1 ms ++ [mgb a]).length ≤ 2000) : m8 l0 l1 ms a = (body l0 l1 ms ++ [mgb a], 0) := by
  obtain ⟨h1, h2, h3, h4, h5, h6, h7⟩ := h
  have e : m8raw l0 l1 ms a = (body l0 l1 ms ++ [mgb a], 0) := by
    unfold m8raw
    rw [if_neg (by omega), if_pos (of_pmay h5), if_pos (of_pmay h6), if_pos h7]; rfl
  unfold m8
  rw [e, if_pos rfl, if_neg (show ¬ (body l0 l1 ms ++ [mgb a]).length > 2000 by omega)]
theorem mparse_body {l0 l1 : List VA} {ms : List ME} {a : Int} (h : Has l0 l1 ms a) (v0 : ∀ v ∈ l0, vok v) (v1 : ∀ v ∈ l1, vok v) (wf : ∀ x ∈ ms, isB x.f0 ∧ isB x.f1 ∧ isI x.f7) (z : List Int) (hz : isB z) (hl : (body l0 l1 ms ++ z).length ≤ 2000) :
    mparse (body l0 l1 ms ++ z) = mp4 (body l0 l1 ms ++ z) l0 l1 ms (ms.length : Int) ((body l0 l1 ms).length : Int) := by
  have b0 := pbytes_isB l0
  have b1 := pbytes_isB l1
  have bm := mall_isB ms wf
  have hn : (0 : Int) ≤ (ms.length : Int) ∧ (ms.length : Int) ≤ 255 := by have := h.m16; omega
  have bn : isB [(ms.length : Int)] := isB_cons.2 ⟨hn, isB_nil⟩
  have q0 := poolread_put h.p0 v0 [] ((pbytes l1).1 ++ ([(ms.length : Int)] ++ ((mall ms).1 ++ z))) isB_nil (isB_append.2 ⟨b1, isB_append.2 ⟨bn, isB_append.2 ⟨bm, hz⟩⟩⟩)
  have q1 := poolread_put h.p1 v1 (pbytes l0).1 ([(ms.length : Int)] ++ ((mall ms).1 ++ z)) b0 (isB_append.2 ⟨bn, isB_append.2 ⟨bm, hz⟩⟩)
  have q2 := get_byte ((pbytes l0).1 ++ (pbytes l1).1) ((mall ms).1 ++ z) (ms.length : Int) hn
  have q3 := mloop_put ms ((pbytes l0).1 ++ (pbytes l1).1 ++ [(ms.length : Int)]) z [] h.ma (fun m hm => (wf m hm).2.2)
  have e0 : [] ++ (pbytes l0).1 ++ ((pbytes l1).1 ++ ([(ms.length : Int)] ++ ((mall ms).1 ++ z))) = body l0 l1 ms ++ z := by unfold body; simp only [List.nil_append, List.append_assoc]
  have e1 : (pbytes l0).1 ++ (pbytes l1).1 ++ ([(ms.length : Int)] ++ ((mall ms).1 ++ z)) = body l0 l1 ms ++ z := by unfold body; simp only [List.append_assoc]
  have e2 : (pbytes l0).1 ++ (pbytes l1).1 ++ (ms.length : Int) :: ((mall ms).1 ++ z) = body l0 l1 ms ++ z := by unfold body; simp only [List.append_assoc, List.cons_append, List.nil_append]
  have e3 : (pbytes l0).1 ++ (pbytes l1).1 ++ [(ms.length : Int)] ++ (mall ms).1 ++ z = body l0 l1 ms ++ z := rfl
  rw [e0] at q0
  rw [e1] at q1
  rw [e2] at q2
  rw [e3] at q3
  rw [show (([] : List Int).length : Int) = 0 from rfl, Int.zero_add] at q0
  unfold mparse
  rw [if_neg (by omega), q0]
  dsimp only
  rw [if_pos rfl, if_pos (by have := h.g4; omega), mp1, q1]
  dsimp only
  rw [if_pos rfl, mp2, show ((pbytes l0).1.length : Int) + ((pbytes l1).1.length : Int) = (((pbytes l0).1 ++ (pbytes l1).1).length : Int) by rw [List.length_append]; omega, q2]
  dsimp only
  rw [if_pos rfl, if_pos (by have := h.m16; omega), mp3, Int.toNat_natCast, show (((pbytes l0).1 ++ (pbytes l1).1).length : Int) + 1 = (((pbytes l0).1 ++ (pbytes l1).1 ++ [(ms.length : Int)]).length : Int) by simp only [List.length_append, List.length_singleton]; omega, q3]
  dsimp only
  rw [if_pos rfl, List.nil_append]
  rfl
theorem mgb_byte {a : Int} : 0 ≤ mgb a ∧ mgb a ≤ 255 := by unfold mgb; split <;> omega
theorem mparse_put {l0 l1 : List VA} {ms : List ME} {a : Int} (h : Has l0 l1 ms a) (v0 : ∀ v ∈ l0, vok v) (v1 : ∀ v ∈ l1, vok v) (wf : ∀ x ∈ ms, isB x.f0 ∧ isB x.f1 ∧ isI x.f7) (hl : (body l0 l1 ms ++ [mgb a]).length ≤ 2000) : mparse (body l0 l1 ms ++ [mgb a]) = (l0, l1, ms, a, 0) := by
  rw [mparse_body h v0 v1 wf [mgb a] (isB_cons.2 ⟨mgb_byte, isB_nil⟩) hl, mp4, get_byte _ [] _ mgb_byte]
  dsimp only
  have a0 := h.a0
  have a1 := h.a1
  have m := h.m16
  rw [if_pos rfl]
  have e : (((body l0 l1 ms).length : Int) + 1 = ((body l0 l1 ms ++ [mgb a]).length : Int)) := by rw [List.length_append, List.length_singleton]; omega
  by_cases c : a ≥ 0
  · have hm : mgb a = a := by unfold mgb; rw [if_pos c]; omega
    rw [if_pos ⟨.inl (by rw [hm]; exact a1), e⟩, if_neg (by omega), hm]
  · have hm : mgb a = 255 := by unfold mgb; rw [if_neg c]
    rw [if_pos ⟨.inr hm, e⟩, if_pos hm, show a = -1 by omega]
theorem mparse_more {l0 l1 : List VA} {ms : List ME} {a : Int} (h : Has l0 l1 ms a) (v0 : ∀ v ∈ l0, vok v) (v1 : ∀ v ∈ l1, vok v) (wf : ∀ x ∈ ms, isB x.f0 ∧ isB x.f1 ∧ isI x.f7) (x : Int) (hx : 0 ≤ x ∧ x ≤ 255) : (mparse (body l0 l1 ms ++ [mgb a] ++ [x])).2.2.2.2 ≠ 0 := by
  by_cases hl : (body l0 l1 ms ++ [mgb a] ++ [x]).length ≤ 2000
  · have e : body l0 l1 ms ++ [mgb a] ++ [x] = body l0 l1 ms ++ mgb a :: [x] := by simp
    rw [e] at hl ⊢
    rw [mparse_body h v0 v1 wf (mgb a :: [x]) (isB_cons.2 ⟨mgb_byte, isB_cons.2 ⟨hx, isB_nil⟩⟩) hl, mp4, get_byte _ [x] _ mgb_byte]
    dsimp only
    rw [if_pos rfl, if_neg (fun c => by have := c.2; simp only [List.length_append, List.length_cons, List.length_nil] at this; omega)]
    decide
  · unfold mparse
    rw [if_pos (by omega)]
    decide
theorem mparse_less {l0 l1 : List VA} {ms : List ME} {a : Int} (h : Has l0 l1 ms a) (v0 : ∀ v ∈ l0, vok v) (v1 : ∀ v ∈ l1, vok v) (wf : ∀ x ∈ ms, isB x.f0 ∧ isB x.f1 ∧ isI x.f7) (hl : (body l0 l1 ms ++ [mgb a]).length ≤ 2000) : mparse (body l0 l1 ms) = mpbad 10 := by
  have := mparse_body h v0 v1 wf [] isB_nil (by rw [List.length_append] at hl ⊢; simp at hl ⊢; omega)
  rw [List.append_nil] at this
  rw [this, mp4, get_short (by decide) (by omega) (by omega)]
  rfl
theorem mone_back {l : List Int} (hb : isB l) {a : Int} (h : (mone l a).2.2.2.2.2.2.2.2.2 = 0) : ∃ m : ME, mof (mone l a) = m ∧ (mb m).2 = 0 ∧ (cb m).2 = 0 ∧ isI m.f7 ∧ isB m.f0 ∧ isB m.f1 ∧ 0 ≤ a ∧ a ≤ (mone l a).2.2.2.2.2.2.2.2.1 ∧ (mone l a).2.2.2.2.2.2.2.2.1 ≤ (l.length : Int) ∧ (mb m).1 ++ (cb m).1 = piece l a ((mone l a).2.2.2.2.2.2.2.2.1 - a) := by
  unfold mone at h ⊢
  by_cases c : (mread l a).2.2.2.2.2.2.2.2.2 = 0
  · rw [if_pos c] at h ⊢
    obtain ⟨A, L, r, q, fu, sk, hp, e, hm, ha, hl, hp1⟩ := mread_inv hb c
    rw [e] at h ⊢
    dsimp only at h ⊢
    obtain ⟨t, e2, ht, hI, ha2, hl2, hp2⟩ := cparse_inv hb h
    rw [e2]
    dsimp only
    have eb : mb (⟨A, L, r, q, fu, sk, hp, t⟩ : ME) = (mhead A L r q fu sk hp, 0) := by unfold mb mbytes; rw [if_pos hm]
    have ec : cb (⟨A, L, r, q, fu, sk, hp, t⟩ : ME) = (cbytes t, 0) := by unfold cb; rw [if_pos ht]
    have hall : isB (mhead A L r q fu sk hp) := by rw [← hp1]; exact piece_isB _ _ hb
    rw [mhead_eq] at hall
    have h1 := (isB_append.1 hall)
    refine ⟨⟨A, L, r, q, fu, sk, hp, t⟩, rfl, by rw [eb], by rw [ec], hI, (isB_cons.1 h1.1).2, (isB_cons.1 (isB_append.1 h1.2).1).2, ha, by omega, by omega, ?_⟩
    rw [eb, ec]
    dsimp only
    rw [show a + ((mhead A L r q fu sk hp).length : Int) + ((cbytes t).length : Int) - a = ((mhead A L r q fu sk hp).length : Int) + ((cbytes t).length : Int) by omega, cpiece_add ha (by omega) (by omega), hp1, hp2]
  · rw [if_neg c] at h; exact absurd h c
theorem mloop_back {l : List Int} (hb : isB l) : ∀ (d : Nat) (a : Int) (acc : List ME), 0 ≤ a → a ≤ (l.length : Int) → (mloop l d a acc).2.2 = 0 → ∃ (t : List ME) (z : Int), mloop l d a acc = (acc ++ t, z, 0) ∧ t.length = d ∧ (mall t).2 = 0 ∧ (∀ x ∈ t, isB x.f0 ∧ isB x.f1 ∧ isI x.f7) ∧ a ≤ z ∧ z ≤ (l.length : Int) ∧ (mall t).1 = piece l a (z - a) := by
  intro d
  induction d with
  | zero =>
    intro a acc h0 hl _
    refine ⟨[], a, by rw [mloop, List.append_nil], rfl, rfl, fun x hx => by simp at hx, by omega, hl, ?_⟩
    rw [Int.sub_self]
    rfl
  | succ d ih =>
    intro a acc h0 hl h
    rw [mloop] at h ⊢
    by_cases c : (mone l a).2.2.2.2.2.2.2.2.2 = 0
    · rw [if_pos c] at h ⊢
      obtain ⟨m, em, b1, b2, hI, i0, i1, ha, h1, h2, hp⟩ := mone_back hb c
      rw [em] at h ⊢
      obtain ⟨t, z, e, htl, htm, htw, hz1, hz2, hz3⟩ := ih _ (acc ++ [m]) (by omega) h2 h
      refine ⟨m :: t, z, by rw [e]; simp, by rw [List.length_cons, htl], ?_, ?_, by omega, hz2, ?_⟩
      · rw [mall, if_pos b1, if_pos b2, if_pos htm]
      · intro x hx
        rcases List.mem_cons.1 hx with rfl | hx
        · exact ⟨i0, i1, hI⟩
        · exact htw x hx
      · rw [mall, if_pos b1, if_pos b2, if_pos htm]
        dsimp only
        rw [hp, hz3, show z - a = ((mone l a).2.2.2.2.2.2.2.2.1 - a) + (z - (mone l a).2.2.2.2.2.2.2.2.1) by omega, cpiece_add ha (by omega) (by omega)]
        congr 2
        omega
    · rw [if_neg c] at h; exact absurd h c
theorem mparse_bad {l : List Int} (h : (mparse l).2.2.2.2 ≠ 0) : mparse l = mpbad (mparse l).2.2.2.2 := by
  have b : ∀ e, mpbad e = mpbad (mpbad e).2.2.2.2 := fun e => rfl
  unfold mparse mp1 mp2 mp3 mp4 at h ⊢
  split
  · rfl
  split
  · split
    · split
      · split
        · split
          · split
            · split
              · split
                · rename_i c1 c2 c3 c4 c5 c6 c7 c8 c9
                  rw [if_neg c1, if_pos c2, if_pos c3, if_pos c4, if_pos c5, if_pos c6, if_pos c7, if_pos c8, if_pos c9] at h
                  exact absurd rfl h
                · rfl
              · rfl
            · rfl
          · rfl
        · rfl
      · rfl
    · rfl
  · rfl
theorem mparse_back {l : List Int} (hb : isB l) (h : (mparse l).2.2.2.2 = 0) : ∃ G P M a, mparse l = (G, P, M, a, 0) ∧ Has G P M a ∧ (∀ x ∈ M, isB x.f0 ∧ isB x.f1 ∧ isI x.f7) ∧ body G P M ++ [mgb a] = l ∧ l.length ≤ 2000 := by
  unfold mparse at h ⊢
  by_cases c : (l.length : Int) > 2000
  · rw [if_pos c] at h; exact absurd h (by decide)
  rw [if_neg c] at h ⊢
  rcases poolread_back hb 0 with ⟨q, _⟩ | ⟨q0, q1, _, q3, q4, q5⟩
  · rw [if_neg q] at h; exact absurd h q
  rw [if_pos q0] at h ⊢
  by_cases c1 : ((poolread l 0).1.length : Int) ≤ 4
  rotate_left
  · rw [if_neg c1] at h; exact absurd h (by decide)
  rw [if_pos c1] at h ⊢
  generalize (poolread l 0).1 = G at *
  generalize (poolread l 0).2.1 = a1 at *
  unfold mp1 at h ⊢
  rcases poolread_back hb a1 with ⟨r, _⟩ | ⟨r0, r1, _, r3, r4, r5⟩
  · rw [if_neg r] at h; exact absurd h r
  rw [if_pos r0] at h ⊢
  generalize (poolread l a1).1 = P at *
  generalize (poolread l a1).2.1 = a2 at *
  unfold mp2 at h ⊢
  by_cases c2 : (get l a2 1).2.2 = 0
  rotate_left
  · rw [if_neg c2] at h; exact absurd h c2
  rw [if_pos c2] at h ⊢
  obtain ⟨⟨_, _, _, g2⟩, g3, _⟩ := got_ok c2
  have g1 := get_one hb (show 0 ≤ a2 by omega) (show a2 < (l.length : Int) by omega)
  rw [g1] at h ⊢
  dsimp only at h ⊢
  have hq := isB_rd hb a2
  by_cases c3 : rd l a2 ≤ 16
  rotate_left
  · rw [if_neg c3] at h; exact absurd h (by decide)
  rw [if_pos c3] at h ⊢
  unfold mp3 at h ⊢
  by_cases c4 : (mloop l (rd l a2).toNat (a2 + 1) []).2.2 = 0
  rotate_left
  · rw [if_neg c4] at h; exact absurd h c4
  rw [if_pos c4] at h ⊢
  obtain ⟨M, a3, e, hM, hma, hw, z1, z2, z3⟩ := mloop_back hb _ _ [] (by omega) (by omega) c4
  rw [e, List.nil_append] at h ⊢
  dsimp only at h ⊢
  unfold mp4 at h ⊢
  by_cases c5 : (get l a3 1).2.2 = 0
  rotate_left
  · rw [if_neg c5] at h; exact absurd h c5
  rw [if_pos c5] at h ⊢
  obtain ⟨⟨_, _, _, k2⟩, _, _⟩ := got_ok c5
  have k1 := get_one hb (show 0 ≤ a3 by omega) (show a3 < (l.length : Int) by omega)
  rw [k1] at h ⊢
  dsimp only at h ⊢
  have hr := isB_rd hb a3
  by_cases c6 : (rd l a3 < rd l a2 ∨ rd l a3 = 255) ∧ a3 + 1 = (l.length : Int)
  rotate_left
  · rw [if_neg c6] at h; exact absurd h (by decide)
  rw [if_pos c6]
  have hlen : (M.length : Int) = rd l a2 := by omega
  have hmg : mgb (if rd l a3 = 255 then -1 else rd l a3) = rd l a3 := by
    by_cases d : rd l a3 = 255
    · rw [if_pos d, d]; rfl
    · rw [if_neg d]; unfold mgb; rw [if_pos (by omega)]; omega
  refine ⟨G, P, M, _, rfl, ⟨by omega, by omega, by split <;> omega, by split <;> omega, q1, r1, hma⟩, hw, ?_, by omega⟩
  have j : ∀ m n : Int, 0 ≤ m → m ≤ n → piece l 0 m ++ piece l m (n - m) = piece l 0 n := fun m n h0 h1 => by
    have := cpiece_add (l := l) (a := 0) (m := m) (n := n - m) (by omega) h0 (by omega)
    rw [show m + (n - m) = n by omega, Int.zero_add] at this
    exact this.symm
  have p2 := piece_one (l := l) (show 0 ≤ a2 by omega) (show a2 < (l.length : Int) by omega)
  have p3 := piece_one (l := l) (show 0 ≤ a3 by omega) (show a3 < (l.length : Int) by omega)
  have hend : piece l 0 (l.length : Int) = l := by unfold piece; simp
  unfold body
  rw [hmg, hlen, q5, r5, z3, ← p2, ← p3]
  dsimp only
  rw [Int.sub_zero, j a1 a2 (by omega) (by omega), show piece l a2 1 = piece l a2 ((a2 + 1) - a2) by congr 1; omega, j a2 (a2 + 1) (by omega) (by omega), j (a2 + 1) a3 (by omega) (by omega), show piece l a3 1 = piece l a3 ((a3 + 1) - a3) by congr 1; omega, j a3 (a3 + 1) (by omega) (by omega), c6.2]
  exact hend
end Go.Proofs.YthmjblmdbcmjcaaDoor.M.MC
namespace Go.Proofs.YthmjblmdbcmjcaaDoor.M.MC
open Go.RowKit Go.Proofs.YthmjblmdbcmjcaaDoor.B Go.Proofs.YthmjblmdbcmjcaaDoorW.PrintWords Go.Proofs.YthmjblmdbcmjcaaDoorW.PrintLast Go.Proofs.YthmjblmdbcmjcaaDoorW.PrintMore
theorem told8_f {l : List Int} (hb : isB l) (hl : l.length ≤ 10000) (e : Int) (h : mparse l = mpbad e) (k : Nat) (hk : 5000 ≤ k) : capstanlaw08_told.f k e l = some true := by
  unfold capstanlaw08_told.f
  rw [mparse_f hb hl k (by omega), Option.bind_some, h]
  unfold mpbad
  dsimp only
  rw [if_pos rfl, rsame8_f ⟨by simp, fun x hx => by simp at hx⟩ [] [] 0 [] [] [] 0 (by simp) (by simp) k (by omega), Option.bind_some, same8_self]
theorem okm_of_has {G P : List VA} {M : List ME} {a : Int} (h : Has G P M a) (hw : ∀ x ∈ M, isB x.f0 ∧ isB x.f1 ∧ isI x.f7) : OkM M := by
  refine ⟨by have := h.m16; omega, fun x hx => ?_⟩
  have hall : ∀ ms : List ME, (mall ms).2 = 0 → ∀ x ∈ ms, (mb x).2 = 0 ∧ (cb x).2 = 0 := by
    intro ms
    induction ms with
    | nil => intro _ x hx; simp at hx
    | cons y r ih =>
      intro h x hx
      obtain ⟨h0, h1, h2, _⟩ := mall_cons h
      rcases List.mem_cons.1 hx with rfl | hx
      · exact ⟨h0, h1⟩
      · exact ih h2 x hx
  obtain ⟨h0, h1⟩ := hall M h.ma x hx
  have m := (mmay_iff.1 (mb_ok h0).1).1
  have c := (cmay_inv (cb_ok h1).1).1
  exact ⟨by omega, by omega, by omega, (hw x hx).2.2⟩
theorem back_j2 {l : List Int} (hb : isB l) (hl : l.length ≤ 3000) (k : Nat) (hk : 6000 ≤ k) : capstanlaw08_ModuleBack.j2 k l = some true := by
  obtain ⟨k, rfl⟩ : ∃ n, k = n + 1 := ⟨k - 1, by omega⟩
  rw [capstanlaw08_ModuleBack.j2, mparse_f hb (by omega) k (by omega), Option.bind_some]
  by_cases h : (mparse l).2.2.2.2 = 0
  · obtain ⟨G, P, M, a, e, hh, hw, hbd, hlen⟩ := mparse_back hb h
    rw [e]
    dsimp only
    rw [if_pos rfl, bytes_f (okm_of_has hh hw) a k (by omega), Option.bind_some, m8_of hh (by rw [hbd]; exact hlen), hbd]
    dsimp only
    rw [if_pos rfl]
    simp
  · rw [if_neg h, mparse_bad h]
    unfold mpbad
    dsimp only
    rw [rsame8_f ⟨by simp, fun x hx => by simp at hx⟩ [] [] 0 [] [] [] 0 (by simp) (by simp) k (by omega), Option.bind_some, same8_self]
theorem m8_le (l0 l1 : List VA) (ms : List ME) (a : Int) : (m8 l0 l1 ms a).1.length ≤ 2000 ∧ ((m8 l0 l1 ms a).2 ≠ 0 → (m8 l0 l1 ms a).1 = []) := by
  unfold m8
  split
  · split
    · exact ⟨by simp, fun _ => rfl⟩
    · rename_i h _
      exact ⟨by omega, fun c => absurd h c⟩
  · exact ⟨by simp, fun _ => rfl⟩
end Go.Proofs.YthmjblmdbcmjcaaDoor.M.MC
namespace Go.Proofs.YthmjblmdbcmjcaaDoor.Pure
open Go.RowKit Go.Proofs.YthmjblmdbcmjcaaDoor.B Go.Proofs.YthmjblmdbcmjcaaDoor.M Go.Proofs.YthmjblmdbcmjcaaDoor.M.MC Go.Proofs.YthmjblmdbcmjcaaDoorW.PrintWords Go.Proofs.YthmjblmdbcmjcaaDoorW.PrintLast Go.Proofs.YthmjblmdbcmjcaaDoorW.PrintMore
theorem ModuleBack : capstanlaw08_ModuleBack.Pure := by
  intro l0 l1 ms a b x g0 _ _ hbw hx
  obtain ⟨⟨_, w0⟩, ⟨_, w1⟩, ⟨_, w2⟩, _⟩ := g0
  have hup : ∀ {r : Bool}, capstanlaw08_Great.f 60 l0 l1 ms a = some r → capstanlaw08_Great.f 20001 l0 l1 ms a = some r := fun h => up (f := fun k => capstanlaw08_Great.f k l0 l1 ms a) (fun k => capstanlaw08_Great.mono _ _ _ _ k) h 20001 (by omega)
  have hj : capstanlaw08_ModuleBack.j0 20001 b x true l0 l1 ms a = some true := by rw [capstanlaw08_ModuleBack.j0, if_pos rfl]
  have hb : isB b := isB_of hbw
  have hx1 := wf_u8 hx
  refine ⟨20001, ?_⟩
  unfold capstanlaw08_ModuleBack.f
  rw [awake8_f _ (by omega), Option.bind_some, if_pos rfl]
  rcases great_f (l0 := l0) (l1 := l1) (ms := ms) (a3 := a) with hg | ⟨hg, hs, hv0, hv1, h300⟩
  · rw [hup hg, Option.bind_some, if_pos rfl, hj]
  rw [hup hg, Option.bind_some, if_neg (by decide)]
  by_cases hl : (b.length : Int) > 3000
  · rw [decide_eq_true hl, hj]
  rw [decide_eq_false hl, capstanlaw08_ModuleBack.j0, if_neg (by decide)]
  have wf : ∀ y ∈ ms, isB y.f0 ∧ isB y.f1 ∧ isI y.f7 := fun y hy => ⟨isB_of (w2 y hy).1.2, isB_of (w2 y hy).2.1.2, fun z hz => wf_u8 ((w2 y hy).2.2.2.2.2.2.2.2 z hz).1⟩
  have ok : OkM ms := okm hg hs h300 fun y hy => (wf y hy).2.2
  have v0 : ∀ v ∈ l0, vok v := fun v hv => wf_i64 (w0 v hv).2.1
  have v1 : ∀ v ∈ l1, vok v := fun v hv => wf_i64 (w1 v hv).2.1
  obtain ⟨hle, hnil⟩ := m8_le l0 l1 ms a
  rw [bytes_f ok a _ (by omega), Option.bind_some, may8_f ok a _ (by omega), Option.bind_some, if_pos rfl]
  have hd : decide (((m8 l0 l1 ms a).1.length : Int) > 2000) = false := decide_eq_false (by omega)
  by_cases h0 : (m8 l0 l1 ms a).2 = 0
  · rw [if_pos h0, hd, capstanlaw08_ModuleBack.j1, if_neg (by decide), if_pos h0]
    obtain ⟨hh, e, hl2⟩ := m8_has h0
    have hB : isB (body l0 l1 ms ++ [mgb a]) := by have := m8_isB (l0 := l0) (l1 := l1) (a := a) wf; rw [e] at this; exact this
    have hB2 : isB (body l0 l1 ms ++ [mgb a] ++ [x]) := isB_append.2 ⟨hB, isB_cons.2 ⟨hx1, isB_nil⟩⟩
    rw [e]
    dsimp only
    rw [mparse_f hB (by omega) _ (by omega), Option.bind_some, mparse_put hh v0 v1 wf hl2, Option.bind_some, List.nil_append, if_pos (by simp only [List.length_nil]; omega), Option.bind_some, if_pos (by omega), mparse_f hB2 (by simp only [List.length_append, List.length_singleton] at hl2 ⊢; omega) _ (by omega), Option.bind_some]
    dsimp only
    rw [if_pos rfl, same8_f ok _ _ _ _ _ _ _ (by omega) (by omega) _ (by omega), Option.bind_some, same8_self, if_pos rfl, if_neg (mparse_more hh v0 v1 wf x hx1), if_neg (by simp only [List.length_append, List.length_singleton]; omega)]
    have hq : wrap64 (((body l0 l1 ms ++ [mgb a]).length : Int) - 1) = ((body l0 l1 ms).length : Int) := by rw [List.length_append, List.length_singleton]; rw [List.length_append, List.length_singleton] at hl2; unfold wrap64; omega
    rw [hq, if_pos (by omega), if_pos (by rw [List.length_append]; omega), Int.toNat_natCast, List.take_left, told8_f (isB_append.1 hB).1 (by rw [List.length_append] at hl2; omega) 10 (mparse_less hh v0 v1 wf hl2) _ (by omega), Option.bind_some, if_pos rfl]
    exact back_j2 hb (by omega) _ (by omega)
  · rw [if_neg h0, hd, hnil h0, if_neg (by simp), capstanlaw08_ModuleBack.j1, if_neg (by decide), if_neg h0]
    exact back_j2 hb (by omega) _ (by omega)
end Go.Proofs.YthmjblmdbcmjcaaDoor.Pure
