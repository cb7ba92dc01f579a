/- Layer 8 in plain terms: a module's bytes, by the program and by the reference. Layer 8 in plain terms: the reference's bytes are the program's; whether two modules are the same, by both. Layer 8 in plain terms: what the guard lets in. ModuleTells: what is wrong with any module, its bytes, whether another one is the same, is what the chapter says; it stays. -/
import Derived.Test.YthmjblmdbcmjcaaDoorP4
import Derived.Test.YthmjblmdbcmjcaaDoorP5
import Derived.Test.YthmjblmdbcmjcaaDoorP6
import Derived.Test.YthmjblmdbcmjcaaDoorP13
import Derived.Test.YthmjblmdbcmjcaaDoorP21
import Derived.Test.YthmjblmdbcmjcaaDoorP22
import Derived.Test.YthmjblmdbcmjcaaDoorP24
import Derived.Test.YthmjblmdbcmjcaaDoorP25
import Derived.Test.YthmjblmdbcmjcaaDoorLA
import Derived.Test.YthmjblmdbcmjcaaDoorLC
namespace Go.Proofs.YthmjblmdbcmjcaaDoor.M.MC
open Go.RowKit Go.Proofs.YthmjblmdbcmjcaaDoor.P Go.Proofs.YthmjblmdbcmjcaaDoorW.PrintWords Go.Proofs.YthmjblmdbcmjcaaDoorW.PrintLast Go.Proofs.YthmjblmdbcmjcaaDoorW.PrintMore

abbrev ME : Type := S47
abbrev VA : Type := S73
instance decV : DecidableEq S73 := fun u v => decidable_of_iff (u.f0 = v.f0 ∧ u.f1 = v.f1 ∧ u.f2 = v.f2) ⟨fun h => by cases u; cases v; obtain ⟨h0, h1, h2⟩ := h; cases h0; cases h1; cases h2; rfl, fun h => by cases h; exact ⟨rfl, rfl, rfl⟩⟩
def mb (x : ME) : List Int × Int := mbytes x.f0 x.f1 x.f2 x.f3 x.f4 x.f5 x.f6
def cb (x : ME) : List Int × Int := if cmay x.f7 = true then (cbytes x.f7, 0) else ([], 40)
/-- The methods' bytes. -/
def mall : List ME → List Int × Int
  | [] => ([], 0)
  | x :: r => if (mb x).2 = 0 then (if (cb x).2 = 0 then (if (mall r).2 = 0 then ((mb x).1 ++ (cb x).1 ++ (mall r).1, 0) else ([], (mall r).2)) else ([], (cb x).2)) else ([], (mb x).2)
/-- Methods that aren't too great. -/
structure OkM (ms : List ME) : Prop where
  len : ms.length ≤ 40
  one : ∀ x ∈ ms, x.f0.length ≤ 100 ∧ x.f1.length ≤ 100 ∧ x.f7.length ≤ 300 ∧ isI x.f7
theorem rdm_at {l : List ME} {i : Nat} (h : i < l.length) : rd_T47 l (i : Int) = l[i] := by simp [rd_T47, List.getD, List.getElem?_eq_getElem h]
theorem mb_len (x : ME) : (mb x).1.length ≤ 30 := by
  unfold mb mbytes
  by_cases h : mmay x.f0 x.f1 x.f2 x.f4 x.f5 x.f6 = true
  · rw [if_pos h]
    have h2 := (mmay_iff.1 h).1
    simp [mhead, leb_length]
    omega
  · rw [if_neg h]; simp
theorem cb_len (x : ME) : (cb x).1.length ≤ 601 := by
  unfold cb
  by_cases h : cmay x.f7 = true
  · rw [if_pos h]
    have h1 := (cmay_inv h).1
    have h2 := flat_length x.f7
    simp only [cbytes, List.length_cons]
    omega
  · rw [if_neg h]; simp
/-- The byte of the method that migrates. -/
def mgb (a : Int) : Int := if a ≥ 0 then a % 256 else 255
def m8raw (l0 l1 : List VA) (ms : List ME) (a : Int) : List Int × Int :=
  if l0.length > 4 ∨ ms.length > 16 ∨ a < -1 ∨ a ≥ (ms.length : Int) then ([], 80) else
    if (pbytes l0).2 = 0 then (if (pbytes l1).2 = 0 then (if (mall ms).2 = 0 then ((pbytes l0).1 ++ (pbytes l1).1 ++ [(ms.length : Int)] ++ (mall ms).1 ++ [mgb a], 0) else ([], (mall ms).2)) else ([], (pbytes l1).2)) else ([], (pbytes l0).2)
def m8 (l0 l1 : List VA) (ms : List ME) (a : Int) : List Int × Int :=
  if (m8raw l0 l1 ms a).2 = 0 then (if (m8raw l0 l1 ms a).1.length > 2000 then ([], 3) else (m8raw l0 l1 ms a)) else ([], (m8raw l0 l1 ms a).2)
theorem whole_l0 {ms : List ME} (ok : OkM ms) (L0 L1 : List VA) (M : List ME) (a : Int) (d : Nat) : ∀ (k i : Nat) (acc : List Int), i + d = ms.length → acc.length ≤ 1000 + 640 * i → d + 3000 ≤ k →
    module_whole.l0 k acc ms ms.length i L0 L1 M a = some (if (mall (ms.drop i)).2 = 0 then (acc ++ (mall (ms.drop i)).1 ++ [mgb a], 0) else ([], (mall (ms.drop i)).2)) := by
  have hlen := ok.len
  induction d with
  | zero =>
    intro k i acc hi ha hk
    obtain ⟨k, rfl⟩ : ∃ n, k = n + 1 := ⟨k - 1, by omega⟩
    rw [module_whole.l0, if_neg (by omega), List.drop_eq_nil_of_le (by omega), mall, if_pos rfl, List.append_nil]
    unfold mgb
    by_cases h : a ≥ 0
    · rw [if_pos h, if_pos h, Option.bind_some, if_pos (by simp; omega)]
    · rw [if_neg h, if_neg h, Option.bind_some, if_pos (by simp; omega)]
  | succ d ih =>
    intro k i acc hi ha hk
    obtain ⟨k, rfl⟩ : ∃ n, k = n + 1 := ⟨k - 1, by omega⟩
    obtain ⟨h0, h1, h7, hI⟩ := ok.one ms[i] (List.getElem_mem _)
    have l1 := mb_len ms[i]
    have l2 := cb_len ms[i]
    rw [module_whole.l0, if_pos (by omega), if_pos (by omega), if_pos (by omega), rdm_at (by omega), mBytes_f _ _ _ _ _ _ _ _ h0 h1 k (by omega), Option.bind_some, List.drop_eq_getElem_cons (by omega : i < ms.length), mall]
    change (if (mb ms[i]).2 = 0 then _ else _) = _
    by_cases c0 : (mb ms[i]).2 = 0
    · rw [if_pos c0, if_pos c0, cBytes_f _ hI (by omega) k (by omega), Option.bind_some]
      change (if (cb ms[i]).2 = 0 then (if acc.length + (mb ms[i]).1.length < 140737488355328 then _ else _) else _) = _
      by_cases c1 : (cb ms[i]).2 = 0
      · rw [if_pos c1, if_pos c1, if_pos (by omega), Option.bind_some]
        change (if (acc ++ (mb ms[i]).1).length + (cb ms[i]).1.length < 140737488355328 then module_whole.l0 k (acc ++ (mb ms[i]).1 ++ (cb ms[i]).1) ms ms.length _ L0 L1 M a else _) = _
        rw [if_pos (by rw [List.length_append]; omega), wrap64_id (by omega) (by omega), show ((i : Int) + 1) = ((i + 1 : Nat) : Int) by omega, ih k (i + 1) _ (by omega) (by simp only [List.length_append]; omega) (by omega)]
        by_cases c2 : (mall (ms.drop (i + 1))).2 = 0
        · rw [if_pos c2, if_pos c2, if_pos rfl]; simp only [List.append_assoc]
        · rw [if_neg c2, if_neg c2, if_neg (show ¬ ([], (mall (ms.drop (i + 1))).2).2 = (0 : Int) from c2)]
      · rw [if_neg c1, if_neg c1, if_neg (show ¬ ([], (cb ms[i]).2).2 = (0 : Int) from c1)]; rfl
    · rw [if_neg c0, if_neg c0, if_neg (show ¬ ([], (mb ms[i]).2).2 = (0 : Int) from c0)]; rfl
theorem whole_j0 {l0 l1 : List VA} {ms : List ME} (ok : OkM ms) (h16 : ms.length ≤ 16) (a : Int) (k : Nat) (hk : 4000 ≤ k) (b : Bool) : module_whole.j0 k b l0 l1 ms a = some (if b = true then ([], 80) else if (pbytes l0).2 = 0 then (if (pbytes l1).2 = 0 then (if (mall ms).2 = 0 then ((pbytes l0).1 ++ (pbytes l1).1 ++ [(ms.length : Int)] ++ (mall ms).1 ++ [mgb a], 0) else ([], (mall ms).2)) else ([], (pbytes l1).2)) else ([], (pbytes l0).2)) := by
  have hlen := ok.len
  obtain ⟨k, rfl⟩ : ∃ n, k = n + 1 := ⟨k - 1, by omega⟩
  have p0 := pbytes_length l0
  have p1 := pbytes_length l1
  rw [module_whole.j0]
  cases b
  · rw [if_neg (by decide), if_neg (by decide), pbytes_f l0 k (by omega), Option.bind_some]
    by_cases c0 : (pbytes l0).2 = 0
    · rw [if_pos c0, if_pos c0, pbytes_f l1 k (by omega), Option.bind_some]
      by_cases c1 : (pbytes l1).2 = 0
      · rw [if_pos c1, if_pos c1, if_pos (by omega), Option.bind_some, Option.bind_some, if_pos (by simp; omega)]
        have := whole_l0 ok l0 l1 ms a ms.length k 0 ((pbytes l0).1 ++ (pbytes l1).1 ++ [(ms.length : Int)]) (by omega) (by simp; omega) (by omega)
        rw [List.drop_zero] at this
        rw [show ((ms.length : Int)) % 256 = ms.length by omega]
        exact this
      · rw [if_neg c1, if_neg c1]
    · rw [if_neg c0, if_neg c0]
  · rw [if_pos rfl, if_pos rfl]
theorem whole_bad (l0 l1 : List VA) (ms : List ME) (a : Int) (k : Nat) (hk : 0 < k) : module_whole.j0 k true l0 l1 ms a = some ([], 80) := by
  obtain ⟨k, rfl⟩ : ∃ n, k = n + 1 := ⟨k - 1, by omega⟩
  rw [module_whole.j0, if_pos rfl]
theorem whole_f {l0 l1 : List VA} {ms : List ME} (ok : OkM ms) (a : Int) (k : Nat) (hk : 4000 ≤ k) : module_whole.f k l0 l1 ms a = some (m8raw l0 l1 ms a) := by
  unfold module_whole.f m8raw
  by_cases c0 : l0.length > 4
  · rw [if_pos (by omega), if_pos (.inl c0), whole_bad _ _ _ _ _ (by omega)]
  by_cases c1 : ms.length > 16
  · rw [if_neg (by omega), if_pos (by omega), if_pos (.inr (.inl c1)), whole_bad _ _ _ _ _ (by omega)]
  by_cases c2 : a < -1
  · rw [if_neg (by omega), if_neg (by omega), if_pos c2, if_pos (.inr (.inr (.inl c2))), whole_bad _ _ _ _ _ (by omega)]
  rw [if_neg (by omega), if_neg (by omega), if_neg c2, whole_j0 ok (by omega) a k hk]
  by_cases c3 : a ≥ (ms.length : Int)
  · rw [if_pos (decide_eq_true c3), if_pos (Or.inr (Or.inr (Or.inr c3)))]
  · rw [if_neg (show ¬ decide (a ≥ (ms.length : Int)) = true by simpa using c3), if_neg (show ¬ (l0.length > 4 ∨ ms.length > 16 ∨ a < -1 ∨ a ≥ (ms.length : Int)) by omega)]
theorem bytes_f {l0 l1 : List VA} {ms : List ME} (ok : OkM ms) (a : Int) (k : Nat) (hk : 4000 ≤ k) : module_Bytes.f k l0 l1 ms a = some (m8 l0 l1 ms a) := by
  unfold module_Bytes.f m8
  rw [whole_f ok a k hk, Option.bind_some]
  by_cases c0 : (m8raw l0 l1 ms a).2 = 0
  · rw [if_pos c0, if_pos c0]
    by_cases c1 : (m8raw l0 l1 ms a).1.length > 2000
    · rw [if_pos (by omega), if_pos c1]
    · rw [if_neg (by omega), if_neg c1]
      congr 1
      exact Prod.ext rfl c0.symm
  · rw [if_neg c0, if_neg c0]
theorem may8_f {l0 l1 : List VA} {ms : List ME} (ok : OkM ms) (a : Int) (k : Nat) (hk : 4000 ≤ k) : module_May.f k l0 l1 ms a = some (m8 l0 l1 ms a).2 := by
  unfold module_May.f
  rw [bytes_f ok a k hk, Option.bind_some]
end Go.Proofs.YthmjblmdbcmjcaaDoor.M.MC
namespace Go.Proofs.YthmjblmdbcmjcaaDoor.M.MC
open Go.RowKit Go.Proofs.YthmjblmdbcmjcaaDoor.P Go.Proofs.YthmjblmdbcmjcaaDoorW.PrintWords Go.Proofs.YthmjblmdbcmjcaaDoorW.PrintLast Go.Proofs.YthmjblmdbcmjcaaDoorW.PrintMore

/-- What the reference tells behind the methods. -/
def rend (r : List Int × Int) : List Int × Int := if r.2 = 0 then (if r.1.length > 2000 then ([], 3) else r) else ([], r.2)
theorem rwhole_l0 {ms : List ME} (ok : OkM ms) (L0 L1 : List VA) (a : Int) (d : Nat) : ∀ (k i : Nat) (acc : List Int), i + d = ms.length → acc.length ≤ 1000 + 640 * i → d + 3000 ≤ k →
    capstanref08_Bytes.l0 k acc i L0 L1 ms a = some (rend (if (mall (ms.drop i)).2 = 0 then (acc ++ (mall (ms.drop i)).1 ++ [mgb a], 0) else ([], (mall (ms.drop i)).2))) := by
  have hlen := ok.len
  induction d with
  | zero =>
    intro k i acc hi ha hk
    obtain ⟨k, rfl⟩ : ∃ n, k = n + 1 := ⟨k - 1, by omega⟩
    rw [capstanref08_Bytes.l0, if_neg (by omega), List.drop_eq_nil_of_le (by omega), mall, if_pos rfl, List.append_nil]
    unfold mgb rend
    rw [if_pos rfl]
    by_cases h : a ≥ 0
    · rw [if_neg (by omega), if_pos h, if_pos (by omega), Option.bind_some]
      by_cases c : (acc ++ [a % 256]).length > 2000
      · rw [if_pos (by omega), if_pos c]
      · rw [if_neg (by omega), if_neg c]
    · rw [if_pos (by omega), if_neg h, if_pos (by omega), Option.bind_some]
      by_cases c : (acc ++ [255]).length > 2000
      · rw [if_pos (by omega), if_pos c]
      · rw [if_neg (by omega), if_neg c]
  | succ d ih =>
    intro k i acc hi ha hk
    obtain ⟨k, rfl⟩ : ∃ n, k = n + 1 := ⟨k - 1, by omega⟩
    obtain ⟨h0, h1, h7, hI⟩ := ok.one ms[i] (List.getElem_mem _)
    have l1 := mb_len ms[i]
    have l2 := cb_len ms[i]
    rw [capstanref08_Bytes.l0, if_pos (by omega), if_pos (by omega), rdm_at (by omega), refBytes7_f _ _ _ _ _ _ _ _ h0 h1 k (by omega), Option.bind_some, List.drop_eq_getElem_cons (by omega : i < ms.length), mall]
    change (if (mb ms[i]).2 = 0 then _ else _) = _
    by_cases c0 : (mb ms[i]).2 = 0
    · rw [if_pos c0, if_pos c0, tBytes_f _ hI (by omega) k (by omega), Option.bind_some]
      change (if (cb ms[i]).2 = 0 then (if acc.length + (mb ms[i]).1.length < 140737488355328 then _ else _) else _) = _
      by_cases c1 : (cb ms[i]).2 = 0
      · rw [if_pos c1, if_pos c1, if_pos (by omega), Option.bind_some]
        change (if (acc ++ (mb ms[i]).1).length + (cb ms[i]).1.length < 140737488355328 then capstanref08_Bytes.l0 k (acc ++ (mb ms[i]).1 ++ (cb ms[i]).1) _ L0 L1 ms a else _) = _
        rw [if_pos (by rw [List.length_append]; omega), wrap64_id (by omega) (by omega), show ((i : Int) + 1) = ((i + 1 : Nat) : Int) by omega, ih k (i + 1) _ (by omega) (by simp only [List.length_append]; omega) (by omega)]
        by_cases c2 : (mall (ms.drop (i + 1))).2 = 0
        · rw [if_pos c2, if_pos c2, if_pos rfl]; simp only [List.append_assoc]
        · rw [if_neg c2, if_neg c2, if_neg (show ¬ ([], (mall (ms.drop (i + 1))).2).2 = (0 : Int) from c2)]
      · rw [if_neg c1, if_neg c1, if_neg (show ¬ ([], (cb ms[i]).2).2 = (0 : Int) from c1)]
        unfold rend
        rw [if_neg (show ¬ ([], (cb ms[i]).2).2 = (0 : Int) from c1)]; rfl
    · rw [if_neg c0, if_neg c0, if_neg (show ¬ ([], (mb ms[i]).2).2 = (0 : Int) from c0)]
      unfold rend
      rw [if_neg (show ¬ ([], (mb ms[i]).2).2 = (0 : Int) from c0)]; rfl
theorem rwhole_bad (l0 l1 : List VA) (ms : List ME) (a : Int) (k : Nat) (hk : 0 < k) : capstanref08_Bytes.j0 k true l0 l1 ms a = some ([], 80) := by
  obtain ⟨k, rfl⟩ : ∃ n, k = n + 1 := ⟨k - 1, by omega⟩
  rw [capstanref08_Bytes.j0, if_pos rfl]
theorem rwhole_j0 {l0 l1 : List VA} {ms : List ME} (ok : OkM ms) (hv0 : ∀ v ∈ l0, vok v) (hv1 : ∀ v ∈ l1, vok v) (hl0 : l0.length ≤ 1000) (hl1 : l1.length ≤ 1000) (h16 : ms.length ≤ 16) (a : Int) (k : Nat) (hk : 4000 ≤ k) : capstanref08_Bytes.j0 k false l0 l1 ms a = some (rend (if (pbytes l0).2 = 0 then (if (pbytes l1).2 = 0 then (if (mall ms).2 = 0 then ((pbytes l0).1 ++ (pbytes l1).1 ++ [(ms.length : Int)] ++ (mall ms).1 ++ [mgb a], 0) else ([], (mall ms).2)) else ([], (pbytes l1).2)) else ([], (pbytes l0).2))) := by
  have hlen := ok.len
  obtain ⟨k, rfl⟩ : ∃ n, k = n + 1 := ⟨k - 1, by omega⟩
  have p0 := pbytes_length l0
  have p1 := pbytes_length l1
  rw [capstanref08_Bytes.j0, if_neg (by decide), refpbytes_f l0 hv0 hl0 k (by omega), Option.bind_some]
  by_cases c0 : (pbytes l0).2 = 0
  · rw [if_pos c0, if_pos c0, refpbytes_f l1 hv1 hl1 k (by omega), Option.bind_some]
    by_cases c1 : (pbytes l1).2 = 0
    · rw [if_pos c1, if_pos c1, if_pos (by omega), Option.bind_some, if_pos (by simp; omega)]
      have := rwhole_l0 ok l0 l1 a ms.length k 0 ((pbytes l0).1 ++ (pbytes l1).1 ++ [(ms.length : Int)]) (by omega) (by simp; omega) (by omega)
      rw [List.drop_zero] at this
      rw [show ((ms.length : Int)) % 256 = ms.length by omega]
      exact this
    · rw [if_neg c1, if_neg c1]
      unfold rend
      rw [if_neg (show ¬ ([], (pbytes l1).2).2 = (0 : Int) from c1)]
  · rw [if_neg c0, if_neg c0]
    unfold rend
    rw [if_neg (show ¬ ([], (pbytes l0).2).2 = (0 : Int) from c0)]
theorem rbytes_f {l0 l1 : List VA} {ms : List ME} (ok : OkM ms) (hv0 : ∀ v ∈ l0, vok v) (hv1 : ∀ v ∈ l1, vok v) (hl0 : l0.length ≤ 1000) (hl1 : l1.length ≤ 1000) (a : Int) (k : Nat) (hk : 4000 ≤ k) : capstanref08_Bytes.f k l0 l1 ms a = some (m8 l0 l1 ms a) := by
  have e80 : ([], 80) = rend (([], 80) : List Int × Int) := rfl
  have hm : m8 l0 l1 ms a = rend (m8raw l0 l1 ms a) := rfl
  rw [hm]
  unfold capstanref08_Bytes.f m8raw
  by_cases c0 : l0.length > 4
  · rw [if_pos (by omega), if_pos (.inl c0), rwhole_bad _ _ _ _ _ (by omega), ← e80]
  by_cases c1 : ms.length > 16
  · rw [if_neg (by omega), if_pos (by omega), if_pos (.inr (.inl c1)), rwhole_bad _ _ _ _ _ (by omega), ← e80]
  by_cases c2 : a < -1
  · rw [if_neg (by omega), if_neg (by omega), if_pos c2, if_pos (.inr (.inr (.inl c2))), rwhole_bad _ _ _ _ _ (by omega), ← e80]
  rw [if_neg (by omega), if_neg (by omega), if_neg c2]
  by_cases c3 : a ≥ (ms.length : Int)
  · rw [decide_eq_true c3, if_pos (Or.inr (Or.inr (Or.inr c3))), rwhole_bad _ _ _ _ _ (by omega), ← e80]
  · rw [decide_eq_false c3, if_neg (show ¬ (l0.length > 4 ∨ ms.length > 16 ∨ a < -1 ∨ a ≥ (ms.length : Int)) by omega), rwhole_j0 ok hv0 hv1 hl0 hl1 (by omega) a k hk]
/-! ### Sameness -/
theorem vne_iff (u v : VA) : ((!(u.f0 == v.f0) || (!(u.f1 == v.f1) || (!(u.f2 == v.f2)))) = true) ↔ u ≠ v := by
  cases u; cases v
  simp only [Bool.or_eq_true, Bool.not_eq_true', beq_eq_false_iff_ne, ne_eq, S73.mk.injEq]
  omega
theorem vsame_l0 (x y : List VA) (hx : x.length ≤ 100000) (hy : x.length = y.length) (d : Nat) : ∀ (k i : Nat), i + d = x.length → d < k → slices_Equal_api_Value_api_Value.l0 k x y x.length i = some (decide (x.drop i = y.drop i)) := by
  induction d with
  | zero =>
    intro k i hi hk
    obtain ⟨k, rfl⟩ : ∃ n, k = n + 1 := ⟨k - 1, by omega⟩
    simp only [slices_Equal_api_Value_api_Value.l0]
    rw [if_neg (by omega), List.drop_eq_nil_of_le (by omega), List.drop_eq_nil_of_le (by omega)]; rfl
  | succ d ih =>
    intro k i hi hk
    obtain ⟨k, rfl⟩ : ∃ n, k = n + 1 := ⟨k - 1, by omega⟩
    have hr := ih k (i + 1) (by omega) (by omega)
    simp only [slices_Equal_api_Value_api_Value.l0]
    rw [if_pos (by omega), if_pos (by omega), if_pos (by omega), if_pos (by omega), rdT_at (by omega : i < x.length), rdT_at (by omega : i < y.length), wrap64_id (by omega) (by omega), show ((i : Int) + 1) = ((i + 1 : Nat) : Int) by omega, hr, List.drop_eq_getElem_cons (by omega : i < x.length), List.drop_eq_getElem_cons (by omega : i < y.length)]
    by_cases h : x[i] = y[i]
    · rw [if_neg (fun c => (vne_iff _ _).1 c h)]
      congr 1; rw [Bool.eq_iff_iff, decide_eq_true_eq, decide_eq_true_eq, List.cons.injEq]
      exact ⟨fun e => ⟨h, e⟩, fun e => e.2⟩
    · rw [if_pos ((vne_iff _ _).2 h), decide_eq_false (fun c => h (List.cons.inj c).1)]
theorem vsame_f (x y : List VA) (hx : x.length ≤ 100000) (k : Nat) (hk : x.length < k) : slices_Equal_api_Value_api_Value.f k x y = some (decide (x = y)) := by
  unfold slices_Equal_api_Value_api_Value.f
  by_cases h : x.length = y.length
  · have hr := vsame_l0 x y hx h x.length k 0 (by omega) hk
    rw [if_pos (by omega)]
    exact hr
  · rw [if_neg (by omega), decide_eq_false (fun c => h (by rw [c]))]
theorem rvsame_l0 (x y : List VA) (hx : x.length ≤ 100000) (hy : x.length = y.length) (d : Nat) : ∀ (k i : Nat), i + d = x.length → d < k → capstanref03_Same.l0 k x y i = some (decide (x.drop i = y.drop i)) := by
  induction d with
  | zero =>
    intro k i hi hk
    obtain ⟨k, rfl⟩ : ∃ n, k = n + 1 := ⟨k - 1, by omega⟩
    simp only [capstanref03_Same.l0]
    rw [if_neg (by omega), List.drop_eq_nil_of_le (by omega), List.drop_eq_nil_of_le (by omega)]; rfl
  | succ d ih =>
    intro k i hi hk
    obtain ⟨k, rfl⟩ : ∃ n, k = n + 1 := ⟨k - 1, by omega⟩
    have hr := ih k (i + 1) (by omega) (by omega)
    simp only [capstanref03_Same.l0]
    rw [if_pos (by omega), if_pos (by omega), if_pos (by omega), rdT_at (by omega : i < x.length), rdT_at (by omega : i < y.length), wrap64_id (by omega) (by omega), show ((i : Int) + 1) = ((i + 1 : Nat) : Int) by omega, hr, List.drop_eq_getElem_cons (by omega : i < x.length), List.drop_eq_getElem_cons (by omega : i < y.length)]
    by_cases h : x[i] = y[i]
    · rw [if_neg (fun c => (vne_iff _ _).1 c h)]
      congr 1; rw [Bool.eq_iff_iff, decide_eq_true_eq, decide_eq_true_eq, List.cons.injEq]
      exact ⟨fun e => ⟨h, e⟩, fun e => e.2⟩
    · rw [if_pos ((vne_iff _ _).2 h), decide_eq_false (fun c => h (List.cons.inj c).1)]
theorem rvsame_f (x y : List VA) (hx : x.length ≤ 100000) (k : Nat) (hk : x.length < k) : capstanref03_Same.f k x y = some (decide (x = y)) := by
  unfold capstanref03_Same.f
  by_cases h : x.length = y.length
  · have hr := rvsame_l0 x y hx h x.length k 0 (by omega) hk
    rw [if_pos (by omega)]
    exact hr
  · rw [if_neg (by omega), decide_eq_false (fun c => h (by rw [c]))]
def one8 (x y : ME) : Bool := msame x.f0 x.f1 x.f2 x.f3 x.f4 x.f5 x.f6 y.f0 y.f1 y.f2 y.f3 y.f4 y.f5 y.f6 && csame x.f7 y.f7
def all8 : List ME → List ME → Bool
  | x :: r, y :: s => one8 x y && all8 r s
  | _, _ => true
def same8 (l0 l1 : List VA) (ms : List ME) (a : Int) (u0 u1 : List VA) (us : List ME) (b : Int) : Bool := decide (a = b) && (decide (l0 = u0) && (decide (l1 = u1) && (decide (ms.length = us.length) && all8 ms us)))
theorem alike_f (x y : ME) (h0 : x.f0.length ≤ 100) (h1 : x.f1.length ≤ 100) (h7 : x.f7.length ≤ 300) (k : Nat) (hk : 3000 ≤ k) : module_Same_1.f k x.f0 x.f1 x.f2 x.f3 x.f4 x.f5 x.f6 x.f7 y.f0 y.f1 y.f2 y.f3 y.f4 y.f5 y.f6 y.f7 = some (one8 x y) := by
  unfold module_Same_1.f one8
  rw [mSame_f _ _ _ _ _ _ _ _ _ _ _ _ _ _ _ _ h0 h1 k (by omega), Option.bind_some]
  cases msame x.f0 x.f1 x.f2 x.f3 x.f4 x.f5 x.f6 y.f0 y.f1 y.f2 y.f3 y.f4 y.f5 y.f6
  · rw [if_neg (by decide), Bool.false_and]
  · rw [if_pos rfl, same_f _ _ (by omega) k (by omega), Option.bind_some, Bool.true_and]
theorem eqf_l0 {ms : List ME} (ok : OkM ms) (us : List ME) (hy : ms.length = us.length) (d : Nat) : ∀ (k i : Nat), i + d = ms.length → d + 3000 ≤ k → slices_EqualFunc_api_Method_api_Method_api_Method_api_Method.l0 k us ms ms.length i = some (all8 (ms.drop i) (us.drop i)) := by
  have hlen := ok.len
  induction d with
  | zero =>
    intro k i hi hk
    obtain ⟨k, rfl⟩ : ∃ n, k = n + 1 := ⟨k - 1, by omega⟩
    rw [slices_EqualFunc_api_Method_api_Method_api_Method_api_Method.l0, if_neg (by omega), List.drop_eq_nil_of_le (by omega), List.drop_eq_nil_of_le (by omega)]; rfl
  | succ d ih =>
    intro k i hi hk
    obtain ⟨k, rfl⟩ : ∃ n, k = n + 1 := ⟨k - 1, by omega⟩
    obtain ⟨h0, h1, h7, _⟩ := ok.one ms[i] (List.getElem_mem _)
    rw [slices_EqualFunc_api_Method_api_Method_api_Method_api_Method.l0, if_pos (by omega), if_pos (by omega), if_pos (by omega), if_pos (by omega), rdm_at (by omega : i < ms.length), rdm_at (by omega : i < us.length), alike_f _ _ h0 h1 h7 k (by omega), Option.bind_some, List.drop_eq_getElem_cons (by omega : i < ms.length), List.drop_eq_getElem_cons (by omega : i < us.length), all8]
    cases one8 ms[i] us[i]
    · rw [if_neg (by decide), Bool.false_and]
    · rw [if_pos rfl, Bool.true_and, wrap64_id (by omega) (by omega), show ((i : Int) + 1) = ((i + 1 : Nat) : Int) by omega]
      exact ih k (i + 1) (by omega) (by omega)
theorem same8_f {ms : List ME} (ok : OkM ms) (l0 l1 : List VA) (a : Int) (u0 u1 : List VA) (us : List ME) (b : Int) (hl0 : l0.length ≤ 1000) (hl1 : l1.length ≤ 1000) (k : Nat) (hk : 4000 ≤ k) : module_Same.f k l0 l1 ms a u0 u1 us b = some (same8 l0 l1 ms a u0 u1 us b) := by
  have hlen := ok.len
  unfold module_Same.f same8
  by_cases c0 : a = b
  · rw [if_pos c0, decide_eq_true c0, Bool.true_and, vsame_f _ _ (by omega) k (by omega), Option.bind_some]
    by_cases c1 : l0 = u0
    · rw [if_pos (decide_eq_true c1), decide_eq_true c1, Bool.true_and, vsame_f _ _ (by omega) k (by omega), Option.bind_some]
      by_cases c2 : l1 = u1
      · rw [if_pos (decide_eq_true c2), decide_eq_true c2, Bool.true_and]
        unfold slices_EqualFunc_api_Method_api_Method_api_Method_api_Method.f
        by_cases c3 : ms.length = us.length
        · have := eqf_l0 ok us c3 ms.length k 0 (by omega) (by omega)
          rw [List.drop_zero, List.drop_zero] at this
          rw [if_pos (by omega), decide_eq_true c3, Bool.true_and]
          rw [show slices_EqualFunc_api_Method_api_Method_api_Method_api_Method.l0 k us ms ms.length 0 = _ from this, Option.bind_some]
        · rw [if_neg (by omega), decide_eq_false c3, Bool.false_and, Option.bind_some]
      · rw [if_neg (by simpa using c2), decide_eq_false c2, Bool.false_and]
    · rw [if_neg (by simpa using c1), decide_eq_false c1, Bool.false_and]
  · rw [if_neg c0, decide_eq_false c0, Bool.false_and]
theorem rsame_l0 {ms : List ME} (ok : OkM ms) (l0 l1 : List VA) (a : Int) (u0 u1 : List VA) (us : List ME) (b : Int) (hy : ms.length = us.length) (d : Nat) : ∀ (k i : Nat), i + d = ms.length → d + 3000 ≤ k → capstanref08_Same.l0 k i l0 l1 ms a u0 u1 us b = some (all8 (ms.drop i) (us.drop i)) := by
  have hlen := ok.len
  induction d with
  | zero =>
    intro k i hi hk
    obtain ⟨k, rfl⟩ : ∃ n, k = n + 1 := ⟨k - 1, by omega⟩
    rw [capstanref08_Same.l0, if_neg (by omega), List.drop_eq_nil_of_le (by omega), List.drop_eq_nil_of_le (by omega)]; rfl
  | succ d ih =>
    intro k i hi hk
    obtain ⟨k, rfl⟩ : ∃ n, k = n + 1 := ⟨k - 1, by omega⟩
    obtain ⟨h0, h1, h7, _⟩ := ok.one ms[i] (List.getElem_mem _)
    rw [capstanref08_Same.l0, if_pos (by omega), if_pos (by omega), if_pos (by omega), rdm_at (by omega : i < ms.length), rdm_at (by omega : i < us.length), refSame7_f _ _ _ _ _ _ _ _ _ _ _ _ _ _ _ _ h0 h1 k (by omega), Option.bind_some, List.drop_eq_getElem_cons (by omega : i < ms.length), List.drop_eq_getElem_cons (by omega : i < us.length), all8, one8]
    cases msame ms[i].f0 ms[i].f1 ms[i].f2 ms[i].f3 ms[i].f4 ms[i].f5 ms[i].f6 us[i].f0 us[i].f1 us[i].f2 us[i].f3 us[i].f4 us[i].f5 us[i].f6
    · rw [if_neg (by decide), Bool.false_and, Bool.false_and]
    · rw [if_pos rfl, Bool.true_and, tSame_f _ _ (by omega) k (by omega), Option.bind_some]
      cases csame ms[i].f7 us[i].f7
      · rw [if_neg (by decide), Bool.false_and]
      · rw [if_pos rfl, Bool.true_and, wrap64_id (by omega) (by omega), show ((i : Int) + 1) = ((i + 1 : Nat) : Int) by omega]
        exact ih k (i + 1) (by omega) (by omega)
theorem rsame_j0 (l0 l1 : List VA) (ms : List ME) (a : Int) (u0 u1 : List VA) (us : List ME) (b : Int) (k : Nat) (hk : 0 < k) : capstanref08_Same.j0 k true l0 l1 ms a u0 u1 us b = some false := by
  obtain ⟨k, rfl⟩ : ∃ n, k = n + 1 := ⟨k - 1, by omega⟩
  rw [capstanref08_Same.j0, if_pos rfl]
theorem rsame8_f {ms : List ME} (ok : OkM ms) (l0 l1 : List VA) (a : Int) (u0 u1 : List VA) (us : List ME) (b : Int) (hl0 : l0.length ≤ 1000) (hl1 : l1.length ≤ 1000) (k : Nat) (hk : 4000 ≤ k) : capstanref08_Same.f k l0 l1 ms a u0 u1 us b = some (same8 l0 l1 ms a u0 u1 us b) := by
  have hlen := ok.len
  unfold capstanref08_Same.f same8
  by_cases c0 : a = b
  · rw [if_pos c0, decide_eq_true c0, Bool.true_and, rvsame_f _ _ (by omega) k (by omega), Option.bind_some]
    by_cases c1 : l0 = u0
    · rw [if_pos (decide_eq_true c1), decide_eq_true c1, Bool.true_and, rvsame_f _ _ (by omega) k (by omega), Option.bind_some]
      by_cases c2 : l1 = u1
      · rw [if_pos (decide_eq_true c2), decide_eq_true c2, Bool.true_and]
        by_cases c3 : ms.length = us.length
        · rw [show ((ms.length : Int) != (us.length : Int)) = false from by rw [bne_eq_false_iff_eq]; omega, decide_eq_true c3, Bool.true_and]
          obtain ⟨k, rfl⟩ : ∃ n, k = n + 1 := ⟨k - 1, by omega⟩
          have := rsame_l0 ok l0 l1 a u0 u1 us b c3 ms.length k 0 (by omega) (by omega)
          rw [List.drop_zero, List.drop_zero] at this
          rw [capstanref08_Same.j0, if_neg (by decide)]
          exact this
        · rw [show ((ms.length : Int) != (us.length : Int)) = true from by rw [bne_iff_ne]; omega, decide_eq_false c3, Bool.false_and, rsame_j0 _ _ _ _ _ _ _ _ _ (by omega)]
      · rw [if_neg (by simpa using c2), decide_eq_false c2, Bool.false_and, rsame_j0 _ _ _ _ _ _ _ _ _ (by omega)]
    · rw [if_neg (by simpa using c1), decide_eq_false c1, Bool.false_and, rsame_j0 _ _ _ _ _ _ _ _ _ (by omega)]
  · rw [if_neg c0, decide_eq_false c0, Bool.false_and, rsame_j0 _ _ _ _ _ _ _ _ _ (by omega)]
theorem all8_self : ∀ ms : List ME, all8 ms ms = true := by
  intro ms
  induction ms with
  | nil => rfl
  | cons x r ih => rw [all8, ih, Bool.and_true, one8, csame_self, Bool.and_true]; exact msame_iff.2 ⟨rfl, rfl, rfl, rfl, rfl, rfl, rfl⟩
theorem same8_self (l0 l1 : List VA) (ms : List ME) (a : Int) : same8 l0 l1 ms a l0 l1 ms a = true := by simp [same8, all8_self]
end Go.Proofs.YthmjblmdbcmjcaaDoor.M.MC
namespace Go.Proofs.YthmjblmdbcmjcaaDoor.M.MC
open Go.RowKit Go.Proofs.YthmjblmdbcmjcaaDoor.P Go.Proofs.YthmjblmdbcmjcaaDoorW.PrintWords Go.Proofs.YthmjblmdbcmjcaaDoorW.PrintLast Go.Proofs.YthmjblmdbcmjcaaDoorW.PrintMore

/-- Of a module that isn't too great, what the chapters below ask. -/
theorem okm {l0 l1 : List VA} {ms : List ME} {a : Int} (hg : capstanlaw08_Great.f 60 l0 l1 ms a = some false) (hs : Small ms) (h300 : ∀ j : Int, 0 ≤ j → j < (ms.length : Int) → (rd_T47 ms j).f7.length ≤ 300) (hI : ∀ x ∈ ms, isI x.f7) : OkM ms := by
  have hf := great_few hs.len hg
  refine ⟨hs.len, fun x hx => ?_⟩
  obtain ⟨j, hj, rfl⟩ := List.mem_iff_getElem.1 hx
  have a := hf j hj
  have b := h300 (j : Int) (by omega) (by omega)
  rw [rdm_at hj] at a b
  exact ⟨a.1, a.2, b, hI _ hx⟩
end Go.Proofs.YthmjblmdbcmjcaaDoor.M.MC
namespace Go.Proofs.YthmjblmdbcmjcaaDoor.M.MC
open Go.RowKit Go.Proofs.YthmjblmdbcmjcaaDoor.P Go.Proofs.YthmjblmdbcmjcaaDoorW.PrintWords Go.Proofs.YthmjblmdbcmjcaaDoorW.PrintLast Go.Proofs.YthmjblmdbcmjcaaDoorW.PrintMore

section
variable {l0 l1 u0 u1 : List VA} {ms us : List ME} {a b : Int}
theorem mt8_l1 (W : List Int) (e t : Int) (d : Nat) : ∀ (k i : Nat) (z : List Int), i + d = z.length → z.length ≤ 100000 → capstanlaw08_ModuleTells.l1 (k + d + 1) W e t z i l0 l1 ms a u0 u1 us b l0 l1 ms a = capstanlaw08_ModuleTells.l0 k W e (wrap64 (t + 1)) l0 l1 ms a u0 u1 us b l0 l1 ms a := by
  induction d with
  | zero =>
    intro k i z hi hz
    rw [capstanlaw08_ModuleTells.l1, if_neg (by omega)]
  | succ d ih =>
    intro k i z hi hz
    rw [show k + (d + 1) + 1 = (k + d + 1) + 1 by omega, capstanlaw08_ModuleTells.l1, if_pos (by omega), if_pos (by omega), wrap64_id (by omega) (by omega), show ((i : Int) + 1) = ((i + 1 : Nat) : Int) by omega]
    exact ih k (i + 1) _ (by rw [List.length_set]; omega) (by rw [List.length_set]; omega)
theorem m8_len (l0 l1 : List VA) (ms : List ME) (a : Int) : (m8 l0 l1 ms a).1.length ≤ 2000 := by
  unfold m8
  split
  · split
    · simp
    · omega
  · simp
theorem mt8_turn (ok : OkM ms) (hl0 : l0.length ≤ 100) (hl1 : l1.length ≤ 100) (t : Int) (ht : t < 2) (k : Nat) (hk : 8000 ≤ k) : ∃ k', k ≤ k' + 3000 ∧ capstanlaw08_ModuleTells.l0 k (m8 l0 l1 ms a).1 (m8 l0 l1 ms a).2 t l0 l1 ms a u0 u1 us b l0 l1 ms a = capstanlaw08_ModuleTells.l0 k' (m8 l0 l1 ms a).1 (m8 l0 l1 ms a).2 (wrap64 (t + 1)) l0 l1 ms a u0 u1 us b l0 l1 ms a := by
  have hb := m8_len l0 l1 ms a
  obtain ⟨k, rfl⟩ : ∃ n, k = n + 2 := ⟨k - 2, by omega⟩
  obtain ⟨q, hq⟩ : ∃ q, k = q + (m8 l0 l1 ms a).1.length + 1 := ⟨k - (m8 l0 l1 ms a).1.length - 1, by omega⟩
  refine ⟨q, by omega, ?_⟩
  rw [capstanlaw08_ModuleTells.l0, if_pos ht, bytes_f ok a _ (by omega), Option.bind_some, if_pos rfl, if_pos rfl, may8_f ok a _ (by omega), Option.bind_some, if_pos rfl, same8_f ok _ _ _ _ _ _ _ (by omega) (by omega) _ (by omega), Option.bind_some, rsame8_f ok _ _ _ _ _ _ _ (by omega) (by omega) _ (by omega), Option.bind_some, if_neg (by simp), rsame8_f ok _ _ _ _ _ _ _ (by omega) (by omega) _ (by omega), Option.bind_some, same8_self, capstanlaw08_ModuleTells.j2, if_neg (by decide), hq]
  exact mt8_l1 _ _ t _ q 0 _ (by omega) (by omega)
end
end Go.Proofs.YthmjblmdbcmjcaaDoor.M.MC
namespace Go.Proofs.YthmjblmdbcmjcaaDoor.Pure
open Go.RowKit Go.Proofs.YthmjblmdbcmjcaaDoor.P Go.Proofs.YthmjblmdbcmjcaaDoor.M Go.Proofs.YthmjblmdbcmjcaaDoor.M.MC Go.Proofs.YthmjblmdbcmjcaaDoorW.PrintWords Go.Proofs.YthmjblmdbcmjcaaDoorW.PrintLast Go.Proofs.YthmjblmdbcmjcaaDoorW.PrintMore

theorem ModuleTells : capstanlaw08_ModuleTells.Pure := by
  intro l0 l1 ms a u0 u1 us b g0 _
  obtain ⟨⟨_, w0⟩, ⟨_, w1⟩, ⟨_, w2⟩, _⟩ := g0
  have hj : ∀ k, capstanlaw08_ModuleTells.j0 (k + 1) true l0 l1 ms a u0 u1 us b = some true := fun k => by rw [capstanlaw08_ModuleTells.j0, if_pos rfl]
  have hup : ∀ {l0 l1 : List VA} {ms : List ME} {a : Int} {r : Bool}, capstanlaw08_Great.f 60 l0 l1 ms a = some r → capstanlaw08_Great.f 20001 l0 l1 ms a = some r := fun {l0 l1 ms a _} h => up (f := fun k => capstanlaw08_Great.f k l0 l1 ms a) (fun k => capstanlaw08_Great.mono _ _ _ _ k) h 20001 (by omega)
  refine ⟨20001, ?_⟩
  unfold capstanlaw08_ModuleTells.f
  rcases great_f (l0 := l0) (l1 := l1) (ms := ms) (a3 := a) with hg | ⟨hg, hs, hv0, hv1, h300⟩
  · rw [hup hg, Option.bind_some, if_pos rfl, hj]
  rw [hup hg, Option.bind_some, if_neg (by decide)]
  rcases great_f (l0 := u0) (l1 := u1) (ms := us) (a3 := b) with hg' | ⟨hg', _, _, _, _⟩
  · rw [hup hg', Option.bind_some, hj]
  rw [hup hg', Option.bind_some]
  have ok : OkM ms := okm hg hs h300 fun x hx y hy => wf_u8 ((w2 x hx).2.2.2.2.2.2.2.2 y hy).1
  have hf := great_few hs.len hg
  have v0 : ∀ v ∈ l0, vok v := fun v hv => wf_i64 (w0 v hv).2.1
  have v1 : ∀ v ∈ l1, vok v := fun v hv => wf_i64 (w1 v hv).2.1
  rw [capstanlaw08_ModuleTells.j0, if_neg (by decide), copy8_f hs hf hv0 hv1 _ (by omega), Option.bind_some, rbytes_f ok v0 v1 (by omega) (by omega) a _ (by omega), Option.bind_some]
  obtain ⟨k1, h1, e1⟩ := mt8_turn (l0 := l0) (l1 := l1) (a := a) (u0 := u0) (u1 := u1) (us := us) (b := b) ok hv0 hv1 0 (by decide) 20000 (by omega)
  obtain ⟨k2, h2, e2⟩ := mt8_turn (l0 := l0) (l1 := l1) (a := a) (u0 := u0) (u1 := u1) (us := us) (b := b) ok hv0 hv1 1 (by decide) k1 (by omega)
  rw [show wrap64 (0 + 1) = 1 from wrap64_id (by omega) (by omega)] at e1
  rw [show wrap64 (1 + 1) = 2 from wrap64_id (by omega) (by omega)] at e2
  obtain ⟨k2, rfl⟩ : ∃ n, k2 = n + 1 := ⟨k2 - 1, by omega⟩
  refine (e1.trans e2).trans ?_
  rw [capstanlaw08_ModuleTells.l0, if_neg (by decide), same8_f ok _ _ _ _ _ _ _ (by omega) (by omega) _ (by omega), Option.bind_some, same8_self]
end Go.Proofs.YthmjblmdbcmjcaaDoor.Pure
