/- PoolTells: any values may be a pool, and have the bytes, that the chapter says; each is found and added as it says; they stay. -/
import Derived.Test.YtjnmomhkiknhdaaP2
import Derived.Test.YtjnmomhkiknhdaaP3
import Derived.Test.YtjnmomhkiknhdaaP6
import Derived.Test.YtjnmomhkiknhdaaP7
import Derived.Test.YtjnmomhkiknhdaaLPool2
namespace Go.Proofs.Ytjnmomhkiknhdaa.Pure
open Go.RowKit Go.Proofs.Ytjnmomhkiknhdaa.P Go.Proofs.Ytjnmomhkiknhdaa.M Go.Proofs.YtjnmomhkiknhdaaW.PrintWords Go.Proofs.YtjnmomhkiknhdaaW.PrintLast Go.Proofs.YtjnmomhkiknhdaaW.PrintMore

theorem copyV_f (l : List S35) (h : l.length < 5864062014805) : capstanref03_Copy.f l = some l := by
  unfold capstanref03_Copy.f
  rw [if_pos (by simp; omega), List.nil_append]
theorem refpmay_l0 (l : List S35) (hl : l.length ≤ 100000) (d : Nat) : ∀ (k i : Nat), i + d = l.length → 2 * d + 2 ≤ k → (∀ v ∈ l.take i, vmay v = true) → capstanref06_May.l0 k l i = some (pmay l) := by
  induction d with
  | zero =>
    intro k i hi hk hm
    obtain ⟨k, rfl⟩ : ∃ n, k = n + 2 := ⟨k - 2, by omega⟩
    simp only [capstanref06_May.l0, capstanref06_May.j1]
    rw [if_neg (by omega), if_neg (by decide)]
    rw [List.take_of_length_le (by omega)] at hm
    unfold pmay
    rw [List.all_eq_true.2 hm, Bool.and_true]
    congr 2
    exact propext ⟨fun h => by omega, fun h => by omega⟩
  | succ d ih =>
    intro k i hi hk hm
    obtain ⟨k, rfl⟩ : ∃ n, k = n + 2 := ⟨k - 2, by omega⟩
    simp only [capstanref06_May.l0, capstanref06_May.j1]
    rw [if_pos (by omega)]
    by_cases h : i ≤ 32
    · rw [decide_eq_true (show (i : Int) ≤ 32 by omega), if_pos rfl, if_pos (by omega), if_pos (by omega), rdT_at (by omega), refMay_f, Option.bind_some]
      by_cases hv : vmay l[i] = true
      · rw [show may (l[i]).f0 (l[i]).f1 (l[i]).f2 = true from hv, if_pos rfl, wrap64_id (by omega) (by omega)]
        refine ih k (i + 1) (by omega) (by omega) (fun v hvm => ?_)
        rw [List.take_succ_eq_append_getElem (by omega), List.mem_append] at hvm
        rcases hvm with h1 | h1
        · exact hm v h1
        · rw [List.mem_singleton] at h1
          rw [h1]; exact hv
      · rw [if_neg (show ¬ may (l[i]).f0 (l[i]).f1 (l[i]).f2 = true from hv)]
        congr 1
        rw [eq_comm, ← Bool.not_eq_true, pmay_iff]
        exact fun c => hv (c.2 _ (List.getElem_mem (by omega)))
    · rw [decide_eq_false (show ¬ (i : Int) ≤ 32 by omega), if_neg (by decide)]
      congr 1
      rw [decide_eq_false (by omega), eq_comm, ← Bool.not_eq_true, pmay_iff]
      exact fun c => by have := c.1; omega
theorem refpmay_f (l : List S35) (hl : l.length ≤ 100000) (k : Nat) (hk : 2 * l.length + 2 ≤ k) : capstanref06_May.f k l = some (pmay l) :=
  refpmay_l0 l hl l.length k 0 (by omega) hk (fun v h => by simp at h)
theorem refpbytes_l0 (l : List S35) (hl : l.length ≤ 32) (hm : ∀ v ∈ l, vmay v = true ∧ vok v) (d : Nat) : ∀ (k i : Nat) (acc : List Int), i + d = l.length → d + 20 ≤ k → acc.length ≤ 1000 * (i + 1) → capstanref06_Bytes.l0 k l acc i = some (acc ++ vflat (l.drop i), 0) := by
  induction d with
  | zero =>
    intro k i acc hi hk ha
    obtain ⟨k, rfl⟩ : ∃ n, k = n + 1 := ⟨k - 1, by omega⟩
    simp only [capstanref06_Bytes.l0]
    rw [if_neg (by omega), List.drop_eq_nil_of_le (by omega)]
    simp [vflat]
  | succ d ih =>
    intro k i acc hi hk ha
    obtain ⟨k, rfl⟩ : ∃ n, k = n + 1 := ⟨k - 1, by omega⟩
    have hv := hm l[i] (List.getElem_mem (by omega))
    have hn := vb_len hv.1
    simp only [capstanref06_Bytes.l0]
    rw [if_pos (by omega), if_pos (by omega), rdT_at (by omega), refBytes_f _ _ _ hv.2 _ (by omega), Option.bind_some, vbytes_pair hv.1]
    dsimp only
    rw [if_pos (by omega), wrap64_id (by omega) (by omega)]
    rw [show ((i : Int) + 1) = ((i + 1 : Nat) : Int) by omega, ih k (i + 1) (acc ++ vb l[i]) (by omega) (by omega) (by rw [List.length_append]; omega), List.drop_eq_getElem_cons (by omega : i < l.length), vflat_cons, List.append_assoc]
theorem refpbytes_f (l : List S35) (ho : ∀ v ∈ l, vok v) (hl : l.length ≤ 1000) (k : Nat) (hk : 2100 ≤ k) : capstanref06_Bytes.f k l = some (pbytes l) := by
  unfold capstanref06_Bytes.f pbytes
  rw [refpmay_f l (by omega) k (by omega), Option.bind_some]
  by_cases h : pmay l = true
  · obtain ⟨h1, h2⟩ := pmay_iff.1 h
    rw [if_pos h, if_pos h, show ((l.length : Int)) % 256 = l.length by omega]
    have := refpbytes_l0 l h1 (fun v hv => ⟨h2 v hv, ho v hv⟩) l.length k 0 [(l.length : Int)] (by omega) (by omega) (by simp)
    simpa using this
  · rw [if_neg h, if_neg h]
theorem veq_iff' {a b c : Int} {v : S35} : (v.f0 == a && (v.f1 == b && (v.f2 == c))) = true ↔ v = (⟨a, b, c⟩ : S35) := by
  cases v
  simp [Bool.and_eq_true, beq_iff_eq]
theorem refFind_l0 (l : List S35) (hl : l.length ≤ 100000) (v : S35) (d : Nat) : ∀ (k i : Nat), i + d = l.length → d < k → (∀ j, j < i → l[j]? ≠ some v) → ∃ r, capstanref06_Find.l0 k l i v.f0 v.f1 v.f2 = some r ∧ isFind l v r := by
  induction d with
  | zero =>
    intro k i hi hk hj
    obtain ⟨k, rfl⟩ : ∃ n, k = n + 1 := ⟨k - 1, by omega⟩
    simp only [capstanref06_Find.l0]
    rw [if_neg (by omega)]
    refine ⟨-1, rfl, .inl ⟨rfl, fun hm => ?_⟩⟩
    obtain ⟨n, hn⟩ := List.mem_iff_getElem?.1 hm
    obtain ⟨hlt, _⟩ := List.getElem?_eq_some_iff.1 hn
    exact hj n (by omega) hn
  | succ d ih =>
    intro k i hi hk hj
    obtain ⟨k, rfl⟩ : ∃ n, k = n + 1 := ⟨k - 1, by omega⟩
    simp only [capstanref06_Find.l0]
    rw [if_pos (by omega), if_pos (by omega), rdT_at (by omega)]
    by_cases h : ((l[i]).f0 == v.f0 && ((l[i]).f1 == v.f1 && ((l[i]).f2 == v.f2))) = true
    · rw [if_pos h]
      have e : l[i] = v := veq_iff'.1 h
      exact ⟨(i : Int), rfl, .inr ⟨i, rfl, by rw [List.getElem?_eq_getElem (by omega)]; exact congrArg some e, hj⟩⟩
    · rw [if_neg h, wrap64_id (by omega) (by omega)]
      refine ih k (i + 1) (by omega) (by omega) (fun j hlt => ?_)
      rcases Nat.lt_or_ge j i with hc | hc
      · exact hj j hc
      · obtain rfl : j = i := by omega
        rw [List.getElem?_eq_getElem (by omega)]
        intro e
        exact h (veq_iff'.2 (Option.some.inj e))
theorem refFind_f (l : List S35) (hl : l.length ≤ 100000) (v : S35) (r : Int) (hr : isFind l v r) (k : Nat) (hk : l.length < k) : capstanref06_Find.f k l v.f0 v.f1 v.f2 = some r := by
  obtain ⟨s, h1, h2⟩ := refFind_l0 l hl v l.length k 0 (by omega) hk (fun j hj => by omega)
  obtain rfl := isFind_uniq hr h2
  exact h1
def addv (l : List S35) (v : S35) (r : Int) : List S35 × Int × Int := if pmay l = true then (if r ≥ 0 then (l, r, 0) else if pmay (l ++ [v]) = true then (l ++ [v], (l.length : Int), 0) else ([], 0, 60)) else ([], 0, 60)
theorem addv_length (l : List S35) (v : S35) (r : Int) : (addv l v r).1.length ≤ l.length + 1 := by
  unfold addv
  split
  · split
    · simp
    · split <;> simp
  · simp
theorem refAdd_f (l : List S35) (hl : l.length ≤ 1000) (v : S35) (r : Int) (hr : isFind l v r) (k : Nat) (hk : 2100 ≤ k) : capstanref06_Add.f k l v.f0 v.f1 v.f2 = some (addv l v r) := by
  unfold capstanref06_Add.f addv
  rw [refpmay_f l (by omega) k (by omega), Option.bind_some]
  by_cases h : pmay l = true
  · rw [if_pos h, if_pos h, refFind_f l (by omega) v r hr k (by omega), Option.bind_some, copyV_f l (by omega), Option.bind_some, Option.bind_some]
    by_cases h3 : r ≥ 0
    · rw [if_pos h3, if_pos h3]
    · rw [if_neg h3, if_neg h3, Option.bind_some, if_pos (by simp; omega), Option.bind_some, refpmay_f _ (by simp; omega) k (by simp; omega), Option.bind_some]
      by_cases h4 : pmay (l ++ [v]) = true
      · rw [if_pos h4, if_pos h4]
      · rw [if_neg h4, if_neg h4]
  · rw [if_neg h, if_neg h]
theorem PT_l2 (l x5 x8 x14 : List S35) (x6 : List Int) (x7 x9 x10 x11 n a b c : Int) (ht : x14.take l.length = l) (hll : l.length ≤ 1000) (hle : l.length ≤ x14.length) (h11 : wrap64 (x11 + 1) = n) (C : Nat) (hC : 1100 ≤ C) (hn : ∀ k, C ≤ k → capstanlaw06_PoolTells.l0 k l x5 x6 x7 x8 x9 x10 n a b c = some true) (d : Nat) :
    ∀ (k i : Nat) (x15 : List S35), i + d = x15.length → x15.length ≤ 100000 → C + d + 1 ≤ k → capstanlaw06_PoolTells.l2 k l x5 x6 x7 x8 x9 x10 x11 x14 x15 i a b c = some true := by
  induction d with
  | zero =>
    intro k i x15 hi hx hk
    obtain ⟨k, rfl⟩ : ∃ n, k = n + 1 := ⟨k - 1, by omega⟩
    simp only [capstanlaw06_PoolTells.l2]
    rw [if_neg (by omega), if_pos (by omega), if_pos (by omega), Int.toNat_natCast, ht, same_f l (by omega) k (by omega), Option.bind_some, if_pos rfl, h11]
    exact hn k (by omega)
  | succ d ih =>
    intro k i x15 hi hx hk
    obtain ⟨k, rfl⟩ : ∃ n, k = n + 1 := ⟨k - 1, by omega⟩
    simp only [capstanlaw06_PoolTells.l2]
    rw [if_pos (by omega), if_pos (by omega), wrap64_id (by omega) (by omega)]
    exact ih k (i + 1) _ (by simp; omega) (by simpa using hx) (by omega)
theorem PT_l1 (l x5 x8 x14 x15 : List S35) (x6 : List Int) (x7 x9 x10 x11 a b c : Int) (C : Nat) (hn : ∀ k, C ≤ k → capstanlaw06_PoolTells.l2 k l x5 x6 x7 x8 x9 x10 x11 x14 x15 0 a b c = some true) (d : Nat) :
    ∀ (k i : Nat) (x12 : List Int), i + d = x12.length → x12.length ≤ 100000 → C + d + 1 ≤ k → capstanlaw06_PoolTells.l1 k l x5 x6 x7 x8 x9 x10 x11 x12 x14 x15 i a b c = some true := by
  induction d with
  | zero =>
    intro k i x12 hi hx hk
    obtain ⟨k, rfl⟩ : ∃ n, k = n + 1 := ⟨k - 1, by omega⟩
    simp only [capstanlaw06_PoolTells.l1]
    rw [if_neg (by omega)]
    exact hn k (by omega)
  | succ d ih =>
    intro k i x12 hi hx hk
    obtain ⟨k, rfl⟩ : ∃ n, k = n + 1 := ⟨k - 1, by omega⟩
    simp only [capstanlaw06_PoolTells.l1]
    rw [if_pos (by omega), if_pos (by omega), wrap64_id (by omega) (by omega)]
    exact ih k (i + 1) _ (by simp; omega) (by simpa using hx) (by omega)
theorem pbytes_length (l : List S35) : (pbytes l).1.length ≤ 300 := by
  unfold pbytes
  by_cases hm : pmay l = true
  · obtain ⟨h1, h2⟩ := pmay_iff.1 hm
    have := vflat_len h2
    rw [if_pos hm]
    simp only [List.length_cons]
    omega
  · rw [if_neg hm]; simp
theorem PT_l0 (l : List S35) (hl : l.length ≤ 1000) (v : S35) (r : Int) (hr : isFind l v r) (d : Nat) : ∀ (k : Nat) (x11 : Int), x11 + d = 2 → d ≤ 2 → 3000 * d + 3000 ≤ k →
    capstanlaw06_PoolTells.l0 k l l (pbytes l).1 (pbytes l).2 (addv l v r).1 (addv l v r).2.1 (addv l v r).2.2 x11 v.f0 v.f1 v.f2 = some true := by
  induction d with
  | zero =>
    intro k x11 h1 h2 hk
    obtain ⟨k, rfl⟩ : ∃ n, k = n + 1 := ⟨k - 1, by omega⟩
    simp only [capstanlaw06_PoolTells.l0]
    rw [if_neg (by omega)]
  | succ d ih =>
    intro k x11 h1 h2 hk
    obtain ⟨k, rfl⟩ : ∃ n, k = n + 2 := ⟨k - 2, by omega⟩
    have hA := addv_length l v r
    have hB := pbytes_length l
    have ht : (l ++ [(⟨77, 0, 0⟩ : S35)]).take l.length = l := List.take_left
    have hL : ((l ++ [(⟨77, 0, 0⟩ : S35)]).length : Int) = (l.length : Int) + 1 := by simp
    simp only [capstanlaw06_PoolTells.l0]
    rw [if_pos (by omega), pbytes_f l _ (by omega), Option.bind_some, copyV_f l (by omega), Option.bind_some, if_pos (by omega), Option.bind_some, if_pos (by omega), if_pos (by omega), Int.toNat_natCast, ht, add_f l v r hr _ (by omega), Option.bind_some]
    change (if (strOfNums (pbytes l).1).toList = (strOfNums (pbytes l).1).toList then (if (pbytes l).2 = (pbytes l).2 then ((capstanref03_Same.f (k + 1) (addv l v r).1 (addv l v r).1).bind _) else none) else none) = some true
    rw [if_pos rfl, if_pos rfl, same_f _ (by omega) _ (by omega), Option.bind_some, if_pos rfl]
    change (if (addv l v r).2.1 = (addv l v r).2.1 then (if (addv l v r).2.2 = (addv l v r).2.2 then _ else none) else none) = some true
    rw [if_pos rfl, if_pos rfl, same_f _ (by omega) _ (by omega), Option.bind_some, if_pos rfl, if_pos (by omega), rdT_at (by simp), List.getElem_concat_length (by rfl), show ((77 : Int) != 77) = false by decide]
    simp only [capstanlaw06_PoolTells.j2]
    rw [if_neg (by decide)]
    have h3 := PT_l2 l l (addv l v r).1 (l ++ [⟨77, 0, 0⟩]) (pbytes l).1 (pbytes l).2 (addv l v r).2.1 (addv l v r).2.2 x11 (x11 + 1) v.f0 v.f1 v.f2 ht hl (by simp) (wrap64_id (by omega) (by omega)) (3000 * d + 3000) (by omega) (fun k hk => ih k (x11 + 1) (by omega) (by omega) hk)
    have h4 := PT_l1 l l (addv l v r).1 (l ++ [⟨77, 0, 0⟩]) (addv l v r).1 (pbytes l).1 (pbytes l).2 (addv l v r).2.1 (addv l v r).2.2 x11 v.f0 v.f1 v.f2 (3000 * d + 4100) (fun k hk => h3 (addv l v r).1.length k 0 _ (by omega) (by omega) (by omega))
    exact h4 (pbytes l).1.length k 0 _ (by omega) (by omega) (by omega)
theorem PoolTells : capstanlaw06_PoolTells.Pure := by
  intro l a b c g _
  have ho : ∀ v ∈ l, vok v := fun v hv => wf_i64 (g.2 v hv).2.1
  refine ⟨10001, ?_⟩
  unfold capstanlaw06_PoolTells.f
  by_cases ll : (l.length : Int) > 1000
  · rw [if_pos ll]
  rw [if_neg ll]
  obtain ⟨r, h1, h2⟩ := find_f l (by omega) ⟨a, b, c⟩ 10001 (by omega)
  have h3 := refFind_f l (by omega) ⟨a, b, c⟩ r h2 10001 (by omega)
  have h4 := refAdd_f l (by omega) ⟨a, b, c⟩ r h2 10001 (by omega)
  dsimp only at h1 h3 h4
  rw [copyV_f l (by omega), Option.bind_some, refpbytes_f l ho (by omega) _ (by omega), Option.bind_some, h4, Option.bind_some, pmay_f _ _ (by omega), Option.bind_some, refpmay_f l (by omega) _ (by omega), Option.bind_some, if_neg (by simp), h1, Option.bind_some, h3, Option.bind_some]
  simp only [capstanlaw06_PoolTells.j0]
  rw [if_neg (by simp)]
  exact PT_l0 l (by omega) ⟨a, b, c⟩ r h2 2 10000 0 (by omega) (by omega) (by omega)
end Go.Proofs.Ytjnmomhkiknhdaa.Pure
