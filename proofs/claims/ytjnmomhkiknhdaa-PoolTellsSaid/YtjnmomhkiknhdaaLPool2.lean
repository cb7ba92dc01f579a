/- Layer 6 in plain terms: pools, their bytes, places, adding. -/
import Derived.Test.YtjnmomhkiknhdaaP4
import Derived.Test.YtjnmomhkiknhdaaP5
import Derived.Test.YtjnmomhkiknhdaaP6
import Derived.Test.YtjnmomhkiknhdaaLOddPool
import Derived.Test.YtjnmomhkiknhdaaLPool
namespace Go.Proofs.Ytjnmomhkiknhdaa.M
open Go.RowKit Go.Proofs.Ytjnmomhkiknhdaa.P Go.Proofs.YtjnmomhkiknhdaaW.PrintWords Go.Proofs.YtjnmomhkiknhdaaW.PrintLast Go.Proofs.YtjnmomhkiknhdaaW.PrintMore

def pmay (l : List S35) : Bool := decide (l.length ≤ 32) && l.all vmay
def pbytes (l : List S35) : List Int × Int := if pmay l = true then ((l.length : Int) :: vflat l, 0) else ([], 60)
theorem pmay_iff {l : List S35} : pmay l = true ↔ l.length ≤ 32 ∧ ∀ v ∈ l, vmay v = true := by
  unfold pmay
  rw [Bool.and_eq_true, decide_eq_true_eq, List.all_eq_true]
theorem pmay_f (l : List S35) (k : Nat) (hk : 40 ≤ k) : pool_May.f k l = some (pmay l) := by
  unfold pool_May.f pmay
  by_cases h : l.length ≤ 32
  · rw [if_pos (by omega), contf_f l (by omega) k (by omega), Option.bind_some, Bool.not_not, decide_eq_true h, Bool.true_and]
  · rw [if_neg (by omega), decide_eq_false h, Bool.false_and]
theorem pbytes_l0 (l : List S35) (hl : l.length ≤ 32) (hm : ∀ v ∈ l, vmay v = true) (d : Nat) : ∀ (k i : Nat) (acc : List Int), i + d = l.length → d + 20 ≤ k → acc.length ≤ 1000 * (i + 1) → pool_Bytes.l0 k acc l (l.length : Int) i = some (acc ++ vflat (l.drop i), 0) := by
  induction d with
  | zero =>
    intro k i acc hi hk ha
    obtain ⟨k, rfl⟩ : ∃ n, k = n + 1 := ⟨k - 1, by omega⟩
    simp only [pool_Bytes.l0]
    rw [if_neg (by omega), List.drop_eq_nil_of_le (by omega)]
    simp [vflat]
  | succ d ih =>
    intro k i acc hi hk ha
    obtain ⟨k, rfl⟩ : ∃ n, k = n + 1 := ⟨k - 1, by omega⟩
    have hv := hm l[i] (List.getElem_mem (by omega))
    have hn := vb_len hv
    simp only [pool_Bytes.l0]
    rw [if_pos (by omega), if_pos (by omega), if_pos (by omega), rdT_at (by omega), vbytes_f _ _ _ _ (by omega), Option.bind_some, vbytes_pair hv, if_pos rfl]
    dsimp only
    rw [if_pos (by omega), wrap64_id (by omega) (by omega)]
    rw [show ((i : Int) + 1) = ((i + 1 : Nat) : Int) by omega, ih k (i + 1) (acc ++ vb l[i]) (by omega) (by omega) (by rw [List.length_append]; omega), List.drop_eq_getElem_cons (by omega : i < l.length), vflat_cons, List.append_assoc]
theorem pbytes_f (l : List S35) (k : Nat) (hk : 80 ≤ k) : pool_Bytes.f k l = some (pbytes l) := by
  unfold pool_Bytes.f pbytes
  rw [pmay_f l k (by omega), Option.bind_some]
  by_cases h : pmay l = true
  · obtain ⟨h1, h2⟩ := pmay_iff.1 h
    rw [if_pos h, if_pos h, show ((l.length : Int)) % 256 = l.length by omega]
    have := pbytes_l0 l h1 h2 l.length k 0 [(l.length : Int)] (by omega) (by omega) (by simp)
    simpa using this
  · rw [if_neg h, if_neg h]
/-- Where a value stands first; -1: nowhere. -/
def isFind (l : List S35) (v : S35) (r : Int) : Prop := (r = -1 ∧ v ∉ l) ∨ ∃ n : Nat, r = n ∧ l[n]? = some v ∧ ∀ j, j < n → l[j]? ≠ some v
theorem veq_iff {a b c : Int} {v : S35} : (a == v.f0 && (b == v.f1 && (c == v.f2))) = true ↔ (⟨a, b, c⟩ : S35) = v := by
  cases v
  simp [Bool.and_eq_true, beq_iff_eq]
theorem index_l0 (l : List S35) (hl : l.length ≤ 140737488355328) (v : S35) (d : Nat) : ∀ (k i : Nat), i + d = l.length → d < k → (∀ j, j < i → l[j]? ≠ some v) → ∃ r, slices_Index_api_Value_api_Value.l0 k l (l.length : Int) i v.f0 v.f1 v.f2 = some r ∧ isFind l v r := by
  induction d with
  | zero =>
    intro k i hi hk hj
    obtain ⟨k, rfl⟩ : ∃ n, k = n + 1 := ⟨k - 1, by omega⟩
    simp only [slices_Index_api_Value_api_Value.l0]
    rw [if_neg (by omega)]
    refine ⟨-1, rfl, .inl ⟨rfl, fun hm => ?_⟩⟩
    obtain ⟨n, hn⟩ := List.mem_iff_getElem?.1 hm
    obtain ⟨hlt, _⟩ := List.getElem?_eq_some_iff.1 hn
    exact hj n (by omega) hn
  | succ d ih =>
    intro k i hi hk hj
    obtain ⟨k, rfl⟩ : ∃ n, k = n + 1 := ⟨k - 1, by omega⟩
    simp only [slices_Index_api_Value_api_Value.l0]
    rw [if_pos (by omega), if_pos (by omega), if_pos (by omega), rdT_at (by omega)]
    by_cases h : (v.f0 == (l[i]).f0 && (v.f1 == (l[i]).f1 && (v.f2 == (l[i]).f2))) = true
    · rw [if_pos h]
      have e : v = l[i] := veq_iff.1 h
      exact ⟨(i : Int), rfl, .inr ⟨i, rfl, by rw [List.getElem?_eq_getElem (by omega)]; exact congrArg some e.symm, hj⟩⟩
    · rw [if_neg h, wrap64_id (by omega) (by omega)]
      refine ih k (i + 1) (by omega) (by omega) (fun j hlt => ?_)
      rcases Nat.lt_or_ge j i with hc | hc
      · exact hj j hc
      · obtain rfl : j = i := by omega
        rw [List.getElem?_eq_getElem (by omega)]
        intro e
        exact h (veq_iff.2 (Option.some.inj e).symm)
theorem find_f (l : List S35) (hl : l.length ≤ 140737488355328) (v : S35) (k : Nat) (hk : l.length < k) : ∃ r, pool_Find.f k l v.f0 v.f1 v.f2 = some r ∧ isFind l v r := by
  obtain ⟨r, h1, h2⟩ := index_l0 l hl v l.length k 0 (by omega) hk (fun j hj => by omega)
  refine ⟨r, ?_, h2⟩
  unfold pool_Find.f slices_Index_api_Value_api_Value.f
  rw [show slices_Index_api_Value_api_Value.l0 k l (l.length : Int) 0 v.f0 v.f1 v.f2 = some r from h1]; rfl
theorem isFind_uniq {l : List S35} {v : S35} {r s : Int} (h : isFind l v r) (h' : isFind l v s) : r = s := by
  rcases h with ⟨rfl, hn⟩ | ⟨n, rfl, hv, hl⟩ <;> rcases h' with ⟨rfl, hn'⟩ | ⟨m, rfl, hv', hl'⟩
  · rfl
  · exact absurd (List.mem_iff_getElem?.2 ⟨m, hv'⟩) hn
  · exact absurd (List.mem_iff_getElem?.2 ⟨n, hv⟩) hn'
  · rcases Nat.lt_trichotomy n m with h | h | h
    · exact absurd hv (hl' n h)
    · rw [h]
    · exact absurd hv' (hl m h)
theorem add_f (l : List S35) (v : S35) (r : Int) (hr : isFind l v r) (k : Nat) (hk : 80 ≤ k) : pool_Add.f k l v.f0 v.f1 v.f2 = some (if pmay l = true then (if r ≥ 0 then (l, r, 0) else if pmay (l ++ [v]) = true then (l ++ [v], (l.length : Int), 0) else ([], 0, 60)) else ([], 0, 60)) := by
  unfold pool_Add.f
  rw [pmay_f l k (by omega), Option.bind_some]
  by_cases h : pmay l = true
  · have hn := (pmay_iff.1 h).1
    obtain ⟨s, h1, h2⟩ := find_f l (by omega) v k (by omega)
    obtain rfl := isFind_uniq hr h2
    rw [if_pos h, if_pos h, h1, Option.bind_some]
    by_cases h3 : r ≥ 0
    · rw [if_pos h3, if_pos h3]
      unfold slices_Clone_api_Value_api_Value.f
      rw [if_pos (by omega), Option.bind_some]
    · rw [if_neg h3, if_neg h3]
      unfold pool_joined.f
      rw [if_pos ⟨by simp, by simp; omega⟩, Option.bind_some, pmay_f _ k (by omega), Option.bind_some]
      by_cases h4 : pmay (l ++ [v]) = true
      · rw [if_pos h4, if_pos h4]
      · rw [if_neg h4, if_neg h4]
  · rw [if_neg h, if_neg h]
theorem pbytes_ok {l : List S35} (h : (pbytes l).2 = 0) : pmay l = true ∧ pbytes l = ((l.length : Int) :: vflat l, 0) := by
  unfold pbytes at h ⊢
  by_cases hm : pmay l = true
  · rw [if_pos hm]; exact ⟨hm, rfl⟩
  · rw [if_neg hm] at h; cases h
theorem pbytes_isB (l : List S35) : isB (pbytes l).1 := by
  unfold pbytes
  by_cases hm : pmay l = true
  · rw [if_pos hm]
    have := (pmay_iff.1 hm).1
    exact isB_cons.2 ⟨by omega, vflat_isB l⟩
  · rw [if_neg hm]; exact isB_nil
theorem get_head (x y : List Int) (n : Int) (hn : 0 ≤ n ∧ n ≤ 255) (hx : isB x) (hy : isB y) : get (x ++ n :: y) x.length 1 = (n, (x.length : Int) + 1, 0) := by
  have hb : isB (x ++ n :: y) := isB_append.2 ⟨hx, isB_cons.2 ⟨hn, hy⟩⟩
  have hL : (x ++ n :: y).length = x.length + 1 + y.length := by simp; omega
  rw [get_one hb, if_neg (by omega), if_neg (by omega), rd_mid]
theorem poolread_put {l : List S35} (h : pmay l = true) (ho : ∀ v ∈ l, vok v) (x y : List Int) (hx : isB x) (hy : isB y) : poolread (x ++ (pbytes l).1 ++ y) x.length = (l, (x.length : Int) + (pbytes l).1.length, 0) := by
  obtain ⟨h1, h2⟩ := pmay_iff.1 h
  have e : (pbytes l).1 = (l.length : Int) :: vflat l := by unfold pbytes; rw [if_pos h]
  have e2 : x ++ (l.length : Int) :: vflat l ++ y = x ++ (l.length : Int) :: (vflat l ++ y) := by simp
  have hp := pread_put l (fun v hv => ⟨h2 v hv, ho v hv⟩) (x ++ [(l.length : Int)]) y []
  rw [e, e2]
  unfold poolread
  rw [get_head x (vflat l ++ y) l.length (by omega) hx (isB_append.2 ⟨vflat_isB l, hy⟩)]
  dsimp only
  rw [if_pos rfl, if_neg (by omega), Int.toNat_natCast]
  rw [show x ++ (l.length : Int) :: (vflat l ++ y) = x ++ [(l.length : Int)] ++ vflat l ++ y by simp, show (x.length : Int) + 1 = ((x ++ [(l.length : Int)]).length : Int) by simp, hp]
  simp [Int.add_assoc, Int.add_comm]
theorem poolread_short {l : List S35} (h : pmay l = true) (ho : ∀ v ∈ l, vok v) : (poolread ((pbytes l).1.take ((pbytes l).1.length - 1)) 0).2.2 = 10 := by
  obtain ⟨h1, h2⟩ := pmay_iff.1 h
  have e : (pbytes l).1 = (l.length : Int) :: vflat l := by unfold pbytes; rw [if_pos h]
  rw [e]
  cases l with
  | nil =>
    decide
  | cons v l =>
    have hf := vflat_len h2
    rw [List.length_cons] at hf
    have hp := pread_short (v :: l) (by simp) (fun v hv => ⟨h2 v hv, ho v hv⟩) [((v :: l).length : Int)] []
    have e2 : (((v :: l).length : Int) :: vflat (v :: l)).take ((((v :: l).length : Int) :: vflat (v :: l)).length - 1) = [((v :: l).length : Int)] ++ (vflat (v :: l)).take ((vflat (v :: l)).length - 1) := by
      rw [List.length_cons, Nat.add_sub_cancel, show (vflat (v :: l)).length = ((vflat (v :: l)).length - 1) + 1 by omega, List.take_succ_cons, Nat.add_sub_cancel]; rfl
    rw [e2]
    unfold poolread
    have hg := get_head [] ((vflat (v :: l)).take ((vflat (v :: l)).length - 1)) ((v :: l).length : Int) (by omega) isB_nil (isB_take _ (vflat_isB _))
    rw [List.nil_append] at hg
    have hg2 : get (((v :: l).length : Int) :: (vflat (v :: l)).take ((vflat (v :: l)).length - 1)) 0 1 = (((v :: l).length : Int), 1, 0) := hg
    rw [show [((v :: l).length : Int)] ++ (vflat (v :: l)).take ((vflat (v :: l)).length - 1) = ((v :: l).length : Int) :: (vflat (v :: l)).take ((vflat (v :: l)).length - 1) from rfl, hg2]
    dsimp only
    rw [if_pos rfl, if_neg (by omega), Int.toNat_natCast]
    exact congrArg (fun z => z.2.2) hp
theorem poolread_back {l : List Int} (hb : isB l) (a : Int) : ((poolread l a).2.2 ≠ 0 ∧ (poolread l a).1 = [] ∧ (poolread l a).2.1 = 0) ∨ ((poolread l a).2.2 = 0 ∧ pmay (poolread l a).1 = true ∧ 0 ≤ a ∧ a ≤ (poolread l a).2.1 ∧ (poolread l a).2.1 ≤ l.length ∧ (pbytes (poolread l a).1) = (piece l a ((poolread l a).2.1 - a), 0)) := by
  unfold poolread
  rw [get_one hb]
  by_cases h1 : a < 0 ∨ a > (l.length : Int)
  · rw [if_pos h1, if_neg (by decide)]; exact .inl ⟨by decide, rfl, rfl⟩
  rw [if_neg h1]
  by_cases h2 : (l.length : Int) - a < 1
  · rw [if_pos h2, if_neg (by decide)]; exact .inl ⟨by decide, rfl, rfl⟩
  rw [if_neg h2, if_pos rfl]
  dsimp only
  have hq := isB_rd hb a
  by_cases h3 : rd l a > 32
  · rw [if_pos h3]; exact .inl ⟨by decide, rfl, rfl⟩
  rw [if_neg h3]
  rcases pread_back hb (rd l a).toNat (a + 1) [] (by omega) (by omega) with h | ⟨m, g1, g2, g3, g4, g5, g6⟩
  · exact .inl h
  · have gm : pmay m = true := pmay_iff.2 ⟨by omega, g3⟩
    rw [g1]
    refine .inr ⟨rfl, gm, by omega, by dsimp only; omega, g5, ?_⟩
    dsimp only
    rw [List.nil_append]
    unfold pbytes
    rw [if_pos gm, g6, g2, show ((rd l a).toNat : Int) = rd l a by omega]
    have hj := piece_join l a 1 ((pread l (rd l a).toNat (a + 1) []).2.1 - (a + 1)) (by omega) (by omega) (by omega)
    rw [piece_one (by omega) (by omega)] at hj
    rw [show (pread l (rd l a).toNat (a + 1) []).2.1 - a = 1 + ((pread l (rd l a).toNat (a + 1) []).2.1 - (a + 1)) by omega, ← hj]
    rfl
end Go.Proofs.Ytjnmomhkiknhdaa.M
