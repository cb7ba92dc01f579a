/- Layer 18 in plain terms: states, their bytes, and back. -/
import Derived.Test.YtjidhcepdjdceaaDoorP2
import Derived.Test.YtjidhcepdjdceaaDoorP3
import Derived.Test.YtjidhcepdjdceaaDoorP4
import Derived.Test.YtjidhcepdjdceaaDoorP5
import Derived.Test.YtjidhcepdjdceaaDoorLOddState
import Derived.Test.YtjidhcepdjdceaaDoorLStr
namespace Go.Proofs.YtjidhcepdjdceaaDoor.M
open Go.RowKit Go.Proofs.YtjidhcepdjdceaaDoor.P Go.Proofs.YtjidhcepdjdceaaDoorW.PrintWords Go.Proofs.YtjidhcepdjdceaaDoorW.PrintLast Go.Proofs.YtjidhcepdjdceaaDoorW.PrintMore

def smay (l : List S37) : Bool := decide (l.length ≤ 4) && l.all vmay
def sbytes (l : List S37) : List Int × Int := if smay l = true then ((l.length : Int) :: vflat l, 0) else ([], 180)
theorem smay_iff {l : List S37} : smay l = true ↔ l.length ≤ 4 ∧ ∀ v ∈ l, vmay v = true := by
  unfold smay
  rw [Bool.and_eq_true, decide_eq_true_eq, List.all_eq_true]
theorem smay_f (l : List S37) (k : Nat) (hk : 40 ≤ k) : state_May.f k l = some (smay l) := by
  unfold state_May.f smay
  by_cases h : l.length ≤ 4
  · rw [if_pos (by omega), contf_f l (by omega) k (by omega), Option.bind_some, Bool.not_not, decide_eq_true h, Bool.true_and]
  · rw [if_neg (by omega), decide_eq_false h, Bool.false_and]
theorem sbytes_l0 (l : List S37) (hl : l.length ≤ 4) (hm : ∀ v ∈ l, vmay v = true) (d : Nat) : ∀ (k i : Nat) (acc : List Int), i + d = l.length → d + 20 ≤ k → acc.length ≤ 1000 * (i + 1) → state_Bytes.l0 k acc l (l.length : Int) i = some (acc ++ vflat (l.drop i), 0) := by
  induction d with
  | zero =>
    intro k i acc hi hk ha
    obtain ⟨k, rfl⟩ : ∃ n, k = n + 1 := ⟨k - 1, by omega⟩
    simp only [state_Bytes.l0]
    rw [if_neg (by omega), List.drop_eq_nil_of_le (by omega)]
    simp [vflat]
  | succ d ih =>
    intro k i acc hi hk ha
    obtain ⟨k, rfl⟩ : ∃ n, k = n + 1 := ⟨k - 1, by omega⟩
    have hv := hm l[i] (List.getElem_mem (by omega))
    have hn := vb_len hv
    simp only [state_Bytes.l0]
    rw [if_pos (by omega), if_pos (by omega), if_pos (by omega), rdT_at (by omega), vbytes_f _ _ _ _ (by omega), Option.bind_some, vbytes_pair hv]
    dsimp only
    rw [if_pos (by omega), wrap64_id (by omega) (by omega)]
    rw [show ((i : Int) + 1) = ((i + 1 : Nat) : Int) by omega, ih k (i + 1) (acc ++ vb l[i]) (by omega) (by omega) (by rw [List.length_append]; omega), List.drop_eq_getElem_cons (by omega : i < l.length), vflat_cons, List.append_assoc]
theorem put_one (n : Int) (h : 0 ≤ n ∧ n ≤ 255) : put 1 n = ([n], 0) := by
  unfold put
  rw [if_neg (by omega), if_pos ⟨h.1, .inr (by rw [show ((1 : Int).toNat) = 1 from rfl, show (256 : Int) ^ 1 = 256 from by decide]; omega)⟩]
  simp only [show ((1 : Int).toNat) = 1 from rfl, leb]
  rw [show n % 256 = n by omega]
theorem sbytes_f (l : List S37) (k : Nat) (hk : 60 ≤ k) : state_Bytes.f k l = some (sbytes l) := by
  unfold state_Bytes.f sbytes
  rw [smay_f l k (by omega), Option.bind_some]
  by_cases h : smay l = true
  · obtain ⟨h1, h2⟩ := smay_iff.1 h
    rw [if_pos h, if_pos h, put_f _ _ _ (by omega), Option.bind_some, put_one _ (by omega)]
    have := sbytes_l0 l h1 h2 l.length k 0 [(l.length : Int)] (by omega) (by omega) (by simp)
    simpa using this
  · rw [if_neg h, if_neg h]
theorem sbytes_isB (l : List S37) : isB (sbytes l).1 := by
  unfold sbytes
  by_cases hm : smay l = true
  · rw [if_pos hm]
    have := (smay_iff.1 hm).1
    exact isB_cons.2 ⟨by omega, vflat_isB l⟩
  · rw [if_neg hm]; exact isB_nil
theorem sbytes_ok {l : List S37} (h : (sbytes l).2 = 0) : smay l = true ∧ sbytes l = ((l.length : Int) :: vflat l, 0) := by
  unfold sbytes at h ⊢
  by_cases hm : smay l = true
  · rw [if_pos hm]; exact ⟨hm, rfl⟩
  · rw [if_neg hm] at h; cases h
/-- What has been read is a state's: its own bytes are all of them. -/
def sfin (l : List Int) (p : List S37 × Int × Int) : List S37 × Int := if p.2.2 = 0 then (if (sbytes p.1).2 = 0 ∧ (sbytes p.1).1 = l then (p.1, 0) else ([], 180)) else ([], 180)
def sparse (l : List Int) : List S37 × Int := if (get l 0 1).2.2 = 0 ∧ (get l 0 1).1 ≤ 4 then sfin l (pread l (get l 0 1).1.toNat (get l 0 1).2.1 []) else ([], 180)
theorem sparse_l0 (l : List Int) (hb : isB l) (hl : l.length ≤ 140737488355327) (d : Nat) : ∀ (k i : Nat) (a : Int) (acc : List S37) (m : Int), acc.length = i → m = i + d → m ≤ 4 → d + 100 ≤ k → state_Parse.l0 k l a acc m i = some (sfin l (pread l d a acc)) := by
  induction d with
  | zero =>
    intro k i a acc m hi hm hm2 hk
    obtain ⟨k, rfl⟩ : ∃ n, k = n + 1 := ⟨k - 1, by omega⟩
    simp only [state_Parse.l0]
    have e : sfin l (pread l 0 a acc) = if (sbytes acc).2 = 0 ∧ (sbytes acc).1 = l then (acc, 0) else ([], 180) := by
      rw [show pread l 0 a acc = (acc, a, 0) from rfl]
      unfold sfin
      dsimp only
      rw [if_pos rfl]
    rw [e, if_neg (by omega), sbytes_f _ _ (by omega), Option.bind_some]
    by_cases h : (sbytes acc).2 = 0
    · unfold bytes_Equal.f
      rw [if_pos h, Option.bind_some, str_beq (sbytes_isB _) hb]
      by_cases h2 : (sbytes acc).1 = l
      · rw [if_pos (decide_eq_true h2), if_pos ⟨h, h2⟩]
      · rw [if_neg (by simpa using h2), if_neg (fun c => h2 c.2)]
    · rw [if_neg h, if_neg (fun c => h c.1)]
  | succ d ih =>
    intro k i a acc m hi hm hm2 hk
    obtain ⟨k, rfl⟩ : ∃ n, k = n + 1 := ⟨k - 1, by omega⟩
    simp only [state_Parse.l0, pread]
    rw [if_pos (by omega), vread_f l hb hl a k (by omega), Option.bind_some]
    by_cases h : (vread l a).2.2.2.2 = 0
    · rw [if_pos h, if_pos h, if_pos (by omega), wrap64_id (by omega) (by omega)]
      exact ih k (i + 1) _ _ m (by simp [hi]) (by omega) hm2 (by omega)
    · rw [if_neg h, if_neg h]
      unfold sfin
      rw [if_neg h]
theorem sparse_f (l : List Int) (hb : isB l) (hl : l.length ≤ 140737488355327) (k : Nat) (hk : 120 ≤ k) : state_Parse.f k l = some (sparse l) := by
  have h0 : 0 ≤ (get l 0 1).1 := by
    rw [get_one hb]
    have := isB_rd hb 0
    split
    · exact Int.le_refl _
    · split
      · exact Int.le_refl _
      · exact this.1
  obtain ⟨k, rfl⟩ : ∃ n, k = n + 1 := ⟨k - 1, by omega⟩
  unfold state_Parse.f sparse
  rw [get_f l hb (by omega) 0 1 _ (by omega), Option.bind_some]
  by_cases h : (get l 0 1).2.2 = 0
  · rw [if_pos h]
    simp only [state_Parse.j0]
    by_cases h2 : (get l 0 1).1 > 4
    · rw [if_pos (decide_eq_true h2), if_neg (by omega)]
    · rw [if_neg (by simpa using h2), if_pos ⟨h, by omega⟩]
      exact sparse_l0 l hb hl (get l 0 1).1.toNat k 0 _ [] _ rfl (by omega) (by omega) (by omega)
  · rw [if_neg h, if_neg (fun c => h c.1)]
    simp only [state_Parse.j0]
    rw [if_pos trivial]
theorem sparse_back (l : List Int) : ((sparse l).2 = 180 ∧ (sparse l).1 = []) ∨ ((sparse l).2 = 0 ∧ smay (sparse l).1 = true ∧ sbytes (sparse l).1 = (l, 0)) := by
  unfold sparse
  split
  · unfold sfin
    split
    · split
      · rename_i h
        exact .inr ⟨rfl, (sbytes_ok h.1).1, Prod.ext h.2 h.1⟩
      · exact .inl ⟨rfl, rfl⟩
    · exact .inl ⟨rfl, rfl⟩
  · exact .inl ⟨rfl, rfl⟩
theorem get_head0 (y : List Int) (n : Int) (hn : 0 ≤ n ∧ n ≤ 255) (hy : isB y) : get (n :: y) 0 1 = (n, 1, 0) := by
  rw [get_one (isB_cons.2 ⟨hn, hy⟩), if_neg (by simp; omega), if_neg (by simp; omega)]
  rfl
theorem sparse_put {l : List S37} (h : smay l = true) (ho : ∀ v ∈ l, vok v) (y : List Int) (hy : isB y) : sparse ((sbytes l).1 ++ y) = if y = [] then (l, 0) else ([], 180) := by
  obtain ⟨h1, h2⟩ := smay_iff.1 h
  have e : sbytes l = ((l.length : Int) :: vflat l, 0) := by unfold sbytes; rw [if_pos h]
  have hp : pread ((l.length : Int) :: (vflat l ++ y)) l.length 1 [] = (l, _, 0) := pread_put l (fun v hv => ⟨h2 v hv, ho v hv⟩) [(l.length : Int)] y []
  unfold sparse
  rw [e]
  dsimp only
  rw [List.cons_append, get_head0 _ _ (by omega) (isB_append.2 ⟨vflat_isB l, hy⟩), if_pos ⟨rfl, by dsimp only; omega⟩]
  dsimp only
  rw [Int.toNat_natCast, hp]
  unfold sfin
  dsimp only
  rw [if_pos rfl, e]
  by_cases hy0 : y = []
  · subst hy0
    rw [if_pos ⟨rfl, by simp⟩, if_pos rfl]
  · rw [if_neg (fun c => hy0 (by simpa using c.2)), if_neg hy0]
theorem sparse_short {l : List S37} (h : smay l = true) (ho : ∀ v ∈ l, vok v) : sparse ((sbytes l).1.take ((sbytes l).1.length - 1)) = ([], 180) := by
  obtain ⟨h1, h2⟩ := smay_iff.1 h
  have e : (sbytes l).1 = (l.length : Int) :: vflat l := by unfold sbytes; rw [if_pos h]
  rw [e]
  cases l with
  | nil => rfl
  | cons v l =>
    have hf := vflat_len h2
    rw [List.length_cons] at hf
    have hp : pread (((v :: l).length : Int) :: (vflat (v :: l)).take ((vflat (v :: l)).length - 1)) (v :: l).length 1 [] = ([], 0, 10) := pread_short (v :: l) (by simp) (fun v hv => ⟨h2 v hv, ho v hv⟩) [((v :: l).length : Int)] []
    have e2 : (((v :: l).length : Int) :: vflat (v :: l)).take ((((v :: l).length : Int) :: vflat (v :: l)).length - 1) = ((v :: l).length : Int) :: (vflat (v :: l)).take ((vflat (v :: l)).length - 1) := by
      rw [List.length_cons, Nat.add_sub_cancel, show (vflat (v :: l)).length = ((vflat (v :: l)).length - 1) + 1 by omega, List.take_succ_cons, Nat.add_sub_cancel]
    rw [e2]
    unfold sparse
    rw [get_head0 _ _ (by omega) (isB_take _ (vflat_isB _)), if_pos ⟨rfl, by dsimp only; omega⟩]
    dsimp only
    rw [Int.toNat_natCast, hp]
    rfl
theorem same17_l0 (x : List S37) (hx : x.length ≤ 100000) (d : Nat) : ∀ (k i : Nat), i + d = x.length → d < k → capstanref17_Same.l0 k x x i = some true := by
  induction d with
  | zero =>
    intro k i hi hk
    obtain ⟨k, rfl⟩ : ∃ n, k = n + 1 := ⟨k - 1, by omega⟩
    simp only [capstanref17_Same.l0]
    rw [if_neg (by omega)]
  | succ d ih =>
    intro k i hi hk
    obtain ⟨k, rfl⟩ : ∃ n, k = n + 1 := ⟨k - 1, by omega⟩
    simp only [capstanref17_Same.l0]
    rw [if_pos (by omega), if_pos (by omega), if_pos (by omega), if_neg (by simp), wrap64_id (by omega) (by omega)]
    exact ih k (i + 1) (by omega) (by omega)
theorem same17_f (x : List S37) (hx : x.length ≤ 100000) (k : Nat) (hk : x.length < k) : capstanref17_Same.f k x x = some true := by
  have h := same17_l0 x hx x.length k 0 (by omega) hk
  unfold capstanref17_Same.f
  simpa using h
theorem stawake_f (k : Nat) (hk : 200 ≤ k) : capstanlaw18_awake.f k = some true := by
  obtain ⟨d, rfl⟩ := Nat.exists_eq_add_of_le hk
  induction d with
  | zero => decide +kernel
  | succ d ih => exact capstanlaw18_awake.mono _ _ (ih (by omega))
end Go.Proofs.YtjidhcepdjdceaaDoor.M
