/- Layer 7 in plain terms: kinds, whether two heads are the same. -/
import Derived.Test.YtdbdajifalioiaaR6
import Derived.Test.YtdbdajifalioiaaR9
import Derived.Test.YtdbdajifalioiaaLib
namespace Go.Proofs.Ytdbdajifalioiaa.M
open Go.RowKit Go.Proofs.Ytdbdajifalioiaa.R Go.Proofs.YtdbdajifalioiaaW.PrintWords Go.Proofs.YtdbdajifalioiaaW.PrintLast Go.Proofs.YtdbdajifalioiaaW.PrintMore

/-- A local's kind. -/
def kd (x : Int) : Bool := decide (x = 1 ∨ x = 2 ∨ x = 3)
/-- May a head be? -/
def mmay (a b : List Int) (r fu st hp : Int) : Bool := decide (a.length + b.length ≤ 16 ∧ a.length ≤ 4) && (a.all kd && (b.all kd && decide ((r = 1 ∨ r = 2) ∧ 0 ≤ fu ∧ fu ≤ 1048576 ∧ 0 ≤ st ∧ st ≤ 256 ∧ 0 ≤ hp ∧ hp ≤ 1024)))
theorem mmay_iff {a b : List Int} {r fu st hp : Int} : mmay a b r fu st hp = true ↔ (a.length + b.length ≤ 16 ∧ a.length ≤ 4) ∧ a.all kd = true ∧ b.all kd = true ∧ (r = 1 ∨ r = 2) ∧ 0 ≤ fu ∧ fu ≤ 1048576 ∧ 0 ≤ st ∧ st ≤ 256 ∧ 0 ≤ hp ∧ hp ≤ 1024 := by
  unfold mmay
  rw [Bool.and_eq_true, Bool.and_eq_true, Bool.and_eq_true, decide_eq_true_eq, decide_eq_true_eq]
theorem sameK_l0 (x y : List Int) (hx : x.length ≤ 100000) (hy : x.length = y.length) (d : Nat) : ∀ (k i : Nat), i + d = x.length → d < k → capstanref07_SameKinds.l0 k x y i = some (decide (x.drop i = y.drop i)) := by
  induction d with
  | zero =>
    intro k i hi hk
    obtain ⟨k, rfl⟩ : ∃ n, k = n + 1 := ⟨k - 1, by omega⟩
    simp only [capstanref07_SameKinds.l0]
    rw [if_neg (by omega), List.drop_eq_nil_of_le (by omega), List.drop_eq_nil_of_le (by omega)]; rfl
  | succ d ih =>
    intro k i hi hk
    obtain ⟨k, rfl⟩ : ∃ n, k = n + 1 := ⟨k - 1, by omega⟩
    have hr := ih k (i + 1) (by omega) (by omega)
    simp only [capstanref07_SameKinds.l0]
    rw [if_pos (by omega), if_pos (by omega), if_pos (by omega), rd_at (by omega : i < x.length), rd_at (by omega : i < y.length), wrap64_id (by omega) (by omega), show ((i : Int) + 1) = ((i + 1 : Nat) : Int) by omega, hr, List.drop_eq_getElem_cons (by omega : i < x.length), List.drop_eq_getElem_cons (by omega : i < y.length)]
    by_cases h : x[i] = y[i]
    · rw [if_pos h]
      congr 1; rw [Bool.eq_iff_iff, decide_eq_true_eq, decide_eq_true_eq, List.cons.injEq]
      exact ⟨fun e => ⟨h, e⟩, fun e => e.2⟩
    · rw [if_neg h, decide_eq_false (fun c => h (List.cons.inj c).1)]
theorem sameK_f (x y : List Int) (hx : x.length ≤ 100000) (k : Nat) (hk : x.length < k) : capstanref07_SameKinds.f k x y = some (decide (x = y)) := by
  unfold capstanref07_SameKinds.f
  by_cases h : x.length = y.length
  · have hr := sameK_l0 x y hx h x.length k 0 (by omega) hk
    rw [if_pos (by omega)]
    exact hr
  · rw [if_neg (by omega), decide_eq_false (fun c => h (by rw [c]))]
/-- Are heads the same? -/
def msame (a b : List Int) (r : Int) (q : Bool) (fu st hp : Int) (a' b' : List Int) (r' : Int) (q' : Bool) (fu' st' hp' : Int) : Bool := decide (a = a') && (decide (b = b') && (r == r' && (q == q' && (fu == fu' && (st == st' && hp == hp')))))
theorem msame_iff {a b : List Int} {r : Int} {q : Bool} {fu st hp : Int} {a' b' : List Int} {r' : Int} {q' : Bool} {fu' st' hp' : Int} : msame a b r q fu st hp a' b' r' q' fu' st' hp' = true ↔ a = a' ∧ b = b' ∧ r = r' ∧ q = q' ∧ fu = fu' ∧ st = st' ∧ hp = hp' := by
  simp [msame]
theorem refSame7_f (a b : List Int) (r : Int) (q : Bool) (fu st hp : Int) (code : List S114) (a' b' : List Int) (r' : Int) (q' : Bool) (fu' st' hp' : Int) (code' : List S114) (ha : a.length ≤ 100) (hb : b.length ≤ 100) (k : Nat) (hk : 300 ≤ k) : capstanref07_Same.f k a b r q fu st hp code a' b' r' q' fu' st' hp' code' = some (msame a b r q fu st hp a' b' r' q' fu' st' hp') := by
  unfold capstanref07_Same.f msame
  rw [sameK_f a a' (by omega) k (by omega), Option.bind_some]
  by_cases h : a = a'
  · rw [if_pos (decide_eq_true h), sameK_f b b' (by omega) k (by omega), Option.bind_some, decide_eq_true h, Bool.true_and]
    by_cases h2 : b = b'
    · rw [if_pos (decide_eq_true h2), decide_eq_true h2, Bool.true_and]
      by_cases h3 : r = r' <;> by_cases h5 : fu = fu' <;> by_cases h6 : st = st' <;> cases h4 : (q == q') <;> simp [h3, h5, h6]
    · rw [if_neg (by simpa using h2), decide_eq_false h2, Bool.false_and]
  · rw [if_neg (by simpa using h), decide_eq_false h, Bool.false_and]
/-- A head's bytes. -/
def mhead (a b : List Int) (r : Int) (q : Bool) (fu st hp : Int) : List Int := (a.length : Int) :: (a ++ (b.length : Int) :: (b ++ [r, if q = true then 1 else 0] ++ (leb 3 fu ++ (leb 2 st ++ leb 2 hp))))
def mbytes (a b : List Int) (r : Int) (q : Bool) (fu st hp : Int) : List Int × Int := if mmay a b r fu st hp = true then (mhead a b r q fu st hp, 0) else ([], 70)
theorem mhead_isB {a b : List Int} {r : Int} {q : Bool} {fu st hp : Int} (h : mmay a b r fu st hp = true) (ha : isB a) (hb : isB b) : isB (mhead a b r q fu st hp) := by
  obtain ⟨h1, _, _, h4, _⟩ := mmay_iff.1 h
  unfold mhead
  refine isB_cons.2 ⟨by omega, isB_append.2 ⟨ha, isB_cons.2 ⟨by omega, isB_append.2 ⟨isB_append.2 ⟨hb, isB_cons.2 ⟨by omega, isB_cons.2 ⟨by split <;> omega, isB_nil⟩⟩⟩, isB_append.2 ⟨leb_isB _ _, isB_append.2 ⟨leb_isB _ _, leb_isB _ _⟩⟩⟩⟩⟩⟩
theorem mbytes_isB {a b : List Int} {r : Int} {q : Bool} {fu st hp : Int} (ha : isB a) (hb : isB b) : isB (mbytes a b r q fu st hp).1 := by
  unfold mbytes
  split
  · rename_i h; exact mhead_isB h ha hb
  · exact isB_nil
end Go.Proofs.Ytdbdajifalioiaa.M
