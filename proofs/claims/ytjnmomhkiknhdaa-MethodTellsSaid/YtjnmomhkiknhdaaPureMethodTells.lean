/- MethodTells: a head may be, may migrate, has the kinds, the zero values, the bytes that the chapter says; whether values fit it, whether another is the same. -/
import Derived.Test.YtjnmomhkiknhdaaT3
import Derived.Test.YtjnmomhkiknhdaaT17
import Derived.Test.YtjnmomhkiknhdaaT18
import Derived.Test.YtjnmomhkiknhdaaLMethod
import Derived.Test.YtjnmomhkiknhdaaLStr
namespace Go.Proofs.Ytjnmomhkiknhdaa.Pure
open Go.RowKit Go.Proofs.Ytjnmomhkiknhdaa.T Go.Proofs.Ytjnmomhkiknhdaa.M Go.Proofs.YtjnmomhkiknhdaaW.PrintWords Go.Proofs.YtjnmomhkiknhdaaW.PrintLast Go.Proofs.YtjnmomhkiknhdaaW.PrintMore

section
variable (W : List Int) (e t : Int) (a b : List Int) (r : Int) (q : Bool) (fu st hp : Int) (code : List S130)
theorem mt_l3 (d : Nat) : ∀ (k i : Nat) (z : List S35), i + d = z.length → z.length ≤ 100000 → capstanlaw07_MethodTells.l3 (k + d + 1) W e t z i a b r q fu st hp code a b r q fu st hp code = capstanlaw07_MethodTells.l0 k W e (wrap64 (t + 1)) a b r q fu st hp code a b r q fu st hp code := by
  induction d with
  | zero =>
    intro k i z hi hz
    simp only [capstanlaw07_MethodTells.l3]
    rw [if_neg (by omega)]
  | succ d ih =>
    intro k i z hi hz
    rw [show k + (d + 1) + 1 = (k + d + 1) + 1 from rfl]
    conv => lhs; unfold capstanlaw07_MethodTells.l3
    rw [if_pos (by omega), if_pos (by omega), wrap64_id (x := (i : Int) + 1) (by omega) (by omega)]
    exact ih k (i + 1) _ (by simp; omega) (by simpa using hz)
theorem mt_l2 (d : Nat) : ∀ (k i : Nat) (y : List Int) (z : List S35), i + d = y.length → y.length ≤ 100000 → capstanlaw07_MethodTells.l2 (k + d + 1) W e t y z i a b r q fu st hp code a b r q fu st hp code = capstanlaw07_MethodTells.l3 k W e t z 0 a b r q fu st hp code a b r q fu st hp code := by
  induction d with
  | zero =>
    intro k i y z hi hz
    conv => lhs; unfold capstanlaw07_MethodTells.l2
    rw [if_neg (by omega)]
  | succ d ih =>
    intro k i y z hi hz
    rw [show k + (d + 1) + 1 = (k + d + 1) + 1 from rfl]
    conv => lhs; unfold capstanlaw07_MethodTells.l2
    rw [if_pos (by omega), if_pos (by omega), wrap64_id (x := (i : Int) + 1) (by omega) (by omega)]
    exact ih k (i + 1) _ z (by simp; omega) (by simpa using hz)
theorem mt_l1 (d : Nat) : ∀ (k i : Nat) (x y : List Int) (z : List S35), i + d = x.length → x.length ≤ 100000 → capstanlaw07_MethodTells.l1 (k + d + 1) W e t x y z i a b r q fu st hp code a b r q fu st hp code = capstanlaw07_MethodTells.l2 k W e t y z 0 a b r q fu st hp code a b r q fu st hp code := by
  induction d with
  | zero =>
    intro k i x y z hi hz
    conv => lhs; unfold capstanlaw07_MethodTells.l1
    rw [if_neg (by omega)]
  | succ d ih =>
    intro k i x y z hi hz
    rw [show k + (d + 1) + 1 = (k + d + 1) + 1 from rfl]
    conv => lhs; unfold capstanlaw07_MethodTells.l1
    rw [if_pos (by omega), if_pos (by omega), wrap64_id (x := (i : Int) + 1) (by omega) (by omega)]
    exact ih k (i + 1) _ y z (by simp; omega) (by simpa using hz)
end
theorem mtsame_l0 (x : List S35) (hx : x.length ≤ 100000) (d : Nat) : ∀ (k i : Nat), i + d = x.length → d < k → capstanref03_Same.l0 k x x i = some true := by
  induction d with
  | zero =>
    intro k i hi hk
    obtain ⟨k, rfl⟩ : ∃ n, k = n + 1 := ⟨k - 1, by omega⟩
    simp only [capstanref03_Same.l0]
    rw [if_neg (by omega)]
  | succ d ih =>
    intro k i hi hk
    obtain ⟨k, rfl⟩ : ∃ n, k = n + 1 := ⟨k - 1, by omega⟩
    simp only [capstanref03_Same.l0]
    rw [if_pos (by omega), if_pos (by omega), if_pos (by omega), if_neg (by simp), wrap64_id (by omega) (by omega)]
    exact ih k (i + 1) (by omega) (by omega)
theorem mtsame_f (x : List S35) (hx : x.length ≤ 100000) (k : Nat) (hk : x.length < k) : capstanref03_Same.f k x x = some true := by
  have := mtsame_l0 x hx x.length k 0 (by omega) hk
  unfold capstanref03_Same.f
  rw [if_pos rfl]
  exact this
theorem mhead_length (a b : List Int) (r : Int) (q : Bool) (fu st hp : Int) : (mhead a b r q fu st hp).length = a.length + b.length + 11 := by
  unfold mhead
  simp [leb_length]
  omega
/-- One turn. -/
theorem mt_turn (t : Int) (ht : t < 2) (a b : List Int) (r : Int) (q : Bool) (fu st hp : Int) (code : List S130) (ha : a.length ≤ 100) (hb : b.length ≤ 100) (k : Nat) (hk : 1000 ≤ k) :
    capstanlaw07_MethodTells.l0 (k + (mzeros a b r fu st hp).1.length + 1 + (a ++ b).length + 1 + (mbytes a b r q fu st hp).1.length + 1 + 1 + 1) (mbytes a b r q fu st hp).1 (mbytes a b r q fu st hp).2 t a b r q fu st hp code a b r q fu st hp code = capstanlaw07_MethodTells.l0 k (mbytes a b r q fu st hp).1 (mbytes a b r q fu st hp).2 (wrap64 (t + 1)) a b r q fu st hp code a b r q fu st hp code := by
  have hz : (mzeros a b r fu st hp).1.length ≤ 100 := by
    unfold mzeros; split
    · simpa using hb
    · simp
  have hy : (mbytes a b r q fu st hp).1.length ≤ 1000 := by
    unfold mbytes; split
    · dsimp only; rw [mhead_length]; omega
    · simp
  conv => lhs; unfold capstanlaw07_MethodTells.l0
  rw [if_pos ht, mBytes_f a b r q fu st hp code ha hb _ (by omega), Option.bind_some, mKinds_f a b r q fu st hp code (by omega) (by omega) _ (by omega), Option.bind_some, mZeros_f a b r q fu st hp code ha hb _ (by omega), Option.bind_some, refZeros7_f a b r q fu st hp code ha hb _ (by omega), Option.bind_some, if_pos rfl, if_pos rfl, refKinds7_f a b r q fu st hp code ha hb, Option.bind_some, sameK_f _ _ (by simp; omega) _ (by simp; omega), Option.bind_some, decide_eq_true rfl, if_pos rfl, mtsame_f _ (by omega) _ (by omega), Option.bind_some, if_pos rfl, if_neg (by simp), refSame7_f a b r q fu st hp code a b r q fu st hp code ha hb _ (by omega), Option.bind_some, show msame a b r q fu st hp a b r q fu st hp = true from msame_iff.2 ⟨rfl, rfl, rfl, rfl, rfl, rfl, rfl⟩]
  conv => lhs; unfold capstanlaw07_MethodTells.j3
  rw [if_neg (by decide)]
  have h1 := mt_l1 (mbytes a b r q fu st hp).1 (mbytes a b r q fu st hp).2 t a b r q fu st hp code (mbytes a b r q fu st hp).1.length (k + (mzeros a b r fu st hp).1.length + 1 + (a ++ b).length + 1) 0 (mbytes a b r q fu st hp).1 (a ++ b) (mzeros a b r fu st hp).1 (by omega) (by omega)
  have h2 := mt_l2 (mbytes a b r q fu st hp).1 (mbytes a b r q fu st hp).2 t a b r q fu st hp code (a ++ b).length (k + (mzeros a b r fu st hp).1.length + 1) 0 (a ++ b) (mzeros a b r fu st hp).1 (by omega) (by simp; omega)
  have h3 := mt_l3 (mbytes a b r q fu st hp).1 (mbytes a b r q fu st hp).2 t a b r q fu st hp code (mzeros a b r fu st hp).1.length k 0 (mzeros a b r fu st hp).1 (by omega) (by omega)
  exact (h1.trans h2).trans h3
theorem MethodTells : capstanlaw07_MethodTells.Pure := by
  intro a b r q fu st hp code a' b' r' q' fu' st' hp' code' x w w' wx
  obtain ⟨M, hM⟩ : ∃ M : Nat, M = (mzeros a b r fu st hp).1.length + 1 + (a ++ b).length + 1 + (mbytes a b r q fu st hp).1.length + 1 + 1 + 1 := ⟨_, rfl⟩
  refine ⟨1000 + M + M + 1 + 1, ?_⟩
  unfold capstanlaw07_MethodTells.f
  rw [great7_f, Option.bind_some]
  by_cases h1 : a.length > 100 ∨ b.length > 100
  · rw [if_pos (decide_eq_true h1)]
    simp only [capstanlaw07_MethodTells.j0]
    rw [if_pos trivial]
  rw [if_neg (by simpa using h1), great7_f, Option.bind_some]
  by_cases h2 : a'.length > 100 ∨ b'.length > 100
  · rw [if_pos (decide_eq_true h2)]
    simp only [capstanlaw07_MethodTells.j0]
    rw [if_pos trivial]
  rw [if_neg (by simpa using h2)]
  by_cases h3 : (x.length : Int) > 100
  · rw [decide_eq_true h3]
    simp only [capstanlaw07_MethodTells.j0]
    rw [if_pos trivial]
  rw [decide_eq_false h3]
  have ha : a.length ≤ 100 := by omega
  have hb : b.length ≤ 100 := by omega
  have htw : capstanlaw07_twin.f a b r q fu st hp code = some (a, b, r, q, fu, st, hp, code) := by
    unfold capstanlaw07_twin.f
    rw [Option.bind_some, if_pos (by simp; omega), Option.bind_some, if_pos (by simp; omega), List.nil_append, List.nil_append]
  rw [capstanlaw07_MethodTells.j0]
  rw [if_neg (by decide), htw, Option.bind_some, refBytes7_f a b r q fu st hp code ha hb _ (by omega), Option.bind_some]
  dsimp only
  rw [mMay_f a b r q fu st hp code ha hb _ (by omega), Option.bind_some, refMay7_f a b r q fu st hp code (by omega) (by omega) _ (by omega), Option.bind_some, bne_self_eq_false, if_neg (by decide), mMigrates_f a b r q fu st hp code ha hb _ (by omega), Option.bind_some, refMigrates_f a b r q fu st hp code ha hb _ (by omega), Option.bind_some, bne_self_eq_false, if_neg (by decide), mFits_f a b r q fu st hp code x ha hb (by omega) _ (by omega), Option.bind_some, refFits_f a b r q fu st hp code x ha hb (by omega) _ (by omega), Option.bind_some, bne_self_eq_false, if_neg (by decide), mSame_f a b r q fu st hp code _ _ _ _ _ _ _ _ ha hb _ (by omega), Option.bind_some, refSame7_f a b r q fu st hp code _ _ _ _ _ _ _ _ ha hb _ (by omega), Option.bind_some, bne_self_eq_false]
  rw [capstanlaw07_MethodTells.j1]
  rw [if_neg (by decide)]
  have t0 := mt_turn 0 (by omega) a b r q fu st hp code ha hb (1000 + M) (by omega)
  have t1 := mt_turn 1 (by omega) a b r q fu st hp code ha hb 1000 (by omega)
  rw [wrap64_id (by omega) (by omega), show (0 : Int) + 1 = 1 from rfl, show 1000 + M + (mzeros a b r fu st hp).1.length + 1 + (a ++ b).length + 1 + (mbytes a b r q fu st hp).1.length + 1 + 1 + 1 = 1000 + M + M by omega] at t0
  rw [wrap64_id (by omega) (by omega), show (1 : Int) + 1 = 2 from rfl, show 1000 + (mzeros a b r fu st hp).1.length + 1 + (a ++ b).length + 1 + (mbytes a b r q fu st hp).1.length + 1 + 1 + 1 = 1000 + M by omega] at t1
  rw [t0, t1]
  rw [show (1000 : Nat) = 999 + 1 from rfl, capstanlaw07_MethodTells.l0]
  rw [if_neg (by decide)]
end Go.Proofs.Ytjnmomhkiknhdaa.Pure
