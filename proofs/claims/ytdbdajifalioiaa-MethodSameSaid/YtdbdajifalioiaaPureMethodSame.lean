/- MethodSame: two heads are the same just if their bytes are; a head is the same as itself, whatever its code. -/
import Derived.Test.YtdbdajifalioiaaQ12
import Derived.Test.YtdbdajifalioiaaLMethod4
import Derived.Test.YtdbdajifalioiaaLStr
namespace Go.Proofs.Ytdbdajifalioiaa.Pure
open Go.RowKit Go.Proofs.Ytdbdajifalioiaa.Q Go.Proofs.Ytdbdajifalioiaa.M Go.Proofs.YtdbdajifalioiaaW.PrintWords Go.Proofs.YtdbdajifalioiaaW.PrintLast Go.Proofs.YtdbdajifalioiaaW.PrintMore

theorem msame_refl (a b : List Int) (r : Int) (q : Bool) (fu sk hp : Int) : msame a b r q fu sk hp a b r q fu sk hp = true := msame_iff.2 ⟨rfl, rfl, rfl, rfl, rfl, rfl, rfl⟩
theorem msame_comm (a b : List Int) (r : Int) (q : Bool) (fu sk hp : Int) (a' b' : List Int) (r' : Int) (q' : Bool) (fu' sk' hp' : Int) : msame a b r q fu sk hp a' b' r' q' fu' sk' hp' = msame a' b' r' q' fu' sk' hp' a b r q fu sk hp := by
  rw [Bool.eq_iff_iff, msame_iff, msame_iff]
  constructor <;> (rintro ⟨rfl, rfl, rfl, rfl, rfl, rfl, rfl⟩; exact ⟨rfl, rfl, rfl, rfl, rfl, rfl, rfl⟩)
theorem mhead_inj {a b : List Int} {r : Int} {q : Bool} {fu sk hp : Int} {a' b' : List Int} {r' : Int} {q' : Bool} {fu' sk' hp' : Int} (h : mmay a b r fu sk hp = true) (h' : mmay a' b' r' fu' sk' hp' = true) (e : mhead a b r q fu sk hp = mhead a' b' r' q' fu' sk' hp') : msame a b r q fu sk hp a' b' r' q' fu' sk' hp' = true := by
  have h1 := mread_put (q := q) [] [] h
  have h2 := mread_put (q := q') [] [] h'
  rw [e, h2] at h1
  simp only [Prod.mk.injEq] at h1
  obtain ⟨rfl, rfl, rfl, rfl, rfl, rfl, rfl, _⟩ := h1
  exact msame_refl _ _ _ _ _ _ _
theorem MethodSame : capstanlaw07_MethodSame.Pure := by
  intro a b r q fu sk hp code a' b' r' q' fu' sk' hp' code' own hw hw' _
  have ha := isB_of hw.1.2
  have hb := isB_of hw.2.1.2
  have ha' := isB_of hw'.1.2
  have hb' := isB_of hw'.2.1.2
  refine ⟨1002, ?_⟩
  unfold capstanlaw07_MethodSame.f
  rw [mawake_f _ (by omega), Option.bind_some, if_pos rfl, great7_f, Option.bind_some]
  have hj : capstanlaw07_MethodSame.j0 (1001 + 1) own true a b r q fu sk hp code a' b' r' q' fu' sk' hp' code' = some true := by
    rw [capstanlaw07_MethodSame.j0, if_pos rfl]
  by_cases hg : a.length > 100 ∨ b.length > 100
  · rw [decide_eq_true hg, if_pos rfl]; exact hj
  rw [decide_eq_false hg, if_neg (by decide), great7_f, Option.bind_some]
  by_cases hg' : a'.length > 100 ∨ b'.length > 100
  · rw [decide_eq_true hg']; exact hj
  rw [decide_eq_false hg', show (1002 : Nat) = 1001 + 1 from rfl, capstanlaw07_MethodSame.j0, if_neg (by decide), mSame_f _ _ _ _ _ _ _ _ _ _ _ _ _ _ _ _ (by omega) (by omega) _ (by omega), Option.bind_some, msame_refl, if_pos rfl,
    mSame_f _ _ _ _ _ _ _ _ _ _ _ _ _ _ _ _ (by omega) (by omega) _ (by omega), Option.bind_some, mSame_f _ _ _ _ _ _ _ _ _ _ _ _ _ _ _ _ (by omega) (by omega) _ (by omega), Option.bind_some, msame_comm a' b', bne_self_eq_false,
    show (1001 : Nat) = 1000 + 1 from rfl, capstanlaw07_MethodSame.j1, if_neg (by decide), mBytes_f _ _ _ _ _ _ _ _ (by omega) (by omega) _ (by omega), Option.bind_some, mBytes_f _ _ _ _ _ _ _ _ (by omega) (by omega) _ (by omega), Option.bind_some, mSame_f _ _ _ _ _ _ _ _ _ _ _ _ _ _ _ _ (by omega) (by omega) _ (by omega)]
  cases hm : mmay a b r fu sk hp
  · have em : mbytes a b r q fu sk hp = ([], 70) := by unfold mbytes; rw [hm]; rfl
    rw [em, if_neg (by decide)]
  have em : mbytes a b r q fu sk hp = (mhead a b r q fu sk hp, 0) := by unfold mbytes; rw [hm]; rfl
  rw [em, if_pos rfl]
  cases hm' : mmay a' b' r' fu' sk' hp'
  · have em' : mbytes a' b' r' q' fu' sk' hp' = ([], 70) := by unfold mbytes; rw [hm']; rfl
    rw [em', if_neg (by decide)]
  have em' : mbytes a' b' r' q' fu' sk' hp' = (mhead a' b' r' q' fu' sk' hp', 0) := by unfold mbytes; rw [hm']; rfl
  rw [em']
  rw [if_pos rfl, Option.bind_some]
  congr 1
  rw [beq_iff_eq, Bool.eq_iff_iff, beq_iff_eq]
  constructor
  · intro h
    exact mhead_inj hm hm' (str_inj (mhead_isB hm ha hb) (mhead_isB hm' ha' hb') h)
  · intro h
    obtain ⟨rfl, rfl, rfl, rfl, rfl, rfl, rfl⟩ := msame_iff.1 h
    rfl
end Go.Proofs.Ytdbdajifalioiaa.Pure
