/- Layer 7: the chapter's examples; reading that fails. -/
import Derived.Test.YtdbdajifalioiaaR9
import Derived.Test.YtdbdajifalioiaaLMethod
import Derived.Test.YtdbdajifalioiaaLMethod3
namespace Go.Proofs.Ytdbdajifalioiaa.M
open Go.RowKit Go.Proofs.Ytdbdajifalioiaa.R Go.Proofs.YtdbdajifalioiaaW.PrintWords Go.Proofs.YtdbdajifalioiaaW.PrintLast Go.Proofs.YtdbdajifalioiaaW.PrintMore

theorem mread_bad {l : List Int} {a : Int} (h : (mread l a).2.2.2.2.2.2.2.2.2 ≠ 0) : mread l a = mbad (mread l a).2.2.2.2.2.2.2.2.2 := by
  unfold mread mnums at h ⊢
  repeat' split
  all_goals first | rfl | skip
  all_goals simp_all
theorem msame_zero : msame [] [] 0 false 0 0 0 [] [] 0 false 0 0 0 = true := by decide
theorem told7_f {l : List Int} (hb : isB l) (hl : l.length ≤ 140737488355328) (e : Int) (h : mread l 0 = mbad e) (k : Nat) (hk : 300 ≤ k) : capstanlaw07_told.f k e l = some true := by
  unfold capstanlaw07_told.f
  rw [read_f hb hl 0 k (by omega), Option.bind_some, h]
  unfold mbad
  rw [refSame7_f _ _ _ _ _ _ _ _ _ _ _ _ _ _ _ _ (by simp) (by simp) _ hk, Option.bind_some, msame_zero, if_pos rfl, if_pos rfl]
  simp
theorem mawake_f (k : Nat) (hk : 300 ≤ k) : capstanlaw07_awake.f k = some true := by
  obtain ⟨d, rfl⟩ := Nat.exists_eq_add_of_le hk
  induction d with
  | zero => decide +kernel
  | succ d ih => exact capstanlaw07_awake.mono _ _ (ih (by omega))
end Go.Proofs.Ytdbdajifalioiaa.M
