/- CodeParses: any text is of the code that the chapter says, or of none. -/
import Derived.Test.YtdfjjooejfgglaaDoorX2
import Derived.Test.YtdfjjooejfgglaaDoorX8
import Derived.Test.YtdfjjooejfgglaaDoorLText2
namespace Go.Proofs.YtdfjjooejfgglaaDoor.Pure
open Go.RowKit Go.Proofs.YtdfjjooejfgglaaDoor.X Go.Proofs.YtdfjjooejfgglaaDoor.M Go.Proofs.YtdfjjooejfgglaaDoorW.PrintWords Go.Proofs.YtdfjjooejfgglaaDoorW.PrintLast Go.Proofs.YtdfjjooejfgglaaDoorW.PrintMore

theorem tsm_l0 (x : List IN) (hx : x.length ≤ 100000) (d : Nat) : ∀ (k i : Nat), i + d = x.length → d < k → capstanref05_Same.l0 k x x i = some true := by
  induction d with
  | zero =>
    intro k i hi hk
    obtain ⟨k, rfl⟩ : ∃ n, k = n + 1 := ⟨k - 1, by omega⟩
    simp only [capstanref05_Same.l0]
    rw [if_neg (by omega)]
  | succ d ih =>
    intro k i hi hk
    obtain ⟨k, rfl⟩ : ∃ n, k = n + 1 := ⟨k - 1, by omega⟩
    simp only [capstanref05_Same.l0]
    rw [if_pos (by omega), if_pos (by omega), if_pos (by omega), wrap64_id (x := (i : Int) + 1) (by omega) (by omega), show ((i : Int) + 1) = ((i + 1 : Nat) : Int) by omega, ih k (i + 1) (by omega) (by omega)]
    simp
theorem tSame_self (x : List IN) (hx : x.length ≤ 2000) (k : Nat) (hk : 2100 ≤ k) : capstanref05_Same.f k x x = some true := by
  unfold capstanref05_Same.f
  have := tsm_l0 x (by omega) x.length k 0 (by omega) (by omega)
  rw [show ((0 : Nat) : Int) = 0 from rfl] at this
  rw [if_pos rfl, this]
theorem CodeParses : capstanlaw05_CodeParses.Pure := by
  intro s _
  refine ⟨10000, ?_⟩
  unfold capstanlaw05_CodeParses.f
  by_cases h : (s.size : Int) > 4000
  · rw [if_pos h]
  rw [if_neg h]
  obtain ⟨l, rfl⟩ : ∃ l : List UInt8, s = ⟨l.toArray⟩ := ⟨_, ba_eta s⟩
  rw [ba_size] at h
  rw [cParse_f l (by omega) _ (by omega), Option.bind_some, rParse_f l (by omega) _ (by omega), Option.bind_some]
  cases hr : rparse [] l [] with
  | some L =>
    obtain ⟨t, t1, t2, t3, t4, t5, t6⟩ := rparse_sound l [] [] L hr (by simpa using (by omega : l.length ≤ 4000)) (by simp)
    dsimp only
    rw [tSame_self L (by omega) _ (by omega), Option.bind_some, if_pos rfl]
    rfl
  | none =>
    dsimp only
    rw [tSame_self [] (by simp) _ (by omega), Option.bind_some, if_pos rfl]
    rfl
end Go.Proofs.YtdfjjooejfgglaaDoor.Pure
