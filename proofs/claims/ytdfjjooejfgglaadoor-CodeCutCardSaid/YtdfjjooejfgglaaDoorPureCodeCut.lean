/- CodeCut: without its last byte code is told ErrShort; with an instruction more its bytes are the same but for the first one, and what stands at the end. -/
import Derived.Test.YtdfjjooejfgglaaDoorT5
import Derived.Test.YtdfjjooejfgglaaDoorLCode3
namespace Go.Proofs.YtdfjjooejfgglaaDoor.Pure
open Go.RowKit Go.Proofs.YtdfjjooejfgglaaDoor.T Go.Proofs.YtdfjjooejfgglaaDoor.M Go.Proofs.YtdfjjooejfgglaaDoorW.PrintWords Go.Proofs.YtdfjjooejfgglaaDoorW.PrintLast Go.Proofs.YtdfjjooejfgglaaDoorW.PrintMore

theorem CodeCut : capstanlaw05_CodeCut.Pure := by
  intro l a b c hw hv
  have hI : isI l := fun x hx => wf_u8 (hw.2 x hx).1
  have hu := wf_u8 hv.1
  refine ⟨3002, ?_⟩
  unfold capstanlaw05_CodeCut.f
  rw [cawake_f _ (by omega), Option.bind_some, if_pos rfl]
  have hj : capstanlaw05_CodeCut.j0 (3001 + 1) l true a b c = some true := by rw [capstanlaw05_CodeCut.j0, if_pos rfl]
  by_cases hg : (l.length : Int) > 199
  · rw [if_pos hg]; exact hj
  rw [if_neg hg, cMay_f l hI (by omega) _ (by omega), Option.bind_some]
  cases hm : cmay l
  · exact hj
  obtain ⟨hl2, hall⟩ := cmay_inv hm
  have hfl := flat_length l
  have hlen : (cbytes l).length = (flat l).length + 1 := by unfold cbytes; simp
  have hB : isB (cbytes l) := isB_cons.2 ⟨by omega, flat_isB hI⟩
  have hfl1 : 1 ≤ (flat l).length := by
    obtain ⟨x, t, rfl⟩ : ∃ x t, l = x :: t := by
      cases l with
      | nil => simp at hl2
      | cons x t => exact ⟨x, t, rfl⟩
    have := ibytes_length x
    unfold flat
    rw [List.flatMap_cons, List.length_append]; omega
  rw [show (3002 : Nat) = 3001 + 1 from rfl, capstanlaw05_CodeCut.j0, Bool.not_true, if_neg (by decide), cBytes_f l hI (by omega) _ (by omega), Option.bind_some, if_pos hm]
  dsimp only
  rw [if_pos rfl, if_neg (by omega), wrap64_id (by omega) (by omega), if_pos (by omega), if_pos (by omega), show (((cbytes l).length : Int) - 1).toNat = (cbytes l).length - 1 by omega, told5_f (isB_take _ hB) (by simp; omega) 10 (cparse_cut hI hm) _ (by omega), Option.bind_some, Bool.not_true, show (3001 : Nat) = 3000 + 1 from rfl, capstanlaw05_CodeCut.j1, if_neg (by decide), Option.bind_some, if_pos (by simp; omega), Option.bind_some, Option.bind_some, if_pos (by simp; omega), Option.bind_some, List.nil_append]
  have hI2 : isI (l ++ [⟨a, b, c⟩]) := by
    intro x hx
    rcases List.mem_append.1 hx with h | h
    · exact hI x h
    · rw [List.mem_singleton.1 h]; exact hu
  have hL : (l ++ [(⟨a, b, c⟩ : IN)]).length = l.length + 1 := by simp
  rw [cBytes_f _ hI2 (by omega) _ (by omega), Option.bind_some, cMay_f _ hI2 (by omega) _ (by omega), Option.bind_some]
  cases hm2 : cmay (l ++ [⟨a, b, c⟩])
  · rw [if_neg (by decide), if_neg (by decide)]
    rfl
  have hib := ibytes_length (⟨a, b, c⟩ : IN)
  have ef : flat (l ++ [⟨a, b, c⟩]) = flat l ++ ibytes ⟨a, b, c⟩ := by unfold flat; simp
  have ec : cbytes (l ++ [⟨a, b, c⟩]) = ((l.length : Int) + 1) :: (flat l ++ ibytes ⟨a, b, c⟩) := by unfold cbytes; rw [ef, hL]; rfl
  have ec0 : cbytes l = (l.length : Int) :: flat l := rfl
  obtain ⟨z, ez⟩ : ∃ z, ibytes (⟨a, b, c⟩ : IN) = a :: z := by unfold ibytes; split; exact ⟨_, rfl⟩; exact ⟨_, rfl⟩
  have r0 : rd (cbytes (l ++ [⟨a, b, c⟩])) 0 = (l.length : Int) + 1 := by rw [ec]; rfl
  have r1 : rd (cbytes l) 0 = (l.length : Int) := rfl
  have cl : (cbytes (l ++ [⟨a, b, c⟩])).length = (flat l).length + 1 + (ibytes (⟨a, b, c⟩ : IN)).length := by rw [ec]; simp; omega
  have r2 : rd (cbytes (l ++ [⟨a, b, c⟩])) ((cbytes l).length : Int) = a := by
    rw [rd_at (by omega)]
    simp only [ec, hlen, ez]
    rw [List.getElem_cons_succ, List.getElem_append_right (by omega)]
    simp
  have td : ((cbytes (l ++ [⟨a, b, c⟩])).take (cbytes l).length).drop 1 = (cbytes l).drop 1 := by
    rw [ec, hlen, ec0, List.take_succ_cons, List.drop_succ_cons, List.drop_zero, List.drop_succ_cons, List.drop_zero, List.take_left]
  rw [if_pos rfl, if_pos rfl]
  dsimp only
  rw [if_pos rfl, if_pos (by omega), if_pos (by omega), r0, wrap64_id (x := (l.length : Int) + 1) (by omega) (by omega), if_pos rfl, if_pos (by omega), r1, wrap64_id (x := (l.length : Int)) (by omega) (by omega), if_pos rfl, if_pos (by omega), if_pos (by omega), Int.toNat_natCast, td, if_pos rfl, if_pos (by omega), if_pos (by omega), r2, beq_self_eq_true]
end Go.Proofs.YtdfjjooejfgglaaDoor.Pure
