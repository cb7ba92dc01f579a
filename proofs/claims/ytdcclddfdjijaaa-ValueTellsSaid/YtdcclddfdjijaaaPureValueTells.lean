/- ValueTells: any value may be outside, inside, has the bytes that the chapter says. -/
import Derived.Test.YtdcclddfdjijaaaP10
import Derived.Test.YtdcclddfdjijaaaP13
import Derived.Test.YtdcclddfdjijaaaLValue
namespace Go.Proofs.Ytdcclddfdjijaaa.Pure
open Go.RowKit Go.Proofs.Ytdcclddfdjijaaa.P Go.Proofs.Ytdcclddfdjijaaa.M Go.Proofs.YtdcclddfdjijaaaW.PrintWords Go.Proofs.YtdcclddfdjijaaaW.PrintLast Go.Proofs.YtdcclddfdjijaaaW.PrintMore

theorem ValueTells : capstanlaw03_ValueTells.Pure := by
  intro k a b kind h _
  have ha := wf_i64 h.2.1
  refine ⟨40, ?_⟩
  unfold capstanlaw03_ValueTells.f
  rw [zero_f, Option.bind_some, refZero_f, Option.bind_some, vbytes_f _ _ _ _ (by omega), Option.bind_some, refBytes_f _ _ _ ha _ (by omega), Option.bind_some, pair_f, Option.bind_some, ref02May_f, Option.bind_some]
  cases hp : pm a b
  · simp only [capstanlaw03_ValueTells.j0, ref02May_f, may_f, refMay_f, inside_f, refInside_f, value_Int.f, hp, Bool.false_eq_true, if_false, Option.bind_some, beq_self_eq_true, Bool.and_self, if_true]
  · simp only [capstanlaw03_ValueTells.j0, ref02May_f, may_f, refMay_f, inside_f, refInside_f, value_Int.f, hp, if_true, Option.bind_some, beq_self_eq_true, Bool.and_self]
end Go.Proofs.Ytdcclddfdjijaaa.Pure
