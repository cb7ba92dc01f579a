/- ValueReads: from any bytes, at any place, both read the same value, or none. -/
import Derived.Test.YtdcclddfdjijaaaDoorP4
import Derived.Test.YtdcclddfdjijaaaDoorLValue2
namespace Go.Proofs.YtdcclddfdjijaaaDoor.Pure
open Go.RowKit Go.Proofs.YtdcclddfdjijaaaDoor.P Go.Proofs.YtdcclddfdjijaaaDoor.M Go.Proofs.YtdcclddfdjijaaaDoorW.PrintWords Go.Proofs.YtdcclddfdjijaaaDoorW.PrintLast Go.Proofs.YtdcclddfdjijaaaDoorW.PrintMore

theorem ValueReads : capstanlaw03_ValueReads.Pure := by
  intro l a hm _ wl w1
  have hb := isB_of wl
  refine ⟨40, ?_⟩
  unfold capstanlaw03_ValueReads.f
  by_cases h : (l.length : Int) > 2000
  · rw [if_pos h]
  rw [if_neg h, Option.bind_some, if_pos (by simp; omega), Option.bind_some, List.nil_append, vread_f l hb (by omega) a _ (by omega), Option.bind_some, refRead_f l hb (by omega) a _ (by omega), Option.bind_some]
  simp
end Go.Proofs.YtdcclddfdjijaaaDoor.Pure
