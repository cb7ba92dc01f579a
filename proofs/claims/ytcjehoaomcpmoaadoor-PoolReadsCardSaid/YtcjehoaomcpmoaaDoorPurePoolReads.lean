/- PoolReads: from any bytes, at any place, both read the same pool, or none. -/
import Derived.Test.YtcjehoaomcpmoaaDoorP4
import Derived.Test.YtcjehoaomcpmoaaDoorLPool
namespace Go.Proofs.YtcjehoaomcpmoaaDoor.Pure
open Go.RowKit Go.Proofs.YtcjehoaomcpmoaaDoor.P Go.Proofs.YtcjehoaomcpmoaaDoor.M Go.Proofs.YtcjehoaomcpmoaaDoorW.PrintWords Go.Proofs.YtcjehoaomcpmoaaDoorW.PrintLast Go.Proofs.YtcjehoaomcpmoaaDoorW.PrintMore

theorem PoolReads : capstanlaw06_PoolReads.Pure := by
  intro l a hm _ wl w1
  have hb := isB_of wl
  have h1 := wf_i64 w1
  refine ⟨100, ?_⟩
  unfold capstanlaw06_PoolReads.f
  by_cases h : (l.length : Int) > 1500
  · rw [if_pos h]
  have hlen := poolread_length l a
  rw [if_neg h, Option.bind_some, if_pos (by simp; omega), Option.bind_some, List.nil_append, poolread_f l hb (by omega) a _ (by omega), Option.bind_some, refPoolread_f l hb (by omega) a h1 _ (by omega), Option.bind_some,
    same_f _ (by omega) _ (by omega), Option.bind_some, if_pos rfl, if_pos rfl, if_pos rfl, beq_self_eq_true]
end Go.Proofs.YtcjehoaomcpmoaaDoor.Pure
