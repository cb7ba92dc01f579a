/- OctetPuts, the one pure statement: the printed law tells true for every number, signed number and row. No conditions beside the given ones. -/
import Derived.Test.YtdcclddfdjijaaaP3
import Derived.Test.YtdcclddfdjijaaaLOctet
namespace Go.Proofs.Ytdcclddfdjijaaa.Pure
open Go.RowKit Go.Proofs.Ytdcclddfdjijaaa.P Go.Proofs.Ytdcclddfdjijaaa.M Go.Proofs.YtdcclddfdjijaaaW.PrintWords Go.Proofs.YtdcclddfdjijaaaW.PrintLast Go.Proofs.YtdcclddfdjijaaaW.PrintMore

theorem OctetPuts_l0 (x3 x9 : List Int) (d : Nat) : ∀ (k i : Nat) (r : List Int), i + d = r.length → r.length ≤ 70010 → d < k → capstanlaw01_OctetPuts.l0 k x3 x9 r true i = some ((strOfNums x9).toList == (strOfNums x3).toList) := by
  induction d with
  | zero =>
    intro k i r hi hr hk
    obtain ⟨k, rfl⟩ : ∃ m, k = m + 1 := ⟨k - 1, by omega⟩
    simp only [capstanlaw01_OctetPuts.l0]
    rw [if_neg (by omega), if_pos trivial]
  | succ d ih =>
    intro k i r hi hr hk
    obtain ⟨k, rfl⟩ : ∃ m, k = m + 1 := ⟨k - 1, by omega⟩
    simp only [capstanlaw01_OctetPuts.l0]
    rw [if_pos (by omega), if_pos (by omega), wrap64_id (x := (i : Int) + 1) (by omega) (by omega)]
    exact ih k (i + 1) _ (by rw [List.length_set]; omega) (by rw [List.length_set]; exact hr) (by omega)
theorem OctetPuts : capstanlaw01_OctetPuts.Pure := by
  intro a0 a1 a2 l3 w0 w1 w2 _ _ _
  have h1 := wf_i64 w1
  have h2 := wf_i64 w2
  refine ⟨70040, ?_⟩
  unfold capstanlaw01_OctetPuts.f
  by_cases h : (l3.length : Int) > 70000
  · rw [if_pos h]
  · rw [if_neg h, copy_f l3 (by omega), Option.bind_some, put_f a0 a1 _ (by omega), Option.bind_some, refPut_f a0 a1 h1.2 _ (by omega), Option.bind_some, signed_f a2 _ (by omega), Option.bind_some, refSigned_f a2 h2.1 h2.2 _ (by omega), Option.bind_some,
      row_f l3 _ (by omega), Option.bind_some, refRow_f l3, Option.bind_some, if_pos rfl, if_pos rfl, if_pos rfl, if_pos rfl, beq_self_eq_true]
    simp only [capstanlaw01_OctetPuts.j0]
    have hr : (row l3).1.length ≤ 70002 := by
      unfold row
      split
      · simp
      · rw [List.length_append, leb_length]; omega
    have := OctetPuts_l0 l3 l3 (row l3).1.length 70039 0 (row l3).1 (by omega) (by omega) (by omega)
    rw [show ((0 : Nat) : Int) = 0 from rfl] at this
    rw [this]
    simp
end Go.Proofs.Ytdcclddfdjijaaa.Pure
