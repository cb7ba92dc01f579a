/- OctetGets, the one pure statement: from any bytes, at any place, both read the same. -/
import Derived.Test.YtdcclddfdjijaaaP6
import Derived.Test.YtdcclddfdjijaaaLOctet2
namespace Go.Proofs.Ytdcclddfdjijaaa.Pure
open Go.RowKit Go.Proofs.Ytdcclddfdjijaaa.P Go.Proofs.Ytdcclddfdjijaaa.M Go.Proofs.YtdcclddfdjijaaaW.PrintWords Go.Proofs.YtdcclddfdjijaaaW.PrintLast Go.Proofs.YtdcclddfdjijaaaW.PrintMore

theorem OctetGets_l0 (x0 x7 : List Int) (d : Nat) : ∀ (k i : Nat) (r : List Int), i + d = r.length → r.length ≤ 70010 → d < k → capstanlaw01_OctetGets.l0 k x0 x7 r true i = some ((strOfNums x7).toList == (strOfNums x0).toList) := by
  induction d with
  | zero =>
    intro k i r hi hr hk
    obtain ⟨k, rfl⟩ : ∃ m, k = m + 1 := ⟨k - 1, by omega⟩
    simp only [capstanlaw01_OctetGets.l0]
    rw [if_neg (by omega), if_pos trivial]
  | succ d ih =>
    intro k i r hi hr hk
    obtain ⟨k, rfl⟩ : ∃ m, k = m + 1 := ⟨k - 1, by omega⟩
    simp only [capstanlaw01_OctetGets.l0]
    rw [if_pos (by omega), if_pos (by omega), wrap64_id (x := (i : Int) + 1) (by omega) (by omega)]
    exact ih k (i + 1) _ (by rw [List.length_set]; omega) (by rw [List.length_set]; exact hr) (by omega)
theorem OctetGets : capstanlaw01_OctetGets.Pure := by
  intro l0 a1 a2 hm _ w0 w1 w2
  have hb := isB_of w0
  have h1 := wf_i64 w1
  refine ⟨2040, ?_⟩
  unfold capstanlaw01_OctetGets.f
  by_cases h : (l0.length : Int) > 2000
  · rw [if_pos h]
  · rw [if_neg h, copy_f l0 (by omega), Option.bind_some, get_f l0 hb (by omega) a1 a2 _ (by omega), Option.bind_some, refGet_f l0 hb (by omega) a1 a2 h1 _ (by omega), Option.bind_some,
      getSigned_f l0 hb (by omega) a1 _ (by omega), Option.bind_some, refGetSigned_f l0 hb (by omega) a1 h1 _ (by omega), Option.bind_some,
      getRow_f l0 hb (by omega) a1 _ (by omega), Option.bind_some, refGetRow_f l0 hb (by omega) a1 h1 _ (by omega), Option.bind_some,
      if_pos rfl, if_pos rfl, if_pos rfl, if_pos rfl, if_pos rfl, if_pos rfl, if_pos rfl, if_pos rfl, beq_self_eq_true]
    simp only [capstanlaw01_OctetGets.j0]
    have hr := getRow_length l0 a1
    have := OctetGets_l0 l0 l0 (getRow l0 a1).1.length 2039 0 (getRow l0 a1).1 (by omega) (by omega) (by omega)
    rw [show ((0 : Nat) : Int) = 0 from rfl] at this
    rw [this]
    simp
end Go.Proofs.Ytdcclddfdjijaaa.Pure
