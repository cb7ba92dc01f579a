/- OctetBack: what was put is got, wherever it stands. -/
import Derived.Test.YtdcclddfdjijaaaP8
import Derived.Test.YtdcclddfdjijaaaLOctet3
namespace Go.Proofs.Ytdcclddfdjijaaa.Pure
open Go.RowKit Go.Proofs.Ytdcclddfdjijaaa.P Go.Proofs.Ytdcclddfdjijaaa.M Go.Proofs.YtdcclddfdjijaaaW.PrintWords Go.Proofs.YtdcclddfdjijaaaW.PrintLast Go.Proofs.YtdcclddfdjijaaaW.PrintMore

theorem OctetBack_j1 (k : Nat) (hk : 40 ≤ k) (s : Int) (hs : -9223372036854775808 ≤ s ∧ s ≤ 9223372036854775807) (r a c : List Int) (hr : isB r) (ha : isB a) (hc : isB c) (lr : r.length ≤ 300) (la : a.length ≤ 300) (lc : c.length ≤ 300) :
    capstanlaw01_OctetBack.j1 k s r a c (a.length : Int) = some true := by
  obtain ⟨k, rfl⟩ : ∃ d, k = d + 2 := ⟨k - 2, by omega⟩
  have hl8 := leb_length 8 s
  have hrl := row_length r
  simp only [capstanlaw01_OctetBack.j1, capstanlaw01_OctetBack.j2]
  rw [signed_f s _ (by omega), Option.bind_some, around_f _ _ _ (by omega), Option.bind_some,
    getSigned_f _ (isB_append.2 ⟨isB_append.2 ⟨ha, leb_isB 8 s⟩, hc⟩) (by rw [List.length_append, List.length_append]; omega) _ _ (by omega), Option.bind_some, getSigned_put hs,
    if_pos rfl, wrap64_id (x := (a.length : Int) + 8) (by omega) (by omega), if_pos rfl, if_neg (by simp), row_f r _ (by omega), Option.bind_some, around_f _ _ _ (by omega), Option.bind_some,
    getRow_f _ (isB_append.2 ⟨isB_append.2 ⟨ha, row_isB hr⟩, hc⟩) (by rw [List.length_append, List.length_append]; omega) _ _ (by omega), Option.bind_some, getRow_put _ _ _ (by omega)]
  have e : (row r).2 = 0 := by unfold row; rw [if_neg (by omega)]
  rw [if_pos e, if_pos rfl, if_pos rfl, wrap64_id (x := (a.length : Int) + 2) (by omega) (by omega), wrap64_id (by omega) (by omega), beq_self_eq_true]
theorem OctetBack : capstanlaw01_OctetBack.Pure := by
  intro w n s r a c w0 w1 w2 mr _ wr ma _ wa mc _ wc
  have h1 := wf_i64 w1
  have hj := fun (lr : r.length ≤ 300) (la : a.length ≤ 300) (lc : c.length ≤ 300) => OctetBack_j1 59 (by omega) s (wf_i64 w2) r a c (isB_of wr) (isB_of wa) (isB_of wc) lr la lc
  refine ⟨60, ?_⟩
  unfold capstanlaw01_OctetBack.f
  rw [awake_f _ (by omega), Option.bind_some, if_pos rfl]
  by_cases lr : (r.length : Int) > 300
  · rw [if_pos lr]; simp [capstanlaw01_OctetBack.j0]
  by_cases la : (a.length : Int) > 300
  · rw [if_neg lr, if_pos la]; simp [capstanlaw01_OctetBack.j0]
  rw [if_neg lr, if_neg la]
  by_cases lc : (c.length : Int) > 300
  · rw [decide_eq_true lc]; simp [capstanlaw01_OctetBack.j0]
  rw [decide_eq_false lc]
  have hj := hj (by omega) (by omega) (by omega)
  simp only [capstanlaw01_OctetBack.j0]
  rw [if_neg (by decide), put_f w n _ (by omega), Option.bind_some]
  by_cases hn : (put w n).2 = 0
  · obtain ⟨hw, n0, nl, en⟩ := put_ok hn
    have hpl := put_length w n
    have e3 : (((put w n).1.length : Nat) : Int) = w := by rw [en]; simp only [leb_length]; omega
    rw [if_pos hn, around_f _ _ _ (by omega), Option.bind_some,
      get_f _ (isB_append.2 ⟨isB_append.2 ⟨isB_of wa, put_isB w n⟩, isB_of wc⟩) (by rw [List.length_append, List.length_append]; omega) _ _ _ (by omega), Option.bind_some, get_put hn (by omega), if_pos rfl,
      wrap64_id (x := (a.length : Int) + w) (by omega) (by omega), if_pos rfl, if_pos rfl, if_pos e3]
    exact hj
  · rw [if_neg hn]; exact hj
end Go.Proofs.Ytdcclddfdjijaaa.Pure
