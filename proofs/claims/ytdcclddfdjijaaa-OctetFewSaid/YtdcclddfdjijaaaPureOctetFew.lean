/- OctetFew: without its last byte nothing that was put is got. -/
import Derived.Test.YtdcclddfdjijaaaP10
import Derived.Test.YtdcclddfdjijaaaLOctet3
namespace Go.Proofs.Ytdcclddfdjijaaa.Pure
open Go.RowKit Go.Proofs.Ytdcclddfdjijaaa.P Go.Proofs.Ytdcclddfdjijaaa.M Go.Proofs.YtdcclddfdjijaaaW.PrintWords Go.Proofs.YtdcclddfdjijaaaW.PrintLast Go.Proofs.YtdcclddfdjijaaaW.PrintMore

theorem get_short {l : List Int} {w : Int} (hw : 1 ≤ w ∧ w ≤ 8) (h : (l.length : Int) < w) : M.get l 0 w = (0, 0, 10) := by
  unfold M.get
  rw [if_neg (by omega), if_pos (by omega)]
theorem getRow_short {r : List Int} (hr : r.length ≤ 65535) : (getRow ((row r).1.take ((row r).1.length - 1)) 0).2.2 = 10 := by
  have e : row r = (leb 2 r.length ++ r, 0) := by unfold row; rw [if_neg (by omega)]
  rw [e]
  dsimp only
  have hl := leb_length 2 (r.length : Int)
  rcases Nat.eq_zero_or_pos r.length with h | h
  · obtain rfl : r = [] := List.length_eq_zero_iff.1 h
    unfold getRow
    rw [get_short (by omega) (by simp only [List.length_take, List.length_append, leb_length, List.length_nil]; omega)]; rfl
  · have e2 : (leb 2 (r.length : Int) ++ r).take ((leb 2 (r.length : Int) ++ r).length - 1) = [] ++ leb 2 r.length ++ r.take (r.length - 1) := by
      rw [List.length_append, hl, show 2 + r.length - 1 = 2 + (r.length - 1) by omega, List.nil_append, List.take_append, hl, List.take_of_length_le (by omega)]
      congr 2; omega
    have hg := get_two [] (r.take (r.length - 1)) r.length hr
    rw [e2]
    have hg2 : M.get ([] ++ leb 2 (r.length : Int) ++ r.take (r.length - 1)) 0 2 = ((r.length : Int), 0 + 2, 0) := hg
    unfold getRow
    simp only [hg2]
    rw [if_pos trivial, if_pos (by simp only [List.length_append, List.length_take, hl, List.length_nil]; omega)]
theorem OctetFew_j0 (k : Nat) (hk : 40 ≤ k) (s : Int) (r : List Int) (hr : isB r) (lr : r.length ≤ 300) : capstanlaw01_OctetFew.j0 k s r = some true := by
  obtain ⟨k, rfl⟩ : ∃ d, k = d + 2 := ⟨k - 2, by omega⟩
  have hl8 := leb_length 8 s
  have hrl : (row r).1.length = r.length + 2 := by unfold row; rw [if_neg (by omega), List.length_append, leb_length]; omega
  have e : (row r).2 = 0 := by unfold row; rw [if_neg (by omega)]
  have hs : getSigned ((leb 8 s).take 7) 0 = (0, 0, 10) := by
    unfold getSigned
    rw [if_neg (by omega), if_pos (by rw [List.length_take]; omega)]
  have hg := getRow_short (r := r) (by omega)
  simp only [capstanlaw01_OctetFew.j0, capstanlaw01_OctetFew.j1]
  rw [signed_f s _ (by omega), Option.bind_some, Option.bind_some, if_pos (by simp; omega), List.nil_append, row_f r _ (by omega), Option.bind_some, if_pos (by omega), if_pos e, if_neg (by simp; omega), if_pos (by omega),
    getSigned_f _ (isB_take 7 (leb_isB 8 s)) (by rw [List.length_take]; omega) _ _ (by omega), Option.bind_some, wrap64_id (x := ((row r).1.length : Int) - 1) (by omega) (by omega), if_pos (by omega), if_pos (by omega),
    getRow_f _ (isB_take _ (row_isB hr)) (by rw [List.length_take]; omega) _ _ (by omega), Option.bind_some, hs, if_pos rfl, show (((row r).1.length : Int) - 1).toNat = (row r).1.length - 1 by omega, hg]
  rfl
theorem OctetFew : capstanlaw01_OctetFew.Pure := by
  intro w n s r w0 w1 w2 mr _ wr
  have h1 := wf_i64 w1
  refine ⟨60, ?_⟩
  unfold capstanlaw01_OctetFew.f
  rw [awake_f _ (by omega), Option.bind_some, if_pos rfl]
  by_cases lr : (r.length : Int) > 300
  · rw [if_pos lr]
  rw [if_neg lr, put_f w n _ (by omega), Option.bind_some]
  have hj := OctetFew_j0 60 (by omega) s r (isB_of wr) (by omega)
  by_cases hn : (put w n).2 = 0
  · obtain ⟨hw, n0, nl, en⟩ := put_ok hn
    have e3 : (((put w n).1.length : Nat) : Int) = w := by rw [en]; simp only [leb_length]; omega
    rw [if_pos hn, if_neg (by omega), wrap64_id (x := ((put w n).1.length : Int) - 1) (by omega) (by omega), if_pos (by omega), if_pos (by omega),
      get_f _ (isB_take _ (put_isB w n)) (by rw [List.length_take]; omega) _ _ _ (by omega), Option.bind_some, get_short hw (by rw [List.length_take]; omega), if_pos rfl]
    exact hj
  · rw [if_neg hn]; exact hj
end Go.Proofs.Ytdcclddfdjijaaa.Pure
