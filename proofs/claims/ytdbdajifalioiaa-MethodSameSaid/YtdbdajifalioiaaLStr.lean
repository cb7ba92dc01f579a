/- Rows of bytes and the strings that they are read as. -/
import Derived.Test.YtdbdajifalioiaaLib
import Derived.Lib.Bytes
namespace Go.Proofs.Ytdbdajifalioiaa.M
open Go.RowKit Go.Proofs.YtdbdajifalioiaaW.PrintWords Go.Proofs.YtdbdajifalioiaaW.PrintMore

theorem back_bytes {x : List Int} (h : isB x) : ((strOfNums x).toList.map fun b => (b.toNat : Int)) = x := by
  rw [Go.Lib.strOfNums_toList, show Go.Lib.bytesOf x = x.map (fun n => UInt8.ofNat n.toNat) from rfl, List.map_map]
  conv => rhs; rw [← List.map_id x]
  refine List.map_congr_left fun b hb => ?_
  have := h b hb
  simp only [Function.comp, id, UInt8.toNat_ofNat']
  omega
theorem str_inj {x y : List Int} (hx : isB x) (hy : isB y) (h : (strOfNums x).toList = (strOfNums y).toList) : x = y := by
  rw [← back_bytes hx, h, back_bytes hy]
theorem str_beq {x y : List Int} (hx : isB x) (hy : isB y) : ((strOfNums x).toList == (strOfNums y).toList) = decide (x = y) := by
  rw [Bool.eq_iff_iff, beq_iff_eq, decide_eq_true_eq]
  exact ⟨str_inj hx hy, fun h => by rw [h]⟩
end Go.Proofs.Ytdbdajifalioiaa.M
