/- PureTells: what is told of a module that isn't too long (the law itself is walked by hand). -/
import Derived.Test.YtkmnachdibhdhaaU3
import Derived.Test.YtkmnachdibhdhaaU18
import Derived.Test.YtkmnachdibhdhaaLPure7
namespace Go.Proofs.Ytkmnachdibhdhaa.Pure
open Go.RowKit Go.Proofs.Ytkmnachdibhdhaa.U Go.Proofs.Ytkmnachdibhdhaa.M Go.Proofs.YtkmnachdibhdhaaW.PrintWords Go.Proofs.YtkmnachdibhdhaaW.PrintLast Go.Proofs.YtkmnachdibhdhaaW.PrintMore

theorem PureTells : capstanlaw13_PureTells.Pure := by
  intro l0 l1 ms a3 a1 _ _
  rcases great_f (l0 := l0) (l1 := l1) (ms := ms) (a3 := a3) with hg | ⟨hg, hs, hv0, hv1, h300⟩
  · exact ⟨60, .inl hg⟩
  · have hlen := hs.len
    have hf : Few ms := great_few hlen hg
    have hgood : mcGood ms = true := by
      refine List.all_eq_true.2 fun x hx => ?_
      obtain ⟨j, hj, rfl⟩ := List.mem_iff_getElem.1 hx
      have e : rd_T52 ms (j : Int) = ms[j] := by simp [rd_T52, hj]
      have a := hf j hj
      have b := h300 (j : Int) (by omega) (by omega)
      rw [e] at a b
      simp only [Bool.and_eq_true, decide_eq_true_eq]
      exact ⟨⟨by omega, by omega⟩, by omega⟩
    obtain ⟨F, s, e, c, f, o, w0, w1, w2, w3, hF, h⟩ := tells (l0 := l0) (l1 := l1) (a3 := a3) hs hf hv0 hv1 hgood a1
    exact ⟨F, .inr ⟨up (f := fun k => capstanlaw08_Great.f k l0 l1 ms a3) (fun k => capstanlaw08_Great.mono _ _ _ _ k) hg F hF, s, e, c, f, o, w0, w1, w2, w3, h⟩⟩
end Go.Proofs.Ytkmnachdibhdhaa.Pure
