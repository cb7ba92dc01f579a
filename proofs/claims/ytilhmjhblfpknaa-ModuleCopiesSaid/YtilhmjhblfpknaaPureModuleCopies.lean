/- ModuleCopies: what is told of a module that isn't too long (the law itself is walked by hand). -/
import Derived.Test.YtilhmjhblfpknaaP3
import Derived.Test.YtilhmjhblfpknaaP9
import Derived.Test.YtilhmjhblfpknaaLSame
namespace Go.Proofs.Ytilhmjhblfpknaa.Pure
open Go.RowKit Go.Proofs.Ytilhmjhblfpknaa.P Go.Proofs.Ytilhmjhblfpknaa.M Go.Proofs.YtilhmjhblfpknaaW.PrintWords Go.Proofs.YtilhmjhblfpknaaW.PrintLast Go.Proofs.YtilhmjhblfpknaaW.PrintMore

theorem ModuleCopies : capstanlaw08_ModuleCopies.Pure := by
  intro l0 l1 ms a3 _
  refine ⟨200000, ?_⟩
  rcases great_f (l0 := l0) (l1 := l1) (ms := ms) (a3 := a3) with hg | ⟨hg, hs, hv0, hv1, h300⟩
  · exact .inl (up (f := fun k => capstanlaw08_Great.f k l0 l1 ms a3) (fun k => capstanlaw08_Great.mono _ _ _ _ k) hg _ (by omega))
  · have hlen := hs.len
    have hf : Few ms := great_few hlen hg
    refine .inr ⟨up (f := fun k => capstanlaw08_Great.f k l0 l1 ms a3) (fun k => capstanlaw08_Great.mono _ _ _ _ k) hg _ (by omega), copy_f hs hf hv0 hv1 _ (by omega), same_f hs hf hv0 hv1 _ (by omega), by omega, by omega, by omega, ?_⟩
    refine List.all_eq_true.2 fun x hx => ?_
    obtain ⟨j, hj, rfl⟩ := List.mem_iff_getElem.1 hx
    have e : rd_T34 ms (j : Int) = ms[j] := by simp [rd_T34, hj]
    have a := hf j hj
    have b := h300 (j : Int) (by omega) (by omega)
    rw [e] at a b
    simp only [Bool.and_eq_true, decide_eq_true_eq]
    exact ⟨⟨by omega, by omega⟩, by omega⟩
end Go.Proofs.Ytilhmjhblfpknaa.Pure
