/- OpShapes: any operation takes and gives what the chapter says. -/
import Derived.Test.YtahkaekiandchaaR9
import Derived.Test.YtahkaekiandchaaLib
namespace Go.Proofs.Ytahkaekiandchaa.Pure
open Go.RowKit Go.Proofs.Ytahkaekiandchaa.R Go.Proofs.Ytahkaekiandchaa.M Go.Proofs.YtahkaekiandchaaW.PrintWords Go.Proofs.YtahkaekiandchaaW.PrintLast Go.Proofs.YtahkaekiandchaaW.PrintMore

theorem OpShapes_all : ∀ n : Fin 256, capstanlaw04_OpShapes.f 60 ((n : Nat) : Int) = some true := by decide +kernel
theorem OpShapes : capstanlaw04_OpShapes.Pure := by
  intro a w
  have h := wf_u8 w
  have h2 := OpShapes_all ⟨a.toNat, by omega⟩
  dsimp only at h2
  rw [Int.toNat_of_nonneg h.1] at h2
  exact ⟨60, h2⟩
end Go.Proofs.Ytahkaekiandchaa.Pure
