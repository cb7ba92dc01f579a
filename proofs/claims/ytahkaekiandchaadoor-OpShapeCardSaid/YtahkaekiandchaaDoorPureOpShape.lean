/- OpShape: of each operation that isn't open at most three are taken, and one given; those are kinds. -/
import Derived.Test.YtahkaekiandchaaDoorR10
import Derived.Test.YtahkaekiandchaaDoorLib
namespace Go.Proofs.YtahkaekiandchaaDoor.Pure
open Go.RowKit Go.Proofs.YtahkaekiandchaaDoor.R Go.Proofs.YtahkaekiandchaaDoor.M Go.Proofs.YtahkaekiandchaaDoorW.PrintWords Go.Proofs.YtahkaekiandchaaDoorW.PrintLast Go.Proofs.YtahkaekiandchaaDoorW.PrintMore

theorem OpShape_all : ∀ n : Fin 256, capstanlaw04_OpShape.f 20 ((n : Nat) : Int) = some true := by decide +kernel
theorem OpShape : capstanlaw04_OpShape.Pure := by
  intro a w
  have h := wf_u8 w
  have h2 := OpShape_all ⟨a.toNat, by omega⟩
  dsimp only at h2
  rw [Int.toNat_of_nonneg h.1] at h2
  exact ⟨20, h2⟩
end Go.Proofs.YtahkaekiandchaaDoor.Pure
