/- Layer 5 in plain terms: code is read. -/
import Derived.Test.YtdfjjooejfgglaaDoorQ4
import Derived.Test.YtdfjjooejfgglaaDoorQ5
import Derived.Test.YtdfjjooejfgglaaDoorLOp
import Derived.Test.YtdfjjooejfgglaaDoorLGet
namespace Go.Proofs.YtdfjjooejfgglaaDoor.M
open Go.RowKit Go.Proofs.YtdfjjooejfgglaaDoor.Q Go.Proofs.YtdfjjooejfgglaaDoorW.PrintWords Go.Proofs.YtdfjjooejfgglaaDoorW.PrintLast Go.Proofs.YtdfjjooejfgglaaDoorW.PrintMore

/-- May an instruction be? -/
def imay (x a : Int) : Bool := decide ((bnd x).1 ≤ a) && decide (a ≤ (bnd x).2)
/-- So many instructions from a place on. -/
def cread (l : List Int) : Nat → Int → List S42 → List S42 × Int × Int
  | 0, a, acc => (acc, a, 0)
  | d + 1, a, acc => if (get l a 1).2.2 = 0 then (if (get l a 1).1 < 33 then (if (bnd (get l a 1).1).2 > 0 then (if (get l (a + 1) 2).2.2 = 0 then (if imay (get l a 1).1 (get l (a + 1) 2).1 = true then cread l d (a + 3) (acc ++ [⟨(get l a 1).1, (get l (a + 1) 2).1, 0⟩]) else ([], 0, 40)) else ([], 0, (get l (a + 1) 2).2.2))
      else (if imay (get l a 1).1 0 = true then cread l d (a + 1) (acc ++ [⟨(get l a 1).1, 0, 0⟩]) else ([], 0, 40))) else ([], 0, 40)) else ([], 0, (get l a 1).2.2)
def cparse (l : List Int) (a : Int) : List S42 × Int × Int := if (get l a 1).2.2 = 0 then (if 0 < (get l a 1).1 ∧ (get l a 1).1 ≤ 200 then cread l (get l a 1).1.toNat (a + 1) [] else ([], 0, 40)) else ([], 0, (get l a 1).2.2)
theorem wide_f (n : Fin 256) (k : Nat) (hk : 5 ≤ k) : code_wide.f k ((n : Nat) : Int) = some (decide ((bnd ((n : Nat) : Int)).2 > 0)) := by
  unfold code_wide.f
  rw [bnd_f n k hk, Option.bind_some]
theorem imay_f (n : Fin 256) (a : Int) (k : Nat) (hk : 5 ≤ k) : op_May.f k ((n : Nat) : Int) a 0 = some (imay ((n : Nat) : Int) a) := by
  rw [opmay_f n a 0 k hk]
  unfold imay
  simp
theorem byte_fin {x : Int} (h : 0 ≤ x ∧ x ≤ 255) : ∃ n : Fin 256, x = ((n : Nat) : Int) := ⟨⟨x.toNat, by omega⟩, by simp; omega⟩
end Go.Proofs.YtdfjjooejfgglaaDoor.M
