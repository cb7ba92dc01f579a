/- Layer 5 in plain terms: code is read. -/
import Derived.Test.YtdfjjooejfgglaaDoorY2
import Derived.Test.YtdfjjooejfgglaaDoorY3
import Derived.Test.YtdfjjooejfgglaaDoorY5
import Derived.Test.YtdfjjooejfgglaaDoorLOp
import Derived.Test.YtdfjjooejfgglaaDoorLGet
namespace Go.Proofs.YtdfjjooejfgglaaDoor.M
open Go.RowKit Go.Proofs.YtdfjjooejfgglaaDoor.Y Go.Proofs.YtdfjjooejfgglaaDoorW.PrintWords Go.Proofs.YtdfjjooejfgglaaDoorW.PrintLast Go.Proofs.YtdfjjooejfgglaaDoorW.PrintMore

/-- May an instruction be? -/
def imay (x a : Int) : Bool := decide ((bnd x).1 ≤ a) && decide (a ≤ (bnd x).2)
/-- So many instructions from a place on. -/
def cread (l : List Int) : Nat → Int → List S42 → List S42 × Int × Int
  | 0, a, acc => (acc, a, 0)
  | d + 1, a, acc => if (get l a 1).2.2 = 0 then (if (get l a 1).1 < 33 then (if (bnd (get l a 1).1).2 > 0 then (if (get l (a + 1) 2).2.2 = 0 then (if imay (get l a 1).1 (get l (a + 1) 2).1 = true then cread l d (a + 3) (acc ++ [⟨(get l a 1).1, (get l (a + 1) 2).1, 0⟩]) else ([], 0, 40)) else ([], 0, (get l (a + 1) 2).2.2))
      else (if imay (get l a 1).1 0 = true then cread l d (a + 1) (acc ++ [⟨(get l a 1).1, 0, 0⟩]) else ([], 0, 40))) else ([], 0, 40)) else ([], 0, (get l a 1).2.2)
def cparse (l : List Int) (a : Int) : List S42 × Int × Int := if (get l a 1).2.2 = 0 then (if 0 < (get l a 1).1 ∧ (get l a 1).1 ≤ 200 then cread l (get l a 1).1.toNat (a + 1) [] else ([], 0, 40)) else ([], 0, (get l a 1).2.2)
theorem wide_f (n : Fin 256) (k : Nat) (hk : 5 ≤ k) : code_wide.f k ((n : Nat) : Int) = some (decide ((bnd ((n : Nat) : Int)).2 > 0)) := by
  unfold code_wide.f
  rw [bnd_f n k hk, Option.bind_some]
theorem imay_f (n : Fin 256) (a : Int) (k : Nat) (hk : 5 ≤ k) : op_May.f k ((n : Nat) : Int) a 0 = some (imay ((n : Nat) : Int) a) := by
  rw [opmay_f n a 0 k hk]
  unfold imay
  simp
theorem byte_fin {x : Int} (h : 0 ≤ x ∧ x ≤ 255) : ∃ n : Fin 256, x = ((n : Nat) : Int) := ⟨⟨x.toNat, by omega⟩, by simp; omega⟩
theorem cread_f {l : List Int} (hb : isB l) (hl : l.length ≤ 140737488355328) (k : Nat) (hk : 12 ≤ k) : ∀ (d : Nat) (a : Int) (acc : List S42), acc.length + d ≤ 1000 → code_Read.l0 k l d a acc = some (cread l d a acc) := by
  intro d
  induction d with
  | zero => intro a acc _; rfl
  | succ d ih =>
    intro a acc h
    have hbd := st1_bound hb a
    simp only [code_Read.l0]
    rw [get_f l hb hl a 1 k hk, Option.bind_some, cread]
    by_cases h1 : (get l a 1).2.2 = 0
    case neg => rw [if_neg h1, if_neg h1]
    obtain ⟨g1, g2, g3⟩ := got_ok h1
    obtain ⟨n, hn⟩ := byte_fin hbd
    rw [if_pos h1, if_pos h1, g2, show (get l a 1).1 % 256 = (get l a 1).1 by omega, hn, known_f n, Option.bind_some]
    by_cases h2 : (n : Nat) < 33
    case neg => rw [decide_eq_false h2, if_neg (by decide), if_neg (show ¬ (((n : Nat) : Int) < 33) by omega)]
    rw [decide_eq_true h2, if_pos rfl, if_pos (show ((n : Nat) : Int) < 33 by omega), wide_f n k (by omega), Option.bind_some]
    by_cases h3 : (bnd ((n : Nat) : Int)).2 > 0
    · rw [decide_eq_true h3, if_pos rfl, if_pos h3, get_f l hb hl (a + 1) 2 k hk, Option.bind_some]
      by_cases h4 : (get l (a + 1) 2).2.2 = 0
      case neg => rw [if_neg h4, if_neg h4]
      obtain ⟨q1, q2, q3⟩ := got_ok h4
      rw [if_pos h4, if_pos h4, imay_f n _ k (by omega), Option.bind_some, q2, show a + 1 + 2 = a + 3 by omega]
      cases h5 : imay ((n : Nat) : Int) (get l (a + 1) 2).1
      · rw [if_neg (by decide), if_neg (by decide)]
      · rw [if_pos rfl, if_pos rfl, if_pos (by omega)]
        exact ih _ _ (by simp; omega)
    · rw [decide_eq_false h3, if_neg (by decide), if_neg h3, imay_f n _ k (by omega), Option.bind_some]
      cases h5 : imay ((n : Nat) : Int) 0
      · rw [if_neg (by decide), if_neg (by decide)]
      · rw [if_pos rfl, if_pos rfl, if_pos (by omega)]
        exact ih _ _ (by simp; omega)
theorem cparse_f {l : List Int} (hb : isB l) (hl : l.length ≤ 140737488355328) (a : Int) (k : Nat) (hk : 12 ≤ k) : code_Read.f k l a = some (cparse l a) := by
  unfold code_Read.f cparse
  rw [get_f l hb hl a 1 k hk, Option.bind_some]
  by_cases h1 : (get l a 1).2.2 = 0
  case neg => rw [if_neg h1, if_neg h1]
  rw [if_pos h1, if_pos h1]
  by_cases h2 : 0 < (get l a 1).1 ∧ (get l a 1).1 ≤ 200
  · rw [if_pos h2, if_pos h2, (got_ok h1).2.1]
    exact cread_f hb hl k hk _ _ _ (by simp; omega)
  · rw [if_neg h2, if_neg h2]
end Go.Proofs.YtdfjjooejfgglaaDoor.M
