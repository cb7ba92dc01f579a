/- Contracts of the functions of this seat (each: the call of the function does what the plain Lean function of the same name tells; the conditions stand in each statement). Written by a program of this session and by hand; checked by Lean. -/
import Derived.Test.YtdfjjooejfgglaaDoorQ0
import Derived.Test.YtdfjjooejfgglaaDoorQ2
import Derived.Test.YtdfjjooejfgglaaDoorQ3
import Derived.Test.YtdfjjooejfgglaaDoorQ5
import Derived.Test.YtdfjjooejfgglaaDoorQ6
import Derived.Test.YtdfjjooejfgglaaDoorQ7
namespace Go.Proofs.YtdfjjooejfgglaaDoor.Q
open Go.RowKit Go.Proofs.YtdfjjooejfgglaaDoorW.PrintWords Go.Proofs.YtdfjjooejfgglaaDoorW.PrintLast Go.Proofs.YtdfjjooejfgglaaDoorW.PrintMore
attribute [local go_sem] max2_int min2_int max_two min_two max_three min_three max_four min_four   -- for this text's walks alone
set_option linter.unusedVariables false
set_option linter.unusedSimpArgs false

/-! ### capstanlaw05_CodeTells: function 4 -/
mutual
def capstanlaw05_CodeTells.j0 : Nat → List (S42) → List (S42) → Bool → Option (Bool)
 | 0, _, _, _ => none
 | k + 1, x0, x1, x23 => if x23 = true then (some true) else ((capstanref05_Copy.f x0).bind fun t184 => ((capstanref05_Bytes.f k x0).bind fun bt187 => ((code_Text.f k t184).bind fun bt191 => ((capstanref05_Text.f k x0).bind fun bt193 => (if bt191.1.toList = bt193.1.toList then (if bt191.2 = bt193.2 then ((code_May.f k t184).bind fun t195 => ((capstanref05_May.f k x0).bind fun t196 => (if (t195 != t196) = true then (none) else ((code_Same.f k t184 x1).bind fun t197 => ((capstanref05_Same.f k x0 x1).bind fun t198 => (if (t197 != t198) = true then (none) else ((code_Same.f k t184 x0).bind fun t199 => (capstanlaw05_CodeTells.j1 k x0 t184 bt187.1 bt187.2 (!t199))))))))) else (none)) else (none))))))
def capstanlaw05_CodeTells.j1 : Nat → List (S42) → List (S42) → List Int → Int → Bool → Option (Bool)
 | 0, _, _, _, _, _ => none
 | k + 1, x0, x5, x6, x7, x70 => if x70 = true then (none) else (capstanlaw05_CodeTells.l0 k x0 x5 x6 x7 0)
def capstanlaw05_CodeTells.l0 : Nat → List (S42) → List (S42) → List Int → Int → Int → Option (Bool)
 | 0, _, _, _, _, _ => none
 | k + 1, x0, x5, x6, x7, x12 => if x12 < 2 then ((code_Bytes.f k x5).bind fun bt200 => (if (strOfNums bt200.1).toList = (strOfNums x6).toList then (if bt200.2 = x7 then ((capstanref05_Same.f k x5 x0).bind fun t204 => (capstanlaw05_CodeTells.j3 k x0 x5 x6 x7 x12 bt200.1 (!t204))) else (none)) else (none))) else (some true)
def capstanlaw05_CodeTells.j3 : Nat → List (S42) → List (S42) → List Int → Int → Int → List Int → Bool → Option (Bool)
 | 0, _, _, _, _, _, _, _ => none
 | k + 1, x0, x5, x6, x7, x12, x13, x95 => if x95 = true then (none) else (capstanlaw05_CodeTells.l1 k x0 x5 x6 x7 x12 x13 0)
def capstanlaw05_CodeTells.l1 : Nat → List (S42) → List (S42) → List Int → Int → Int → List Int → Int → Option (Bool)
 | 0, _, _, _, _, _, _, _ => none
 | k + 1, x0, x5, x6, x7, x12, x13, x15 => if x15 < (x13.length : Int) then (if 0 ≤ x15 then (capstanlaw05_CodeTells.l1 k x0 x5 x6 x7 x12 (x13.set (x15 : Int).toNat (((rd x13 x15) + 1) % 256)) (wrap64 (x15 + 1))) else (none)) else (capstanlaw05_CodeTells.l0 k x0 x5 x6 x7 (wrap64 (x12 + 1)))
end
def capstanlaw05_CodeTells.f (k : Nat) (l0 : List (S42)) (l1 : List (S42)) : Option (Bool) := if (l0.length : Int) > 1000 then (capstanlaw05_CodeTells.j0 k l0 l1 true) else (capstanlaw05_CodeTells.j0 k l0 l1 (decide ((l1.length : Int) > 1000)))
theorem capstanlaw05_CodeTells.mono_l : ∀ k, (∀ y0 y1 y2, LeO (capstanlaw05_CodeTells.j0 k y0 y1 y2) (capstanlaw05_CodeTells.j0 (k + 1) y0 y1 y2)) ∧ (∀ y0 y1 y2 y3 y4, LeO (capstanlaw05_CodeTells.j1 k y0 y1 y2 y3 y4) (capstanlaw05_CodeTells.j1 (k + 1) y0 y1 y2 y3 y4)) ∧ (∀ y0 y1 y2 y3 y4, LeO (capstanlaw05_CodeTells.l0 k y0 y1 y2 y3 y4) (capstanlaw05_CodeTells.l0 (k + 1) y0 y1 y2 y3 y4)) ∧ (∀ y0 y1 y2 y3 y4 y5 y6, LeO (capstanlaw05_CodeTells.j3 k y0 y1 y2 y3 y4 y5 y6) (capstanlaw05_CodeTells.j3 (k + 1) y0 y1 y2 y3 y4 y5 y6)) ∧ (∀ y0 y1 y2 y3 y4 y5 y6, LeO (capstanlaw05_CodeTells.l1 k y0 y1 y2 y3 y4 y5 y6) (capstanlaw05_CodeTells.l1 (k + 1) y0 y1 y2 y3 y4 y5 y6))
 | 0 => ⟨fun _ _ _ r h => by simp [capstanlaw05_CodeTells.j0] at h, fun _ _ _ _ _ r h => by simp [capstanlaw05_CodeTells.j1] at h, fun _ _ _ _ _ r h => by simp [capstanlaw05_CodeTells.l0] at h, fun _ _ _ _ _ _ _ r h => by simp [capstanlaw05_CodeTells.j3] at h, fun _ _ _ _ _ _ _ r h => by simp [capstanlaw05_CodeTells.l1] at h⟩
 | k + 1 => by
  obtain ⟨ih0, ih1, ih2, ih3, ih4⟩ := capstanlaw05_CodeTells.mono_l k
  refine ⟨?_, ?_, ?_, ?_, ?_⟩
  ·
   intro y0 y1 y2
   unfold capstanlaw05_CodeTells.j0
   repeat' first
   | (with_reducible exact ih0 _ _ _)
   | (with_reducible exact ih1 _ _ _ _ _)
   | (with_reducible exact ih2 _ _ _ _ _)
   | (with_reducible exact ih3 _ _ _ _ _ _ _)
   | (with_reducible exact ih4 _ _ _ _ _ _ _)
   | (with_reducible exact capstanref05_Bytes.mono _ _)
   | (with_reducible exact capstanref05_May.mono _ _)
   | (with_reducible exact capstanref05_Same.mono _ _ _)
   | (with_reducible exact capstanref05_Text.mono _ _)
   | (with_reducible exact code_Bytes.mono _ _)
   | (with_reducible exact code_May.mono _ _)
   | (with_reducible exact code_Same.mono _ _ _)
   | (with_reducible exact code_Text.mono _ _)
   | (with_reducible exact LeO.refl _)
   | (with_reducible exact LeO.none _)
   | (with_reducible refine LeO.ite ?_ ?_)
   | (with_reducible refine LeO.bind ?_ (fun _ => ?_))
   | exact ih0 _ _ _
   | exact ih1 _ _ _ _ _
   | exact ih2 _ _ _ _ _
   | exact ih3 _ _ _ _ _ _ _
   | exact ih4 _ _ _ _ _ _ _
   | exact capstanref05_Bytes.mono _ _
   | exact capstanref05_May.mono _ _
   | exact capstanref05_Same.mono _ _ _
   | exact capstanref05_Text.mono _ _
   | exact code_Bytes.mono _ _
   | exact code_May.mono _ _
   | exact code_Same.mono _ _ _
   | exact code_Text.mono _ _
   | exact LeO.none _
   | refine LeO.ite ?_ ?_
   | refine LeO.bind ?_ (fun _ => ?_)
  ·
   intro y0 y1 y2 y3 y4
   unfold capstanlaw05_CodeTells.j1
   repeat' first
   | (with_reducible exact ih0 _ _ _)
   | (with_reducible exact ih1 _ _ _ _ _)
   | (with_reducible exact ih2 _ _ _ _ _)
   | (with_reducible exact ih3 _ _ _ _ _ _ _)
   | (with_reducible exact ih4 _ _ _ _ _ _ _)
   | (with_reducible exact capstanref05_Bytes.mono _ _)
   | (with_reducible exact capstanref05_May.mono _ _)
   | (with_reducible exact capstanref05_Same.mono _ _ _)
   | (with_reducible exact capstanref05_Text.mono _ _)
   | (with_reducible exact code_Bytes.mono _ _)
   | (with_reducible exact code_May.mono _ _)
   | (with_reducible exact code_Same.mono _ _ _)
   | (with_reducible exact code_Text.mono _ _)
   | (with_reducible exact LeO.refl _)
   | (with_reducible exact LeO.none _)
   | (with_reducible refine LeO.ite ?_ ?_)
   | (with_reducible refine LeO.bind ?_ (fun _ => ?_))
   | exact ih0 _ _ _
   | exact ih1 _ _ _ _ _
   | exact ih2 _ _ _ _ _
   | exact ih3 _ _ _ _ _ _ _
   | exact ih4 _ _ _ _ _ _ _
   | exact capstanref05_Bytes.mono _ _
   | exact capstanref05_May.mono _ _
   | exact capstanref05_Same.mono _ _ _
   | exact capstanref05_Text.mono _ _
   | exact code_Bytes.mono _ _
   | exact code_May.mono _ _
   | exact code_Same.mono _ _ _
   | exact code_Text.mono _ _
   | exact LeO.none _
   | refine LeO.ite ?_ ?_
   | refine LeO.bind ?_ (fun _ => ?_)
  ·
   intro y0 y1 y2 y3 y4
   unfold capstanlaw05_CodeTells.l0
   repeat' first
   | (with_reducible exact ih0 _ _ _)
   | (with_reducible exact ih1 _ _ _ _ _)
   | (with_reducible exact ih2 _ _ _ _ _)
   | (with_reducible exact ih3 _ _ _ _ _ _ _)
   | (with_reducible exact ih4 _ _ _ _ _ _ _)
   | (with_reducible exact capstanref05_Bytes.mono _ _)
   | (with_reducible exact capstanref05_May.mono _ _)
   | (with_reducible exact capstanref05_Same.mono _ _ _)
   | (with_reducible exact capstanref05_Text.mono _ _)
   | (with_reducible exact code_Bytes.mono _ _)
   | (with_reducible exact code_May.mono _ _)
   | (with_reducible exact code_Same.mono _ _ _)
   | (with_reducible exact code_Text.mono _ _)
   | (with_reducible exact LeO.refl _)
   | (with_reducible exact LeO.none _)
   | (with_reducible refine LeO.ite ?_ ?_)
   | (with_reducible refine LeO.bind ?_ (fun _ => ?_))
   | exact ih0 _ _ _
   | exact ih1 _ _ _ _ _
   | exact ih2 _ _ _ _ _
   | exact ih3 _ _ _ _ _ _ _
   | exact ih4 _ _ _ _ _ _ _
   | exact capstanref05_Bytes.mono _ _
   | exact capstanref05_May.mono _ _
   | exact capstanref05_Same.mono _ _ _
   | exact capstanref05_Text.mono _ _
   | exact code_Bytes.mono _ _
   | exact code_May.mono _ _
   | exact code_Same.mono _ _ _
   | exact code_Text.mono _ _
   | exact LeO.none _
   | refine LeO.ite ?_ ?_
   | refine LeO.bind ?_ (fun _ => ?_)
  ·
   intro y0 y1 y2 y3 y4 y5 y6
   unfold capstanlaw05_CodeTells.j3
   repeat' first
   | (with_reducible exact ih0 _ _ _)
   | (with_reducible exact ih1 _ _ _ _ _)
   | (with_reducible exact ih2 _ _ _ _ _)
   | (with_reducible exact ih3 _ _ _ _ _ _ _)
   | (with_reducible exact ih4 _ _ _ _ _ _ _)
   | (with_reducible exact capstanref05_Bytes.mono _ _)
   | (with_reducible exact capstanref05_May.mono _ _)
   | (with_reducible exact capstanref05_Same.mono _ _ _)
   | (with_reducible exact capstanref05_Text.mono _ _)
   | (with_reducible exact code_Bytes.mono _ _)
   | (with_reducible exact code_May.mono _ _)
   | (with_reducible exact code_Same.mono _ _ _)
   | (with_reducible exact code_Text.mono _ _)
   | (with_reducible exact LeO.refl _)
   | (with_reducible exact LeO.none _)
   | (with_reducible refine LeO.ite ?_ ?_)
   | (with_reducible refine LeO.bind ?_ (fun _ => ?_))
   | exact ih0 _ _ _
   | exact ih1 _ _ _ _ _
   | exact ih2 _ _ _ _ _
   | exact ih3 _ _ _ _ _ _ _
   | exact ih4 _ _ _ _ _ _ _
   | exact capstanref05_Bytes.mono _ _
   | exact capstanref05_May.mono _ _
   | exact capstanref05_Same.mono _ _ _
   | exact capstanref05_Text.mono _ _
   | exact code_Bytes.mono _ _
   | exact code_May.mono _ _
   | exact code_Same.mono _ _ _
   | exact code_Text.mono _ _
   | exact LeO.none _
   | refine LeO.ite ?_ ?_
   | refine LeO.bind ?_ (fun _ => ?_)
  ·
   intro y0 y1 y2 y3 y4 y5 y6
   unfold capstanlaw05_CodeTells.l1
   repeat' first
   | (with_reducible exact ih0 _ _ _)
   | (with_reducible exact ih1 _ _ _ _ _)
   | (with_reducible exact ih2 _ _ _ _ _)
   | (with_reducible exact ih3 _ _ _ _ _ _ _)
   | (with_reducible exact ih4 _ _ _ _ _ _ _)
   | (with_reducible exact capstanref05_Bytes.mono _ _)
   | (with_reducible exact capstanref05_May.mono _ _)
   | (with_reducible exact capstanref05_Same.mono _ _ _)
   | (with_reducible exact capstanref05_Text.mono _ _)
   | (with_reducible exact code_Bytes.mono _ _)
   | (with_reducible exact code_May.mono _ _)
   | (with_reducible exact code_Same.mono _ _ _)
   | (with_reducible exact code_Text.mono _ _)
   | (with_reducible exact LeO.refl _)
   | (with_reducible exact LeO.none _)
   | (with_reducible refine LeO.ite ?_ ?_)
   | (with_reducible refine LeO.bind ?_ (fun _ => ?_))
   | exact ih0 _ _ _
   | exact ih1 _ _ _ _ _
   | exact ih2 _ _ _ _ _
   | exact ih3 _ _ _ _ _ _ _
   | exact ih4 _ _ _ _ _ _ _
   | exact capstanref05_Bytes.mono _ _
   | exact capstanref05_May.mono _ _
   | exact capstanref05_Same.mono _ _ _
   | exact capstanref05_Text.mono _ _
   | exact code_Bytes.mono _ _
   | exact code_May.mono _ _
   | exact code_Same.mono _ _ _
   | exact code_Text.mono _ _
   | exact LeO.none _
   | refine LeO.ite ?_ ?_
   | refine LeO.bind ?_ (fun _ => ?_)
theorem capstanlaw05_CodeTells.mono : ∀ a0 a1 k, LeO (capstanlaw05_CodeTells.f k a0 a1) (capstanlaw05_CodeTells.f (k + 1) a0 a1) := by
 intro a0 a1 k
 obtain ⟨ih0, ih1, ih2, ih3, ih4⟩ := capstanlaw05_CodeTells.mono_l k
 unfold capstanlaw05_CodeTells.f
 repeat' first
   | (with_reducible exact ih0 _ _ _)
   | (with_reducible exact ih1 _ _ _ _ _)
   | (with_reducible exact ih2 _ _ _ _ _)
   | (with_reducible exact ih3 _ _ _ _ _ _ _)
   | (with_reducible exact ih4 _ _ _ _ _ _ _)
   | (with_reducible exact capstanref05_Bytes.mono _ _)
   | (with_reducible exact capstanref05_May.mono _ _)
   | (with_reducible exact capstanref05_Same.mono _ _ _)
   | (with_reducible exact capstanref05_Text.mono _ _)
   | (with_reducible exact code_Bytes.mono _ _)
   | (with_reducible exact code_May.mono _ _)
   | (with_reducible exact code_Same.mono _ _ _)
   | (with_reducible exact code_Text.mono _ _)
   | (with_reducible exact LeO.refl _)
   | (with_reducible exact LeO.none _)
   | (with_reducible refine LeO.ite ?_ ?_)
   | (with_reducible refine LeO.bind ?_ (fun _ => ?_))
   | exact ih0 _ _ _
   | exact ih1 _ _ _ _ _
   | exact ih2 _ _ _ _ _
   | exact ih3 _ _ _ _ _ _ _
   | exact ih4 _ _ _ _ _ _ _
   | exact capstanref05_Bytes.mono _ _
   | exact capstanref05_May.mono _ _
   | exact capstanref05_Same.mono _ _ _
   | exact capstanref05_Text.mono _ _
   | exact code_Bytes.mono _ _
   | exact code_May.mono _ _
   | exact code_Same.mono _ _ _
   | exact code_Text.mono _ _
   | exact LeO.none _
   | refine LeO.ite ?_ ?_
   | refine LeO.bind ?_ (fun _ => ?_)
set_option maxHeartbeats 8000000 in
set_option maxRecDepth 100000 in
theorem capstanlaw05_CodeTells.calls (k : Nat) (A0 : Option Addr) (c0 : Nat) (l0 : List (S42)) (A1 : Option Addr) (c1 : Nat) (l1 : List (S42)) (r : Bool) (w : World) (hG : Gl w) (hr0 : Kd.C k42 w A0 l0.length l0) (hc0 : l0.length ≤ c0) (hr1 : Kd.C k42 w A1 l1.length l1) (hc1 : l1.length ≤ c1) (h : capstanlaw05_CodeTells.f k l0 l1 = some r) :
  Calls Tryd.prog 4 #[.slice A0 l0.length c0, .slice A1 l1.length c1] w fun e w' => e = .returned (.bool r) ∧ Below w.heap.size w w' := by
 have HG := Aside0.mk hG
 clear hG
 have HR0 := Aside0.mk hr0
 have HC0 := Aside0.mk hc0
 clear hr0 hc0
 have HR1 := Aside0.mk hr1
 have HC1 := Aside0.mk hc1
 clear hr1 hc1
 have HB := Aside0.mk (Below.refl w.heap.size w)
 have H : (if (l0.length : Int) > 1000 then (capstanlaw05_CodeTells.j0 k l0 l1 true) else (capstanlaw05_CodeTells.j0 k l0 l1 (decide ((l1.length : Int) > 1000)))) = some r := h
 clear h
 have HC3 := Aside0.mk H
 clear H
 go_enter Tryd.func4, Tryd.ntmps4
 go_upto_region 1 with (fail)
 go_cut [23] (fun v23 wc => ∃ (kq : Nat) (x23_2 : Bool), v23 = .bool x23_2 ∧ Aside0 (capstanlaw05_CodeTells.j0 kq l0 l1 x23_2 = some r) ∧ Aside0 (kq ≤ k) ∧ Aside0 (Below w.heap.size w wc))
 case first =>
  have H := HC3.out
  clear HC3
  by_cases c4 : (l0.length : Int) > 1000
  ·
   rw [if_pos c4] at H
   have c4b0 : decide (1000 < (l0.length : Int)) = true := decide_eq_true c4
   have c4b1 : decide (1000 < l0.length) = true := decide_eq_true (by omega)
   clear c4
   (first | rw [c4b0] | (simp only [i64_w, i32_w]; rw [c4b0]) | skip)
   have H' := Aside0.mk H
   clear H
   go_wp2
   go_meet
   case rel => exact ⟨_, (true), (by first | rfl | (simp; done) | (simp [*]; done)), H', ⟨by first | omega | exact Nat.le_refl _⟩, ⟨by repeat (first | (with_reducible first | exact HB.out | apply below_alloc | apply pw_below_drewN | apply below_drew1) | exact HB.out | exact ⟨HB.out.os, HB.out.tape, HB.out.output, HB.out.size, HB.out.block⟩)⟩⟩
  ·
   rw [if_neg c4] at H
   have c4b0 : decide (1000 < (l0.length : Int)) = false := decide_eq_false c4
   have c4b1 : decide (1000 < l0.length) = false := decide_eq_false (by omega)
   clear c4
   (first | rw [c4b0] | (simp only [i64_w, i32_w]; rw [c4b0]) | skip)
   have H' := Aside0.mk H
   clear H
   go_wp2
   go_meet
   case rel => exact ⟨_, (decide ((l1.length : Int) > 1000)), (by first | rfl | (simp; done) | (simp [*]; done)), H', ⟨by first | omega | exact Nat.le_refl _⟩, ⟨by repeat (first | (with_reducible first | exact HB.out | apply below_alloc | apply pw_below_drewN | apply below_drew1) | exact HB.out | exact ⟨HB.out.os, HB.out.tape, HB.out.output, HB.out.size, HB.out.block⟩)⟩⟩
 case rest =>
  clear HC3
  try clear c1
  try clear p2
  try clear c4
  try clear c4b0
  try clear c4b1
  obtain ⟨kq, x23_2, rfl, HA, HJ2, HB⟩ := hcut
  cases kq with
  | zero => exact absurd HA.out (by simp [capstanlaw05_CodeTells.j0])
  | succ kj2 =>
   have H := HA.out
   clear HA
   simp only [capstanlaw05_CodeTells.j0] at H
   by_cases c5 : x23_2 = true
   ·
    subst c5
    have H1 : (some true) = some r := by rw [if_pos rfl] at H; exact H
    clear H
    have H := H1
    clear H1
    obtain rfl := Option.some.inj H
    go_wp2
    go_ret
    exact ⟨by first | rfl | (simp [errW_none, errW_some] <;> rfl) | (simp [*, errW_none, errW_some] <;> rfl), by repeat (first | (with_reducible first | exact HB.out | apply below_alloc | apply pw_below_drewN | apply below_drew1) | exact HB.out | exact ⟨HB.out.os, HB.out.tape, HB.out.output, HB.out.size, HB.out.block⟩)⟩
   ·
    replace c5 := Bool.eq_false_iff.mpr c5
    subst c5
    have H1 : ((capstanref05_Copy.f l0).bind fun t184 => ((capstanref05_Bytes.f kj2 l0).bind fun bt187 => ((code_Text.f kj2 t184).bind fun bt191 => ((capstanref05_Text.f kj2 l0).bind fun bt193 => (if bt191.1.toList = bt193.1.toList then (if bt191.2 = bt193.2 then ((code_May.f kj2 t184).bind fun t195 => ((capstanref05_May.f kj2 l0).bind fun t196 => (if (t195 != t196) = true then (none) else ((code_Same.f kj2 t184 l1).bind fun t197 => ((capstanref05_Same.f kj2 l0 l1).bind fun t198 => (if (t197 != t198) = true then (none) else ((code_Same.f kj2 t184 l0).bind fun t199 => (capstanlaw05_CodeTells.j1 kj2 l0 t184 bt187.1 bt187.2 (!t199))))))))) else (none)) else (none)))))) = some r := by rw [if_neg (show ¬ (false = true) by decide)] at H; exact H
    clear H
    have H := H1
    clear H1
    replace H := Option.bind_eq_some_iff.mp H
    obtain ⟨t184, A60, H⟩ := H
    replace H : ((capstanref05_Bytes.f kj2 l0).bind fun bt187 => ((code_Text.f kj2 t184).bind fun bt191 => ((capstanref05_Text.f kj2 l0).bind fun bt193 => (if bt191.1.toList = bt193.1.toList then (if bt191.2 = bt193.2 then ((code_May.f kj2 t184).bind fun t195 => ((capstanref05_May.f kj2 l0).bind fun t196 => (if (t195 != t196) = true then (none) else ((code_Same.f kj2 t184 l1).bind fun t197 => ((capstanref05_Same.f kj2 l0 l1).bind fun t198 => (if (t197 != t198) = true then (none) else ((code_Same.f kj2 t184 l0).bind fun t199 => (capstanlaw05_CodeTells.j1 kj2 l0 t184 bt187.1 bt187.2 (!t199))))))))) else (none)) else (none))))) = some r := H
    have A6 := Aside0.mk A60
    clear A60
    replace H := Option.bind_eq_some_iff.mp H
    obtain ⟨⟨t187, t188⟩, A70, H⟩ := H
    replace H : ((code_Text.f kj2 t184).bind fun bt191 => ((capstanref05_Text.f kj2 l0).bind fun bt193 => (if bt191.1.toList = bt193.1.toList then (if bt191.2 = bt193.2 then ((code_May.f kj2 t184).bind fun t195 => ((capstanref05_May.f kj2 l0).bind fun t196 => (if (t195 != t196) = true then (none) else ((code_Same.f kj2 t184 l1).bind fun t197 => ((capstanref05_Same.f kj2 l0 l1).bind fun t198 => (if (t197 != t198) = true then (none) else ((code_Same.f kj2 t184 l0).bind fun t199 => (capstanlaw05_CodeTells.j1 kj2 l0 t184 t187 t188 (!t199))))))))) else (none)) else (none)))) = some r := H
    have A7 := Aside0.mk A70
    clear A70
    replace H := Option.bind_eq_some_iff.mp H
    obtain ⟨⟨t191, t192⟩, A80, H⟩ := H
    replace H : ((capstanref05_Text.f kj2 l0).bind fun bt193 => (if t191.toList = bt193.1.toList then (if t192 = bt193.2 then ((code_May.f kj2 t184).bind fun t195 => ((capstanref05_May.f kj2 l0).bind fun t196 => (if (t195 != t196) = true then (none) else ((code_Same.f kj2 t184 l1).bind fun t197 => ((capstanref05_Same.f kj2 l0 l1).bind fun t198 => (if (t197 != t198) = true then (none) else ((code_Same.f kj2 t184 l0).bind fun t199 => (capstanlaw05_CodeTells.j1 kj2 l0 t184 t187 t188 (!t199))))))))) else (none)) else (none))) = some r := H
    have A8 := Aside0.mk A80
    clear A80
    replace H := Option.bind_eq_some_iff.mp H
    obtain ⟨⟨t193, t194⟩, A90, H⟩ := H
    replace H : (if t191.toList = t193.toList then (if t192 = t194 then ((code_May.f kj2 t184).bind fun t195 => ((capstanref05_May.f kj2 l0).bind fun t196 => (if (t195 != t196) = true then (none) else ((code_Same.f kj2 t184 l1).bind fun t197 => ((capstanref05_Same.f kj2 l0 l1).bind fun t198 => (if (t197 != t198) = true then (none) else ((code_Same.f kj2 t184 l0).bind fun t199 => (capstanlaw05_CodeTells.j1 kj2 l0 t184 t187 t188 (!t199))))))))) else (none)) else (none)) = some r := H
    have A9 := Aside0.mk A90
    clear A90
    have HC10 := Aside0.mk H
    clear H
    go_upto_region 7 with (first | ((with_reducible refine gate_callee (f := 12) rfl ?_); refine goesL_ (some 25) rfl rfl Tryd.func12 (by kernel_rfl) rfl #[.slice A0 l0.length c0] rfl (by (try simp only [List.map_toArray, List.map_cons, List.map_nil]); first | done | rfl | (simp only [List.length_drop, List.length_take]; rfl)) ?_; (with_reducible refine (capstanref05_Copy.calls _ _ l0 t184 _ ?side1 ?side2 A6.out).mono ?_); (case side1 => repeat (first | exact (Kd.C_below HR0.out HB.out) | (with_reducible refine Kd.C_alloc ?_ _) | (with_reducible refine Kd.C_drewN ?_ _) | (with_reducible refine Kd.C_drew ?_))); (case side2 => exact HC0.out); rintro e w11 ⟨v185, rfl, ho0, hb⟩; refine ⟨_, rfl, ?_⟩; have n0_ := Aside0.mk (Kd.R_lower ho0 (below_size (by repeat (first | (with_reducible first | exact HB.out | apply below_alloc | apply pw_below_drewN | apply below_drew1) | exact HB.out | exact ⟨HB.out.os, HB.out.tape, HB.out.output, HB.out.size, HB.out.block⟩)))); have n1_ := Aside0.mk (below_step (by repeat (first | (with_reducible first | exact HB.out | apply below_alloc | apply pw_below_drewN | apply below_drew1) | exact HB.out | exact ⟨HB.out.os, HB.out.tape, HB.out.output, HB.out.size, HB.out.block⟩)) hb); clear HB; have HO186 := n0_; have HB := n1_; clear n0_ n1_; (try clear hb); (try clear hb2); (try clear hk); (try clear hi); (try clear ho0)) | ((with_reducible refine gate_callee (f := 13) rfl ?_); refine goesL_ (some 28) rfl rfl Tryd.func13 (by kernel_rfl) rfl #[.slice A0 l0.length c0] rfl (by (try simp only [List.map_toArray, List.map_cons, List.map_nil]); first | done | rfl | (simp only [List.length_drop, List.length_take]; rfl)) ?_; (with_reducible refine (capstanref05_Bytes.calls kj2 _ _ l0 t187 t188 _ ?side1 ?side2 A7.out).mono ?_); (case side1 => repeat (first | exact (Kd.C_below HR0.out HB.out) | (with_reducible refine Kd.C_alloc ?_ _) | (with_reducible refine Kd.C_drewN ?_ _) | (with_reducible refine Kd.C_drew ?_))); (case side2 => exact HC0.out); rintro e w12 ⟨v189, rfl, ho0, hb⟩; refine ⟨_, rfl, ?_⟩; have n0_ := Aside0.mk (Kd.R_below (by (with_reducible repeat (first | apply Kd.R_alloc | apply Kd.R_drewN | apply Kd.R_drew)); first | exact HO186.out | exact Kd.R_mono (HO186.out) (fun _ h_ => h_.2)) hb); have n1_ := Aside0.mk (Kd.R_lower ho0 (below_size (by repeat (first | (with_reducible first | exact HB.out | apply below_alloc | apply pw_below_drewN | apply below_drew1) | exact HB.out | exact ⟨HB.out.os, HB.out.tape, HB.out.output, HB.out.size, HB.out.block⟩)))); have n2_ := Aside0.mk (below_step (by repeat (first | (with_reducible first | exact HB.out | apply below_alloc | apply pw_below_drewN | apply below_drew1) | exact HB.out | exact ⟨HB.out.os, HB.out.tape, HB.out.output, HB.out.size, HB.out.block⟩)) hb); clear HO186; clear HB; have HO186 := n0_; have HO190 := n1_; have HB := n2_; clear n0_ n1_ n2_; (try clear hb); (try clear hb2); (try clear hk); (try clear hi); (try clear ho0); obtain ⟨Ao13, co13, eo13⟩ := Kd.R_slice HO186.out; subst eo13) | ((with_reducible refine gate_callee (f := 14) rfl ?_); refine goesL_ (some 33) rfl rfl Tryd.func14 (by kernel_rfl) rfl #[.slice Ao13 t184.length co13] rfl (by (try simp only [List.map_toArray, List.map_cons, List.map_nil]); first | done | rfl | (simp only [List.length_drop, List.length_take]; rfl)) ?_; (with_reducible refine (code_Text.calls kj2 _ _ t184 t191 t192 _ ?side1 ?side2 ?side3 A8.out).mono ?_); (case side1 => first | exact HG.out | ((repeat (first | exact HG.out | exact Gl.below HG.out HB.out | (with_reducible refine Gl.alloc ?_ _) | (with_reducible refine Gl.drewN ?_ _) | (with_reducible refine Gl.drew ?_))); done) | exact Gl.below HG.out (by repeat (first | (with_reducible first | exact HB.out | apply below_alloc | apply pw_below_drewN | apply below_drew1) | exact HB.out | exact ⟨HB.out.os, HB.out.tape, HB.out.output, HB.out.size, HB.out.block⟩))); (case side2 => repeat (first | exact (Kd.R_reads' HO186.out).2.2 | (with_reducible refine Kd.C_alloc ?_ _) | (with_reducible refine Kd.C_drewN ?_ _) | (with_reducible refine Kd.C_drew ?_))); (case side3 => exact (Kd.R_reads' HO186.out).2.1); rintro e w14 ⟨rfl, hb⟩; refine ⟨_, rfl, ?_⟩; have n0_ := Aside0.mk (Kd.R_below (by (with_reducible repeat (first | apply Kd.R_alloc | apply Kd.R_drewN | apply Kd.R_drew)); first | exact HO186.out | exact Kd.R_mono (HO186.out) (fun _ h_ => h_.2)) hb); have n1_ := Aside0.mk (Kd.R_below (by (with_reducible repeat (first | apply Kd.R_alloc | apply Kd.R_drewN | apply Kd.R_drew)); first | exact HO190.out | exact Kd.R_mono (HO190.out) (fun _ h_ => h_.2)) hb); have n2_ := Aside0.mk (below_step (by repeat (first | (with_reducible first | exact HB.out | apply below_alloc | apply pw_below_drewN | apply below_drew1) | exact HB.out | exact ⟨HB.out.os, HB.out.tape, HB.out.output, HB.out.size, HB.out.block⟩)) hb); clear HO186; clear HO190; clear HB; have HO186 := n0_; have HO190 := n1_; have HB := n2_; clear n0_ n1_ n2_; (try clear hb); (try clear hb2); (try clear hk); (try clear hi)) | ((with_reducible refine gate_callee (f := 15) rfl ?_); refine goesL_ (some 38) rfl rfl Tryd.func15 (by kernel_rfl) rfl #[.slice A0 l0.length c0] rfl (by (try simp only [List.map_toArray, List.map_cons, List.map_nil]); first | done | rfl | (simp only [List.length_drop, List.length_take]; rfl)) ?_; (with_reducible refine (capstanref05_Text.calls kj2 _ _ l0 t193 t194 _ ?side1 ?side2 A9.out).mono ?_); (case side1 => repeat (first | exact (Kd.C_below HR0.out HB.out) | (with_reducible refine Kd.C_alloc ?_ _) | (with_reducible refine Kd.C_drewN ?_ _) | (with_reducible refine Kd.C_drew ?_))); (case side2 => exact HC0.out); rintro e w15 ⟨rfl, hb⟩; refine ⟨_, rfl, ?_⟩; have n0_ := Aside0.mk (Kd.R_below (by (with_reducible repeat (first | apply Kd.R_alloc | apply Kd.R_drewN | apply Kd.R_drew)); first | exact HO186.out | exact Kd.R_mono (HO186.out) (fun _ h_ => h_.2)) hb); have n1_ := Aside0.mk (Kd.R_below (by (with_reducible repeat (first | apply Kd.R_alloc | apply Kd.R_drewN | apply Kd.R_drew)); first | exact HO190.out | exact Kd.R_mono (HO190.out) (fun _ h_ => h_.2)) hb); have n2_ := Aside0.mk (below_step (by repeat (first | (with_reducible first | exact HB.out | apply below_alloc | apply pw_below_drewN | apply below_drew1) | exact HB.out | exact ⟨HB.out.os, HB.out.tape, HB.out.output, HB.out.size, HB.out.block⟩)) hb); clear HO186; clear HO190; clear HB; have HO186 := n0_; have HO190 := n1_; have HB := n2_; clear n0_ n1_ n2_; (try clear hb); (try clear hb2); (try clear hk); (try clear hi)))
    (try simp only [Act.put, List.setIfInBounds_toArray, List.set_cons_zero, List.set_cons_succ])
    go_cut [70] (fun v70 wc => ∃ (kq : Nat) (x70_9 : Bool), v70 = .bool x70_9 ∧ Aside0 (capstanlaw05_CodeTells.j1 kq l0 t184 t187 t188 x70_9 = some r) ∧ Aside0 (kq ≤ kj2) ∧ Aside0 (Kd.R k42 42 wc w.heap.size (fun _ => True) (.slice Ao13 t184.length co13) t184) ∧ Aside0 (Kd.R (Kd.int .u8) 5 wc w.heap.size (fun _ => True) v189 t187) ∧ Aside0 (Below w.heap.size w wc))
    case first =>
     have H := HC10.out
     clear HC10
     by_cases c16 : t191.toList = t193.toList
     ·
      rw [if_pos c16] at H
      have c16b0 : (t191.toList == t193.toList) = true := beq_iff_eq.mpr c16
      have c16b1 : (t191.toList != t193.toList) = false := bne_eq_false_iff_eq.mpr c16
      clear c16
      (first | rw [c16b0] | (simp only [i64_w, i32_w]; rw [c16b0]) | skip)
      by_cases c17 : t192 = t194
      ·
       rw [if_pos c17] at H
       have c17b0 : (t192 == t194) = true := beq_iff_eq.mpr c17
       have c17b1 : (t192 != t194) = false := bne_eq_false_iff_eq.mpr c17
       clear c17
       replace H := Option.bind_eq_some_iff.mp H
       obtain ⟨t195, A180, H⟩ := H
       replace H : ((capstanref05_May.f kj2 l0).bind fun t196 => (if (t195 != t196) = true then (none) else ((code_Same.f kj2 t184 l1).bind fun t197 => ((capstanref05_Same.f kj2 l0 l1).bind fun t198 => (if (t197 != t198) = true then (none) else ((code_Same.f kj2 t184 l0).bind fun t199 => (capstanlaw05_CodeTells.j1 kj2 l0 t184 t187 t188 (!t199)))))))) = some r := H
       have A18 := Aside0.mk A180
       clear A180
       replace H := Option.bind_eq_some_iff.mp H
       obtain ⟨t196, A190, H⟩ := H
       replace H : (if (t195 != t196) = true then (none) else ((code_Same.f kj2 t184 l1).bind fun t197 => ((capstanref05_Same.f kj2 l0 l1).bind fun t198 => (if (t197 != t198) = true then (none) else ((code_Same.f kj2 t184 l0).bind fun t199 => (capstanlaw05_CodeTells.j1 kj2 l0 t184 t187 t188 (!t199))))))) = some r := H
       have A19 := Aside0.mk A190
       clear A190
       by_cases c20 : (t195 != t196) = true
       ·
        rw [if_pos c20] at H
        exact absurd H (by simp)
       ·
        rw [if_neg c20] at H
        have c20b0 : (t195 != t196) = false := by simpa using c20
        (try (have c20b1 : decide (t195 = t196) = true := by first | (simp; done) | simpa using c20))
        (try (have c20b2 : (t195 == t196) = true := by first | (simp; done) | simpa using c20))
        clear c20
        replace H := Option.bind_eq_some_iff.mp H
        obtain ⟨t197, A210, H⟩ := H
        replace H : ((capstanref05_Same.f kj2 l0 l1).bind fun t198 => (if (t197 != t198) = true then (none) else ((code_Same.f kj2 t184 l0).bind fun t199 => (capstanlaw05_CodeTells.j1 kj2 l0 t184 t187 t188 (!t199))))) = some r := H
        have A21 := Aside0.mk A210
        clear A210
        replace H := Option.bind_eq_some_iff.mp H
        obtain ⟨t198, A220, H⟩ := H
        replace H : (if (t197 != t198) = true then (none) else ((code_Same.f kj2 t184 l0).bind fun t199 => (capstanlaw05_CodeTells.j1 kj2 l0 t184 t187 t188 (!t199)))) = some r := H
        have A22 := Aside0.mk A220
        clear A220
        by_cases c23 : (t197 != t198) = true
        ·
         rw [if_pos c23] at H
         exact absurd H (by simp)
        ·
         rw [if_neg c23] at H
         have c23b0 : (t197 != t198) = false := by simpa using c23
         (try (have c23b1 : decide (t197 = t198) = true := by first | (simp; done) | simpa using c23))
         (try (have c23b2 : (t197 == t198) = true := by first | (simp; done) | simpa using c23))
         clear c23
         replace H := Option.bind_eq_some_iff.mp H
         obtain ⟨t199, A240, H⟩ := H
         replace H : (capstanlaw05_CodeTells.j1 kj2 l0 t184 t187 t188 (!t199)) = some r := H
         have A24 := Aside0.mk A240
         clear A240
         have H' := Aside0.mk H
         clear H
         go_wp2_with (first | ((fail_if_success (have h_ := w25)); go_at_call 16; (with_reducible refine (code_May.calls kj2 _ _ t184 t195 _ ?side1 ?side2 ?side3 A18.out).mono ?_); (case side1 => first | exact HG.out | ((repeat (first | exact HG.out | exact Gl.below HG.out HB.out | (with_reducible refine Gl.alloc ?_ _) | (with_reducible refine Gl.drewN ?_ _) | (with_reducible refine Gl.drew ?_))); done) | exact Gl.below HG.out (by repeat (first | (with_reducible first | exact HB.out | apply below_alloc | apply pw_below_drewN | apply below_drew1) | exact HB.out | exact ⟨HB.out.os, HB.out.tape, HB.out.output, HB.out.size, HB.out.block⟩))); (case side2 => repeat (first | exact (Kd.R_reads' HO186.out).2.2 | (with_reducible refine Kd.C_alloc ?_ _) | (with_reducible refine Kd.C_drewN ?_ _) | (with_reducible refine Kd.C_drew ?_))); (case side3 => exact (Kd.R_reads' HO186.out).2.1); rintro e w25 ⟨rfl, hb⟩; have n0_ := Aside0.mk (Kd.R_below (by (with_reducible repeat (first | apply Kd.R_alloc | apply Kd.R_drewN | apply Kd.R_drew)); first | exact HO186.out | exact Kd.R_mono (HO186.out) (fun _ h_ => h_.2)) hb); have n1_ := Aside0.mk (Kd.R_below (by (with_reducible repeat (first | apply Kd.R_alloc | apply Kd.R_drewN | apply Kd.R_drew)); first | exact HO190.out | exact Kd.R_mono (HO190.out) (fun _ h_ => h_.2)) hb); have n2_ := Aside0.mk (below_step (by repeat (first | (with_reducible first | exact HB.out | apply below_alloc | apply pw_below_drewN | apply below_drew1) | exact HB.out | exact ⟨HB.out.os, HB.out.tape, HB.out.output, HB.out.size, HB.out.block⟩)) hb); clear HO186; clear HO190; clear HB; have HO186 := n0_; have HO190 := n1_; have HB := n2_; clear n0_ n1_ n2_; (try clear hb); (try clear hb2); (try clear hk); (try clear hi)) | ((fail_if_success (have h_ := w26)); go_at_call 17; (with_reducible refine (capstanref05_May.calls kj2 _ _ l0 t196 _ ?side1 ?side2 A19.out).mono ?_); (case side1 => repeat (first | exact (Kd.C_below HR0.out HB.out) | (with_reducible refine Kd.C_alloc ?_ _) | (with_reducible refine Kd.C_drewN ?_ _) | (with_reducible refine Kd.C_drew ?_))); (case side2 => exact HC0.out); rintro e w26 ⟨rfl, hb⟩; have n0_ := Aside0.mk (Kd.R_below (by (with_reducible repeat (first | apply Kd.R_alloc | apply Kd.R_drewN | apply Kd.R_drew)); first | exact HO186.out | exact Kd.R_mono (HO186.out) (fun _ h_ => h_.2)) hb); have n1_ := Aside0.mk (Kd.R_below (by (with_reducible repeat (first | apply Kd.R_alloc | apply Kd.R_drewN | apply Kd.R_drew)); first | exact HO190.out | exact Kd.R_mono (HO190.out) (fun _ h_ => h_.2)) hb); have n2_ := Aside0.mk (below_step (by repeat (first | (with_reducible first | exact HB.out | apply below_alloc | apply pw_below_drewN | apply below_drew1) | exact HB.out | exact ⟨HB.out.os, HB.out.tape, HB.out.output, HB.out.size, HB.out.block⟩)) hb); clear HO186; clear HO190; clear HB; have HO186 := n0_; have HO190 := n1_; have HB := n2_; clear n0_ n1_ n2_; (try clear hb); (try clear hb2); (try clear hk); (try clear hi)) | (go_at_call 18; (with_reducible refine (code_Same.calls kj2 _ _ t184 _ _ l1 t197 _ ?side1 ?side2 ?side3 ?side4 A21.out).mono ?_); (case side1 => repeat (first | exact (Kd.R_reads' HO186.out).2.2 | (with_reducible refine Kd.C_alloc ?_ _) | (with_reducible refine Kd.C_drewN ?_ _) | (with_reducible refine Kd.C_drew ?_))); (case side2 => exact (Kd.R_reads' HO186.out).2.1); (case side3 => repeat (first | exact (Kd.C_below HR1.out HB.out) | (with_reducible refine Kd.C_alloc ?_ _) | (with_reducible refine Kd.C_drewN ?_ _) | (with_reducible refine Kd.C_drew ?_))); (case side4 => exact HC1.out); rintro e w' ⟨rfl, ⟨nd, rfl⟩⟩) | (go_at_call 11; (with_reducible refine (capstanref05_Same.calls kj2 _ _ l0 _ _ l1 t198 _ ?side1 ?side2 ?side3 ?side4 A22.out).mono ?_); (case side1 => repeat (first | exact (Kd.C_below HR0.out (by repeat (first | (with_reducible first | exact HB.out | apply below_alloc | apply pw_below_drewN | apply below_drew1) | exact HB.out | exact ⟨HB.out.os, HB.out.tape, HB.out.output, HB.out.size, HB.out.block⟩))) | (with_reducible refine Kd.C_alloc ?_ _) | (with_reducible refine Kd.C_drewN ?_ _) | (with_reducible refine Kd.C_drew ?_))); (case side2 => exact HC0.out); (case side3 => repeat (first | exact (Kd.C_below HR1.out (by repeat (first | (with_reducible first | exact HB.out | apply below_alloc | apply pw_below_drewN | apply below_drew1) | exact HB.out | exact ⟨HB.out.os, HB.out.tape, HB.out.output, HB.out.size, HB.out.block⟩))) | (with_reducible refine Kd.C_alloc ?_ _) | (with_reducible refine Kd.C_drewN ?_ _) | (with_reducible refine Kd.C_drew ?_))); (case side4 => exact HC1.out); rintro e w' ⟨rfl, ⟨nd, rfl⟩⟩) | (go_at_call 18; (with_reducible refine (code_Same.calls kj2 _ _ t184 _ _ l0 t199 _ ?side1 ?side2 ?side3 ?side4 A24.out).mono ?_); (case side1 => repeat (first | exact (Kd.R_reads' HO186.out).2.2 | (with_reducible refine Kd.C_alloc ?_ _) | (with_reducible refine Kd.C_drewN ?_ _) | (with_reducible refine Kd.C_drew ?_))); (case side2 => exact (Kd.R_reads' HO186.out).2.1); (case side3 => repeat (first | exact (Kd.C_below HR0.out (by repeat (first | (with_reducible first | exact HB.out | apply below_alloc | apply pw_below_drewN | apply below_drew1) | exact HB.out | exact ⟨HB.out.os, HB.out.tape, HB.out.output, HB.out.size, HB.out.block⟩))) | (with_reducible refine Kd.C_alloc ?_ _) | (with_reducible refine Kd.C_drewN ?_ _) | (with_reducible refine Kd.C_drew ?_))); (case side4 => exact HC0.out); rintro e w' ⟨rfl, ⟨nd, rfl⟩⟩))
         go_meet
         case rel => exact ⟨_, (!t199), (by first | rfl | (simp; done) | (simp [*]; done)), H', ⟨by have := HJ2.out; first | omega | exact Nat.le_refl _⟩, ⟨by (with_reducible repeat (first | apply Kd.R_alloc | apply Kd.R_drewN | apply Kd.R_drew)); first | exact HO186.out | exact Kd.R_mono (HO186.out) (fun _ h_ => h_.2)⟩, ⟨by (with_reducible repeat (first | apply Kd.R_alloc | apply Kd.R_drewN | apply Kd.R_drew)); first | exact HO190.out | exact Kd.R_mono (HO190.out) (fun _ h_ => h_.2)⟩, ⟨by repeat (first | (with_reducible first | exact HB.out | apply below_alloc | apply pw_below_drewN | apply below_drew1) | exact HB.out | exact ⟨HB.out.os, HB.out.tape, HB.out.output, HB.out.size, HB.out.block⟩)⟩⟩
      ·
       rw [if_neg c17] at H
       exact absurd H (by simp)
     ·
      rw [if_neg c16] at H
      exact absurd H (by simp)
    case rest =>
     clear HC10
     try clear c1
     try clear c2
     try clear p2
     try clear c4
     try clear c4b0
     try clear c4b1
     try clear c5
     try clear c12
     try clear c13
     try clear c14
     try clear c15
     try clear c16
     try clear c16b0
     try clear c16b1
     try clear c17
     try clear c17b0
     try clear c17b1
     try clear c20
     try clear c20b0
     try clear c20b1
     try clear c20b2
     try clear c23
     try clear c23b0
     try clear c23b1
     try clear c23b2
     try clear p2
     obtain ⟨kq, x70_9, rfl, HA, HJ9, HO_5, HO_6, HB⟩ := hcut
     cases kq with
     | zero => exact absurd HA.out (by simp [capstanlaw05_CodeTells.j1])
     | succ kj9 =>
      have H := HA.out
      clear HA
      simp only [capstanlaw05_CodeTells.j1] at H
      by_cases c27 : x70_9 = true
      ·
       subst c27
       have H1 : (none) = some r := by rw [if_pos rfl] at H; exact H
       clear H
       have H := H1
       clear H1
       exact absurd H (by simp)
      ·
       replace c27 := Bool.eq_false_iff.mpr c27
       subst c27
       have H1 : (capstanlaw05_CodeTells.l0 kj9 l0 t184 t187 t188 0) = some r := by rw [if_neg (show ¬ (false = true) by decide)] at H; exact H
       clear H
       have H := H1
       clear H1
       have H' := Aside0.mk H
       clear H
       go_wp2
       go_loopg [12] kj9 (fun kq v12 w' => ∃ (x6_3 : List Int) (x12_3 : Int), v12 = .int .i64 x12_3 ∧ Aside0 (capstanlaw05_CodeTells.l0 kq l0 t184 x6_3 t188 x12_3 = some r) ∧ Aside0 (kq ≤ kj9) ∧ Aside0 (Kd.R k42 42 w' w.heap.size (fun _ => True) (.slice Ao13 t184.length co13) t184) ∧ Aside0 (Kd.R (Kd.int .u8) 5 w' w.heap.size (fun _ => True) v189 x6_3) ∧ Aside0 (Below w.heap.size w w'))
       case atStart => exact ⟨(t187), (0), (by first | rfl | (simp; done) | (simp [*]; done)), H', ⟨Nat.le_refl _⟩, ⟨by (with_reducible repeat (first | apply Kd.R_alloc | apply Kd.R_drewN | apply Kd.R_drew)); first | exact HO_5.out | exact Kd.R_mono (HO_5.out) (fun _ h_ => h_.2)⟩, ⟨by (with_reducible repeat (first | apply Kd.R_alloc | apply Kd.R_drewN | apply Kd.R_drew)); first | exact HO_6.out | exact Kd.R_mono (HO_6.out) (fun _ h_ => h_.2)⟩, ⟨by repeat (first | (with_reducible first | exact HB.out | apply below_alloc | apply pw_below_drewN | apply below_drew1) | exact HB.out | exact ⟨HB.out.os, HB.out.tape, HB.out.output, HB.out.size, HB.out.block⟩)⟩⟩
       case round =>
        clear H'
        try clear c1
        try clear c2
        try clear p2
        try clear c4
        try clear c4b0
        try clear c4b1
        try clear c5
        try clear c12
        try clear c13
        try clear c14
        try clear c15
        try clear c16
        try clear c16b0
        try clear c16b1
        try clear c17
        try clear c17b0
        try clear c17b1
        try clear c20
        try clear c20b0
        try clear c20b1
        try clear c20b2
        try clear c23
        try clear c23b0
        try clear c23b1
        try clear c23b2
        try clear c27
        try clear p2
        obtain ⟨x6_3, x12_3, rfl, HA, HK3, HO_5, HO_6, HB⟩ := hrel
        cases gk with
        | zero => exact absurd HA.out (by simp [capstanlaw05_CodeTells.l0])
        | succ k3 =>
         have H := HA.out
         clear HA
         simp only [capstanlaw05_CodeTells.l0] at H
         by_cases c28 : x12_3 < 2
         ·
          rw [if_pos c28] at H
          have c28b0 : decide (x12_3 < 2) = true := decide_eq_true c28
          clear c28
          replace H := Option.bind_eq_some_iff.mp H
          obtain ⟨⟨t200, t201⟩, A290, H⟩ := H
          replace H : (if (strOfNums t200).toList = (strOfNums x6_3).toList then (if t201 = t188 then ((capstanref05_Same.f k3 t184 l0).bind fun t204 => (capstanlaw05_CodeTells.j3 k3 l0 t184 x6_3 t188 x12_3 t200 (!t204))) else (none)) else (none)) = some r := H
          have A29 := Aside0.mk A290
          clear A290
          have HC30 := Aside0.mk H
          clear H
          go_upto_region 13 with (first | ((with_reducible refine gate_callee (f := 19) rfl ?_); refine goesL_ (some 77) rfl rfl Tryd.func19 (by kernel_rfl) rfl #[.slice Ao13 t184.length co13] rfl (by (try simp only [List.map_toArray, List.map_cons, List.map_nil]); first | done | rfl | (simp only [List.length_drop, List.length_take]; rfl)) ?_; (with_reducible refine (code_Bytes.calls k3 _ _ t184 t200 t201 _ ?side1 ?side2 ?side3 A29.out).mono ?_); (case side1 => first | exact HG.out | ((repeat (first | exact HG.out | exact Gl.below HG.out HB.out | (with_reducible refine Gl.alloc ?_ _) | (with_reducible refine Gl.drewN ?_ _) | (with_reducible refine Gl.drew ?_))); done) | exact Gl.below HG.out (by repeat (first | (with_reducible first | exact HB.out | apply below_alloc | apply pw_below_drewN | apply below_drew1) | exact HB.out | exact ⟨HB.out.os, HB.out.tape, HB.out.output, HB.out.size, HB.out.block⟩))); (case side2 => repeat (first | exact (Kd.R_reads' HO_5.out).2.2 | (with_reducible refine Kd.C_alloc ?_ _) | (with_reducible refine Kd.C_drewN ?_ _) | (with_reducible refine Kd.C_drew ?_))); (case side3 => exact (Kd.R_reads' HO_5.out).2.1); rintro e w31 ⟨v202, rfl, ho0, hb⟩; refine ⟨_, rfl, ?_⟩; have n0_ := Aside0.mk (Kd.R_below (by (with_reducible repeat (first | apply Kd.R_alloc | apply Kd.R_drewN | apply Kd.R_drew)); first | exact HO_5.out | exact Kd.R_mono (HO_5.out) (fun _ h_ => h_.2)) hb); have n1_ := Aside0.mk (Kd.R_elder' (by (with_reducible repeat (first | apply Kd.R_alloc | apply Kd.R_drewN | apply Kd.R_drew)); first | exact HO_6.out | exact Kd.R_mono (HO_6.out) (fun _ h_ => h_.2)) (Kd.R_base ho0) hb); have n2_ := Aside0.mk (Kd.R_lower (Kd.R_new' ho0 (Kd.R_lt (by (with_reducible repeat (first | apply Kd.R_alloc | apply Kd.R_drewN | apply Kd.R_drew)); first | exact HO_6.out | exact Kd.R_mono (HO_6.out) (fun _ h_ => h_.2)))) (below_size (by repeat (first | (with_reducible first | exact HB.out | apply below_alloc | apply pw_below_drewN | apply below_drew1) | exact HB.out | exact ⟨HB.out.os, HB.out.tape, HB.out.output, HB.out.size, HB.out.block⟩)))); have n3_ := Aside0.mk (below_step (by repeat (first | (with_reducible first | exact HB.out | apply below_alloc | apply pw_below_drewN | apply below_drew1) | exact HB.out | exact ⟨HB.out.os, HB.out.tape, HB.out.output, HB.out.size, HB.out.block⟩)) hb); clear HO_5; clear HO_6; clear HB; have HO_5 := n0_; have HO_6 := n1_; have HO203 := n2_; have HB := n3_; clear n0_ n1_ n2_ n3_; (try clear hb); (try clear hb2); (try clear hk); (try clear hi); (try clear ho0)))
          (try simp only [Act.put, List.setIfInBounds_toArray, List.set_cons_zero, List.set_cons_succ])
          go_cut [95] (fun v95 wc => ∃ (kq : Nat) (x95_29 : Bool), v95 = .bool x95_29 ∧ Aside0 (capstanlaw05_CodeTells.j3 kq l0 t184 x6_3 t188 x12_3 t200 x95_29 = some r) ∧ Aside0 (kq ≤ k3) ∧ Aside0 (Kd.R k42 42 wc w.heap.size (fun _ => True) (.slice Ao13 t184.length co13) t184) ∧ Aside0 (Kd.R (Kd.int .u8) 5 wc w.heap.size (fun k_ => some k_ ≠ (v202 : Value).ownBlock) v189 x6_3) ∧ Aside0 (Kd.R (Kd.int .u8) 5 wc w.heap.size (fun k_ => some k_ ≠ (v189 : Value).ownBlock) v202 t200) ∧ Aside0 (Below w.heap.size w wc))
          case first =>
           have H := HC30.out
           clear HC30
           by_cases c32 : (strOfNums t200).toList = (strOfNums x6_3).toList
           ·
            rw [if_pos c32] at H
            have c32b0 : ((strOfNums t200).toList == (strOfNums x6_3).toList) = true := beq_iff_eq.mpr c32
            have c32b1 : ((strOfNums t200).toList != (strOfNums x6_3).toList) = false := bne_eq_false_iff_eq.mpr c32
            clear c32
            (first | rw [c32b0] | (simp only [i64_w, i32_w]; rw [c32b0]) | skip)
            by_cases c33 : t201 = t188
            ·
             rw [if_pos c33] at H
             have c33b0 : (t201 == t188) = true := beq_iff_eq.mpr c33
             have c33b1 : (t201 != t188) = false := bne_eq_false_iff_eq.mpr c33
             clear c33
             replace H := Option.bind_eq_some_iff.mp H
             obtain ⟨t204, A340, H⟩ := H
             replace H : (capstanlaw05_CodeTells.j3 k3 l0 t184 x6_3 t188 x12_3 t200 (!t204)) = some r := H
             have A34 := Aside0.mk A340
             clear A340
             have H' := Aside0.mk H
             clear H
             have hcv35 := own_string (P := Tryd.prog) Tryd.underlying22 Tryd.underlying5 Tryd.underlying9 (Kd.own_of_R HO203.out)
             (try have hcv36 := fun n_ : Nat => own_string (P := Tryd.prog) Tryd.underlying22 Tryd.underlying5 Tryd.underlying9 (Kd.own_of_R (Kd.R_drewN HO203.out n_)))
             have hcv37 := own_string (P := Tryd.prog) Tryd.underlying22 Tryd.underlying5 Tryd.underlying9 (Kd.own_of_R HO_6.out)
             (try have hcv38 := fun n_ : Nat => own_string (P := Tryd.prog) Tryd.underlying22 Tryd.underlying5 Tryd.underlying9 (Kd.own_of_R (Kd.R_drewN HO_6.out n_)))
             go_wp2_with (first | (go_at_call 11; (with_reducible refine (capstanref05_Same.calls k3 _ _ t184 _ _ l0 t204 _ ?side1 ?side2 ?side3 ?side4 A34.out).mono ?_); (case side1 => repeat (first | exact (Kd.R_reads' HO_5.out).2.2 | (with_reducible refine Kd.C_alloc ?_ _) | (with_reducible refine Kd.C_drewN ?_ _) | (with_reducible refine Kd.C_drew ?_))); (case side2 => exact (Kd.R_reads' HO_5.out).2.1); (case side3 => repeat (first | exact (Kd.C_below HR0.out HB.out) | (with_reducible refine Kd.C_alloc ?_ _) | (with_reducible refine Kd.C_drewN ?_ _) | (with_reducible refine Kd.C_drew ?_))); (case side4 => exact HC0.out); rintro e w' ⟨rfl, ⟨nd, rfl⟩⟩))
             go_meet
             case rel => exact ⟨_, (!t204), (by first | rfl | (simp; done) | (simp [*]; done)), H', ⟨by have := HJ2.out; have := HJ9.out; have := HK3.out; first | omega | exact Nat.le_refl _⟩, ⟨by (with_reducible repeat (first | apply Kd.R_alloc | apply Kd.R_drewN | apply Kd.R_drew)); first | exact HO_5.out | exact Kd.R_mono (HO_5.out) (fun _ h_ => h_.2)⟩, ⟨by (with_reducible repeat (first | apply Kd.R_alloc | apply Kd.R_drewN | apply Kd.R_drew)); first | exact Kd.R_mono HO_6.out (fun _ hk => hk.2) | exact Kd.R_mono (Kd.R_mono HO_6.out (fun _ hk => hk.2)) (fun _ h_ => h_.2)⟩, ⟨by (with_reducible repeat (first | apply Kd.R_alloc | apply Kd.R_drewN | apply Kd.R_drew)); first | exact Kd.R_mono HO203.out (fun _ hk => hk.2) | exact Kd.R_mono (Kd.R_mono HO203.out (fun _ hk => hk.2)) (fun _ h_ => h_.2)⟩, ⟨by repeat (first | (with_reducible first | exact HB.out | apply below_alloc | apply pw_below_drewN | apply below_drew1) | exact HB.out | exact ⟨HB.out.os, HB.out.tape, HB.out.output, HB.out.size, HB.out.block⟩)⟩⟩
            ·
             rw [if_neg c33] at H
             exact absurd H (by simp)
           ·
            rw [if_neg c32] at H
            exact absurd H (by simp)
          case rest =>
           clear HC30
           try clear c1
           try clear c2
           try clear p2
           try clear c3
           try clear hcv3
           try clear c4
           try clear c4b0
           try clear c4b1
           try clear c5
           try clear c12
           try clear c13
           try clear c14
           try clear c15
           try clear c16
           try clear c16b0
           try clear c16b1
           try clear c17
           try clear c17b0
           try clear c17b1
           try clear c19
           try clear c20
           try clear c20b0
           try clear c20b1
           try clear c20b2
           try clear c23
           try clear c23b0
           try clear c23b1
           try clear c23b2
           try clear c27
           try clear c28
           try clear c28b0
           try clear c32
           try clear c32b0
           try clear c32b1
           try clear c33
           try clear c33b0
           try clear c33b1
           try clear hcv35
           try clear hcv36
           try clear hcv37
           try clear hcv38
           try clear p2
           obtain ⟨kq, x95_29, rfl, HA, HJ29, HO_5, HO_6, HO_13, HB⟩ := hcut
           cases kq with
           | zero => exact absurd HA.out (by simp [capstanlaw05_CodeTells.j3])
           | succ kj29 =>
            have H := HA.out
            clear HA
            simp only [capstanlaw05_CodeTells.j3] at H
            by_cases c39 : x95_29 = true
            ·
             subst c39
             have H1 : (none) = some r := by rw [if_pos rfl] at H; exact H
             clear H
             have H := H1
             clear H1
             exact absurd H (by simp)
            ·
             replace c39 := Bool.eq_false_iff.mpr c39
             subst c39
             have H1 : (capstanlaw05_CodeTells.l1 kj29 l0 t184 x6_3 t188 x12_3 t200 0) = some r := by rw [if_neg (show ¬ (false = true) by decide)] at H; exact H
             clear H
             have H := H1
             clear H1
             have H' := Aside0.mk H
             clear H
             go_wp2
             go_loopg [15] kj29 (fun kq v15 w' => ∃ (x13_5 : List Int) (x15_5 : Int), v15 = .int .i64 x15_5 ∧ Aside0 (capstanlaw05_CodeTells.l1 kq l0 t184 x6_3 t188 x12_3 x13_5 x15_5 = some r) ∧ Aside0 (kq ≤ kj29) ∧ Aside0 (Kd.R k42 42 w' w.heap.size (fun _ => True) (.slice Ao13 t184.length co13) t184) ∧ Aside0 (Kd.R (Kd.int .u8) 5 w' w.heap.size (fun k_ => some k_ ≠ (v202 : Value).ownBlock) v189 x6_3) ∧ Aside0 (Kd.R (Kd.int .u8) 5 w' w.heap.size (fun k_ => some k_ ≠ (v189 : Value).ownBlock) v202 x13_5) ∧ Aside0 (Below w.heap.size w w'))
             case atStart => exact ⟨(t200), (0), (by first | rfl | (simp; done) | (simp [*]; done)), H', ⟨Nat.le_refl _⟩, ⟨by (with_reducible repeat (first | apply Kd.R_alloc | apply Kd.R_drewN | apply Kd.R_drew)); first | exact HO_5.out | exact Kd.R_mono (HO_5.out) (fun _ h_ => h_.2)⟩, ⟨by (with_reducible repeat (first | apply Kd.R_alloc | apply Kd.R_drewN | apply Kd.R_drew)); first | exact HO_6.out | exact Kd.R_mono (HO_6.out) (fun _ h_ => h_.2)⟩, ⟨by (with_reducible repeat (first | apply Kd.R_alloc | apply Kd.R_drewN | apply Kd.R_drew)); first | exact HO_13.out | exact Kd.R_mono (HO_13.out) (fun _ h_ => h_.2)⟩, ⟨by repeat (first | (with_reducible first | exact HB.out | apply below_alloc | apply pw_below_drewN | apply below_drew1) | exact HB.out | exact ⟨HB.out.os, HB.out.tape, HB.out.output, HB.out.size, HB.out.block⟩)⟩⟩
             case round =>
              clear H'
              try clear c1
              try clear c2
              try clear p2
              try clear c3
              try clear hcv3
              try clear c4
              try clear c4b0
              try clear c4b1
              try clear c5
              try clear c12
              try clear c13
              try clear c14
              try clear c15
              try clear c16
              try clear c16b0
              try clear c16b1
              try clear c17
              try clear c17b0
              try clear c17b1
              try clear c19
              try clear c20
              try clear c20b0
              try clear c20b1
              try clear c20b2
              try clear c23
              try clear c23b0
              try clear c23b1
              try clear c23b2
              try clear c27
              try clear c28
              try clear c28b0
              try clear c32
              try clear c32b0
              try clear c32b1
              try clear c33
              try clear c33b0
              try clear c33b1
              try clear hcv35
              try clear hcv36
              try clear hcv37
              try clear hcv38
              try clear c39
              try clear p2
              obtain ⟨x13_5, x15_5, rfl, HA, HK5, HO_5, HO_6, HO_13, HB⟩ := hrel
              cases gk with
              | zero => exact absurd HA.out (by simp [capstanlaw05_CodeTells.l1])
              | succ k5 =>
               have H := HA.out
               clear HA
               simp only [capstanlaw05_CodeTells.l1] at H
               by_cases c40 : x15_5 < (x13_5.length : Int)
               ·
                rw [if_pos c40] at H
                have c40b0 : decide (x15_5 < (x13_5.length : Int)) = true := decide_eq_true c40
                clear c40
                by_cases c41 : 0 ≤ x15_5
                ·
                 rw [if_pos c41] at H
                 have c41b0 : decide (0 ≤ x15_5) = true := decide_eq_true c41
                 clear c41
                 obtain ⟨y206, hy206⟩ : ∃ y_ : List Int, y_ = (x13_5.set (x15_5 : Int).toNat (((rd x13_5 x15_5) + 1) % 256)) := ⟨_, rfl⟩
                 replace H : (capstanlaw05_CodeTells.l1 k5 l0 t184 x6_3 t188 x12_3 y206 (wrap64 (x15_5 + 1))) = some r := by first | (rw [hy206]; with_reducible exact H) | (have H2_ := (Option.bind_some _ _).symm.trans H; rw [hy206]; with_reducible exact H2_) | (have H2_ := (Option.bind_some _ _).symm.trans H; with_reducible exact H2_) | with_reducible exact H | (rw [hy206]; exact H) | exact H
                 have Ny206 := Aside0.mk hy206
                 clear hy206
                 have H' := Aside0.mk H
                 clear H
                 obtain ⟨Ao43, co43, eo43⟩ := Kd.R_slice HO_13.out
                 subst eo43
                 have p205 : 0 ≤ (x15_5 : Int) := of_decide_eq_true (by first | (with_reducible assumption) | assumption)
                 have q205 : x15_5 < (x13_5.length : Int) := of_decide_eq_true (by first | (with_reducible assumption) | assumption)
                 obtain ⟨ad205, e205, hx205_0⟩ := Kd.at_int (Kd.R_reads' HO_13.out).2.2 x15_5 p205 q205
                 cases e205
                 replace p205 := eq_true p205
                 replace q205 := eq_true q205
                 have p42 : 0 ≤ (x15_5 : Int) := of_decide_eq_true (by first | (with_reducible assumption) | assumption)
                 have q42 : (x15_5 : Int) < ((x13_5.length : Int) : Int) := of_decide_eq_true (by first | (with_reducible assumption) | assumption)
                 obtain ⟨go42, co42, eo42, gb42, gl42, cl42, HG42⟩ := Kd.R_form HO_13.out (by omega)
                 (first | cases eo42 | (injection eo42 with ea_ en_ ec_; (first | subst ea_ | (injection ea_ with ea_; subst ea_)); subst ec_; clear en_))
                 have GB42 := Aside0.mk gb42
                 have GG42 := Aside0.mk HG42
                 clear gb42 gl42 HG42
                 (first | simp only [add_plain] at hx205_0 | skip)
                 obtain ⟨hx42_0, hf42_0⟩ := Kd.R_celln 0 HO_13.out (x15_5 : Int) p42 q42
                 replace p42 := eq_true p42
                 replace q42 := eq_true q42
                 have HP44 := Kd.R_putg HO_13.out (x15_5 : Int) (((rd x13_5 x15_5) + 1) % 256)
                 go_wp2_with (first | ((with_reducible refine gate_store (t := 5) (p := 107) rfl ?_); refine store_event (t := 5) (p := 107) (v := ?vo_w45) (w1 := (wr.setCell ⟨go42, (x15_5 : Int).toNat, none⟩ (.int .u8 (((rd x13_5 x15_5) + 1) % 256)))) ?hg ?ho ?hn ?hr ?_; (case ho => rfl); (case hg => rfl); (case hn => rfl); (case hr => first | (go_simp; done) | (go_simp; rfl)); intro w45 hw; have hg : wr.grownBy w45 (some go42) := (by rw [hw]; exact HP44.2); have hp_ : Kd.R (Kd.int .u8) 5 w45 w.heap.size (fun k_ => some k_ ≠ (v189 : Value).ownBlock) (.slice (some ⟨go42, 0, none⟩) x13_5.length co43) y206 := (by rw [hw, Ny206.out]; exact HP44.1); clear HP44; have n0_ := Aside0.mk (Kd.R_over' (v := (.slice (some ⟨go42, 0, none⟩) x13_5.length co43)) (by (with_reducible repeat (first | apply Kd.R_alloc | apply Kd.R_drewN | apply Kd.R_drew)); first | exact HO_5.out | exact Kd.R_mono (HO_5.out) (fun _ h_ => h_.2)) (Kd.R_typed HO_13.out) (by decide) hg); have n1_ := Aside0.mk (Kd.R_after (v := (.slice (some ⟨go42, 0, none⟩) x13_5.length co43)) (v1 := (.slice (some ⟨go42, 0, none⟩) x13_5.length co43)) (ok := (fun _ => True)) (by (with_reducible repeat (first | apply Kd.R_alloc | apply Kd.R_drewN | apply Kd.R_drew)); first | exact Kd.R_mono HO_6.out (fun _ hk => ⟨trivial, hk⟩) | exact Kd.R_mono (Kd.R_mono HO_6.out (fun _ hk => ⟨trivial, hk⟩)) (fun _ h_ => h_.2)) hg (.inl rfl)); have n2_ := Aside0.mk (hp_); have n3_ := Aside0.mk ((by rw [hw]; exact below_set (HB.out) GB42.out : Below w.heap.size w w45)); clear HO_5; clear HO_6; clear HO_13; clear HB; have HO_5 := n0_; have HO_6 := n1_; have HO_13 := n2_; have HB := n3_; clear n0_ n1_ n2_ n3_; clear hg hw hp_))
                 go_roundg k5
                 case measure => have := HJ2.out; have := HJ9.out; have := HK3.out; have := HJ29.out; have := HK5.out; omega
                 case rel => exact ⟨(y206), (wrap64 (x15_5 + 1)), (by first | rfl | (simp; done) | (simp [*]; done)), H', ⟨by have := HJ2.out; have := HJ9.out; have := HK3.out; have := HJ29.out; have := HK5.out; omega⟩, ⟨by (with_reducible repeat (first | apply Kd.R_alloc | apply Kd.R_drewN | apply Kd.R_drew)); first | exact HO_5.out | exact Kd.R_mono (HO_5.out) (fun _ h_ => h_.2)⟩, ⟨by (with_reducible repeat (first | apply Kd.R_alloc | apply Kd.R_drewN | apply Kd.R_drew)); first | exact Kd.R_mono HO_6.out (fun _ hk => hk.2) | exact Kd.R_mono (Kd.R_mono HO_6.out (fun _ hk => hk.2)) (fun _ h_ => h_.2)⟩, ⟨by (with_reducible repeat (first | apply Kd.R_alloc | apply Kd.R_drewN | apply Kd.R_drew)); first | exact HO_13.out | exact Kd.R_mono (HO_13.out) (fun _ h_ => h_.2)⟩, ⟨by repeat (first | (with_reducible first | exact HB.out | apply below_alloc | apply pw_below_drewN | apply below_drew1) | exact HB.out | exact ⟨HB.out.os, HB.out.tape, HB.out.output, HB.out.size, HB.out.block⟩)⟩⟩
                ·
                 rw [if_neg c41] at H
                 exact absurd H (by simp)
               ·
                rw [if_neg c40] at H
                have c40b0 : decide (x15_5 < (x13_5.length : Int)) = false := decide_eq_false c40
                clear c40
                have H' := Aside0.mk H
                clear H
                obtain ⟨Ao46, co46, eo46⟩ := Kd.R_slice HO_13.out
                subst eo46
                go_wp2
                go_roundg k5
                case measure => have := HJ2.out; have := HJ9.out; have := HK3.out; have := HJ29.out; have := HK5.out; omega
                case rel => exact ⟨(x6_3), (wrap64 (x12_3 + 1)), (by first | rfl | (simp; done) | (simp [*]; done)), H', ⟨by have := HJ2.out; have := HJ9.out; have := HK3.out; have := HJ29.out; have := HK5.out; omega⟩, ⟨by (with_reducible repeat (first | apply Kd.R_alloc | apply Kd.R_drewN | apply Kd.R_drew)); first | exact HO_5.out | exact Kd.R_mono (HO_5.out) (fun _ h_ => h_.2)⟩, ⟨by (with_reducible repeat (first | apply Kd.R_alloc | apply Kd.R_drewN | apply Kd.R_drew)); first | exact Kd.R_mono HO_6.out (fun _ hk => trivial) | exact Kd.R_mono (Kd.R_mono HO_6.out (fun _ hk => trivial)) (fun _ h_ => h_.2)⟩, ⟨by repeat (first | (with_reducible first | exact HB.out | apply below_alloc | apply pw_below_drewN | apply below_drew1) | exact HB.out | exact ⟨HB.out.os, HB.out.tape, HB.out.output, HB.out.size, HB.out.block⟩)⟩⟩
         ·
          rw [if_neg c28] at H
          have c28b0 : decide (x12_3 < 2) = false := decide_eq_false c28
          clear c28
          obtain rfl := Option.some.inj H
          go_wp2
          go_ret
          exact ⟨by first | rfl | (simp [errW_none, errW_some] <;> rfl) | (simp [*, errW_none, errW_some] <;> rfl), by repeat (first | (with_reducible first | exact HB.out | apply below_alloc | apply pw_below_drewN | apply below_drew1) | exact HB.out | exact ⟨HB.out.os, HB.out.tape, HB.out.output, HB.out.size, HB.out.block⟩)⟩

/-- THE ONE PURE STATEMENT of capstanlaw05_CodeTells: yours. -/
def capstanlaw05_CodeTells.Pure : Prop := ∀ (l0 : List (S42)) (l1 : List (S42)), (l0.length ≤ maxLen ∧ ∀ y0_ ∈ l0, (Lit.int .u8 y0_.f0).wf = true ∧ (Lit.int .i64 y0_.f1).wf = true ∧ (Lit.int .i64 y0_.f2).wf = true) → (l1.length ≤ maxLen ∧ ∀ y0_ ∈ l1, (Lit.int .u8 y0_.f0).wf = true ∧ (Lit.int .i64 y0_.f1).wf = true ∧ (Lit.int .i64 y0_.f2).wf = true) → ∃ k, capstanlaw05_CodeTells.f k l0 l1 = some true
theorem capstanlaw05_CodeTells.walk (P : capstanlaw05_CodeTells.Pure) (A0 : Option Addr) (c0 : Nat) (l0 : List (S42)) (A1 : Option Addr) (c1 : Nat) (l1 : List (S42)) (w : World) (hG : Gl w) (hr0 : Kd.C k42 w A0 l0.length l0) (hc0 : l0.length ≤ c0) (g0 : l0.length ≤ maxLen ∧ ∀ y0_ ∈ l0, (Lit.int .u8 y0_.f0).wf = true ∧ (Lit.int .i64 y0_.f1).wf = true ∧ (Lit.int .i64 y0_.f2).wf = true) (hr1 : Kd.C k42 w A1 l1.length l1) (hc1 : l1.length ≤ c1) (g1 : l1.length ≤ maxLen ∧ ∀ y0_ ∈ l1, (Lit.int .u8 y0_.f0).wf = true ∧ (Lit.int .i64 y0_.f1).wf = true ∧ (Lit.int .i64 y0_.f2).wf = true) :
  Calls Tryd.prog 4 #[.slice A0 l0.length c0, .slice A1 l1.length c1] w fun e w' => e = .returned (.bool true) ∧ Below w.heap.size w w' := by
 obtain ⟨k, h⟩ := P l0 l1 g0 g1
 refine (capstanlaw05_CodeTells.calls k _ _ l0 _ _ l1 true w hG hr0 hc0 hr1 hc1 h).mono ?_
 rintro e w' ⟨rfl, hd⟩
 exact ⟨rfl, hd⟩

end Go.Proofs.YtdfjjooejfgglaaDoor.Q
