/- Contracts of the functions of this seat (each: the call of the function does what the plain Lean function of the same name tells; the conditions stand in each statement). Written by a program of this session and by hand; checked by Lean. -/
import Derived.Test.YtkmnachdibhdhaaS0
import Derived.Test.YtkmnachdibhdhaaS3
import Derived.Test.YtkmnachdibhdhaaS4
import Derived.Test.YtkmnachdibhdhaaS5
namespace Go.Proofs.Ytkmnachdibhdhaa.S
open Go.RowKit Go.Proofs.YtkmnachdibhdhaaW.PrintWords Go.Proofs.YtkmnachdibhdhaaW.PrintLast Go.Proofs.YtkmnachdibhdhaaW.PrintMore
attribute [local go_sem] max2_int min2_int max_two min_two max_three min_three max_four min_four   -- for this text's walks alone
set_option linter.unusedVariables false
set_option linter.unusedSimpArgs false

/-! ### capstanlaw13_awake: function 24 -/
def capstanlaw13_awake.f (k : Nat)  : Option (Bool) := (capstanlaw13_three.f k 0 (-1)).bind fun bt182 => ((pure_Stores.f k bt182.1 bt182.2.1 bt182.2.2.1 bt182.2.2.2 1).bind fun bt192 => ((capstanlaw13_three.f k 0 (-1)).bind fun bt194 => ((pure_Pure.f k bt194.1 bt194.2.1 bt194.2.2.1 bt194.2.2.2).bind fun bt204 => (if bt192.1 = true then (if bt192.2 = 0 then (if bt204.2 = 0 then (if (bt204.1.length : Int) = 3 then (if 0 < (bt204.1.length : Int) then (if rdOf false bt204.1 0 = true then (none) else (if 1 < (bt204.1.length : Int) then (if rdOf false bt204.1 1 = true then (none) else (if 2 < (bt204.1.length : Int) then (if rdOf false bt204.1 2 = true then ((capstanlaw13_three.f k 1 (-1)).bind fun bt211 => ((pure_Check.f k bt211.1 bt211.2.1 bt211.2.2.1 bt211.2.2.2).bind fun t221 => (if t221 = 130 then ((capstanlaw13_three.f k 4 (-1)).bind fun bt222 => ((pure_Check.f k bt222.1 bt222.2.1 bt222.2.2.1 bt222.2.2.2).bind fun t232 => (if t232 = 0 then ((capstanlaw13_three.f k 0 5).bind fun bt233 => ((pure_Check.f k bt233.1 bt233.2.1 bt233.2.2.1 bt233.2.2.2).bind fun t243 => (some (t243 == 2)))) else (none)))) else (none)))) else (none)) else (none))) else (none))) else (none)) else (none)) else (none)) else (none)) else (none)))))
theorem capstanlaw13_awake.mono : ∀ k, LeO (capstanlaw13_awake.f k ) (capstanlaw13_awake.f (k + 1) ) := by
 intro  k
 unfold capstanlaw13_awake.f
 repeat' first
   | (with_reducible exact capstanlaw13_three.mono _ _ _)
   | (with_reducible exact pure_Check.mono _ _ _ _ _)
   | (with_reducible exact pure_Pure.mono _ _ _ _ _)
   | (with_reducible exact pure_Stores.mono _ _ _ _ _ _)
   | (with_reducible exact LeO.refl _)
   | (with_reducible exact LeO.none _)
   | (with_reducible refine LeO.ite ?_ ?_)
   | (with_reducible refine LeO.bind ?_ (fun _ => ?_))
   | exact capstanlaw13_three.mono _ _ _
   | exact pure_Check.mono _ _ _ _ _
   | exact pure_Pure.mono _ _ _ _ _
   | exact pure_Stores.mono _ _ _ _ _ _
   | exact LeO.none _
   | refine LeO.ite ?_ ?_
   | refine LeO.bind ?_ (fun _ => ?_)
set_option maxHeartbeats 8000000 in
set_option maxRecDepth 100000 in
theorem capstanlaw13_awake.calls (k : Nat)  (r : Bool) (w : World) (h : capstanlaw13_awake.f k  = some r) :
  Calls Try.prog 24 #[] w fun e w' => e = .returned (.bool r) ∧ Below w.heap.size w w' := by
 have HB := Aside0.mk (Below.refl w.heap.size w)
 have H : ((capstanlaw13_three.f k 0 (-1)).bind fun bt182 => ((pure_Stores.f k bt182.1 bt182.2.1 bt182.2.2.1 bt182.2.2.2 1).bind fun bt192 => ((capstanlaw13_three.f k 0 (-1)).bind fun bt194 => ((pure_Pure.f k bt194.1 bt194.2.1 bt194.2.2.1 bt194.2.2.2).bind fun bt204 => (if bt192.1 = true then (if bt192.2 = 0 then (if bt204.2 = 0 then (if (bt204.1.length : Int) = 3 then (if 0 < (bt204.1.length : Int) then (if rdOf false bt204.1 0 = true then (none) else (if 1 < (bt204.1.length : Int) then (if rdOf false bt204.1 1 = true then (none) else (if 2 < (bt204.1.length : Int) then (if rdOf false bt204.1 2 = true then ((capstanlaw13_three.f k 1 (-1)).bind fun bt211 => ((pure_Check.f k bt211.1 bt211.2.1 bt211.2.2.1 bt211.2.2.2).bind fun t221 => (if t221 = 130 then ((capstanlaw13_three.f k 4 (-1)).bind fun bt222 => ((pure_Check.f k bt222.1 bt222.2.1 bt222.2.2.1 bt222.2.2.2).bind fun t232 => (if t232 = 0 then ((capstanlaw13_three.f k 0 5).bind fun bt233 => ((pure_Check.f k bt233.1 bt233.2.1 bt233.2.2.1 bt233.2.2.2).bind fun t243 => (some (t243 == 2)))) else (none)))) else (none)))) else (none)) else (none))) else (none))) else (none)) else (none)) else (none)) else (none)) else (none)))))) = some r := h
 clear h
 replace H := Option.bind_eq_some_iff.mp H
 obtain ⟨⟨t182, t185, t188, t191⟩, A10, H⟩ := H
 replace H : ((pure_Stores.f k t182 t185 t188 t191 1).bind fun bt192 => ((capstanlaw13_three.f k 0 (-1)).bind fun bt194 => ((pure_Pure.f k bt194.1 bt194.2.1 bt194.2.2.1 bt194.2.2.2).bind fun bt204 => (if bt192.1 = true then (if bt192.2 = 0 then (if bt204.2 = 0 then (if (bt204.1.length : Int) = 3 then (if 0 < (bt204.1.length : Int) then (if rdOf false bt204.1 0 = true then (none) else (if 1 < (bt204.1.length : Int) then (if rdOf false bt204.1 1 = true then (none) else (if 2 < (bt204.1.length : Int) then (if rdOf false bt204.1 2 = true then ((capstanlaw13_three.f k 1 (-1)).bind fun bt211 => ((pure_Check.f k bt211.1 bt211.2.1 bt211.2.2.1 bt211.2.2.2).bind fun t221 => (if t221 = 130 then ((capstanlaw13_three.f k 4 (-1)).bind fun bt222 => ((pure_Check.f k bt222.1 bt222.2.1 bt222.2.2.1 bt222.2.2.2).bind fun t232 => (if t232 = 0 then ((capstanlaw13_three.f k 0 5).bind fun bt233 => ((pure_Check.f k bt233.1 bt233.2.1 bt233.2.2.1 bt233.2.2.2).bind fun t243 => (some (t243 == 2)))) else (none)))) else (none)))) else (none)) else (none))) else (none))) else (none)) else (none)) else (none)) else (none)) else (none))))) = some r := H
 have A1 := Aside0.mk A10
 clear A10
 replace H := Option.bind_eq_some_iff.mp H
 obtain ⟨⟨t192, t193⟩, A20, H⟩ := H
 replace H : ((capstanlaw13_three.f k 0 (-1)).bind fun bt194 => ((pure_Pure.f k bt194.1 bt194.2.1 bt194.2.2.1 bt194.2.2.2).bind fun bt204 => (if t192 = true then (if t193 = 0 then (if bt204.2 = 0 then (if (bt204.1.length : Int) = 3 then (if 0 < (bt204.1.length : Int) then (if rdOf false bt204.1 0 = true then (none) else (if 1 < (bt204.1.length : Int) then (if rdOf false bt204.1 1 = true then (none) else (if 2 < (bt204.1.length : Int) then (if rdOf false bt204.1 2 = true then ((capstanlaw13_three.f k 1 (-1)).bind fun bt211 => ((pure_Check.f k bt211.1 bt211.2.1 bt211.2.2.1 bt211.2.2.2).bind fun t221 => (if t221 = 130 then ((capstanlaw13_three.f k 4 (-1)).bind fun bt222 => ((pure_Check.f k bt222.1 bt222.2.1 bt222.2.2.1 bt222.2.2.2).bind fun t232 => (if t232 = 0 then ((capstanlaw13_three.f k 0 5).bind fun bt233 => ((pure_Check.f k bt233.1 bt233.2.1 bt233.2.2.1 bt233.2.2.2).bind fun t243 => (some (t243 == 2)))) else (none)))) else (none)))) else (none)) else (none))) else (none))) else (none)) else (none)) else (none)) else (none)) else (none)))) = some r := H
 have A2 := Aside0.mk A20
 clear A20
 replace H := Option.bind_eq_some_iff.mp H
 obtain ⟨⟨t194, t197, t200, t203⟩, A30, H⟩ := H
 replace H : ((pure_Pure.f k t194 t197 t200 t203).bind fun bt204 => (if t192 = true then (if t193 = 0 then (if bt204.2 = 0 then (if (bt204.1.length : Int) = 3 then (if 0 < (bt204.1.length : Int) then (if rdOf false bt204.1 0 = true then (none) else (if 1 < (bt204.1.length : Int) then (if rdOf false bt204.1 1 = true then (none) else (if 2 < (bt204.1.length : Int) then (if rdOf false bt204.1 2 = true then ((capstanlaw13_three.f k 1 (-1)).bind fun bt211 => ((pure_Check.f k bt211.1 bt211.2.1 bt211.2.2.1 bt211.2.2.2).bind fun t221 => (if t221 = 130 then ((capstanlaw13_three.f k 4 (-1)).bind fun bt222 => ((pure_Check.f k bt222.1 bt222.2.1 bt222.2.2.1 bt222.2.2.2).bind fun t232 => (if t232 = 0 then ((capstanlaw13_three.f k 0 5).bind fun bt233 => ((pure_Check.f k bt233.1 bt233.2.1 bt233.2.2.1 bt233.2.2.2).bind fun t243 => (some (t243 == 2)))) else (none)))) else (none)))) else (none)) else (none))) else (none))) else (none)) else (none)) else (none)) else (none)) else (none))) = some r := H
 have A3 := Aside0.mk A30
 clear A30
 replace H := Option.bind_eq_some_iff.mp H
 obtain ⟨⟨t204, t207⟩, A40, H⟩ := H
 replace H : (if t192 = true then (if t193 = 0 then (if t207 = 0 then (if (t204.length : Int) = 3 then (if 0 < (t204.length : Int) then (if rdOf false t204 0 = true then (none) else (if 1 < (t204.length : Int) then (if rdOf false t204 1 = true then (none) else (if 2 < (t204.length : Int) then (if rdOf false t204 2 = true then ((capstanlaw13_three.f k 1 (-1)).bind fun bt211 => ((pure_Check.f k bt211.1 bt211.2.1 bt211.2.2.1 bt211.2.2.2).bind fun t221 => (if t221 = 130 then ((capstanlaw13_three.f k 4 (-1)).bind fun bt222 => ((pure_Check.f k bt222.1 bt222.2.1 bt222.2.2.1 bt222.2.2.2).bind fun t232 => (if t232 = 0 then ((capstanlaw13_three.f k 0 5).bind fun bt233 => ((pure_Check.f k bt233.1 bt233.2.1 bt233.2.2.1 bt233.2.2.2).bind fun t243 => (some (t243 == 2)))) else (none)))) else (none)))) else (none)) else (none))) else (none))) else (none)) else (none)) else (none)) else (none)) else (none)) = some r := H
 have A4 := Aside0.mk A40
 clear A40
 by_cases c5 : t192 = true
 ·
  subst c5
  have H1 : (if t193 = 0 then (if t207 = 0 then (if (t204.length : Int) = 3 then (if 0 < (t204.length : Int) then (if rdOf false t204 0 = true then (none) else (if 1 < (t204.length : Int) then (if rdOf false t204 1 = true then (none) else (if 2 < (t204.length : Int) then (if rdOf false t204 2 = true then ((capstanlaw13_three.f k 1 (-1)).bind fun bt211 => ((pure_Check.f k bt211.1 bt211.2.1 bt211.2.2.1 bt211.2.2.2).bind fun t221 => (if t221 = 130 then ((capstanlaw13_three.f k 4 (-1)).bind fun bt222 => ((pure_Check.f k bt222.1 bt222.2.1 bt222.2.2.1 bt222.2.2.2).bind fun t232 => (if t232 = 0 then ((capstanlaw13_three.f k 0 5).bind fun bt233 => ((pure_Check.f k bt233.1 bt233.2.1 bt233.2.2.1 bt233.2.2.2).bind fun t243 => (some (t243 == 2)))) else (none)))) else (none)))) else (none)) else (none))) else (none))) else (none)) else (none)) else (none)) else (none)) = some r := by rw [if_pos rfl] at H; exact H
  clear H
  have H := H1
  clear H1
  by_cases c6 : t193 = 0
  ·
   rw [if_pos c6] at H
   have c6b0 : (t193 == 0) = true := beq_iff_eq.mpr c6
   have c6b1 : (t193 != 0) = false := bne_eq_false_iff_eq.mpr c6
   clear c6
   by_cases c7 : t207 = 0
   ·
    rw [if_pos c7] at H
    have c7b0 : (t207 == 0) = true := beq_iff_eq.mpr c7
    have c7b1 : (t207 != 0) = false := bne_eq_false_iff_eq.mpr c7
    clear c7
    by_cases c8 : (t204.length : Int) = 3
    ·
     rw [if_pos c8] at H
     have c8b0 : ((t204.length : Int) == 3) = true := beq_iff_eq.mpr c8
     have c8b1 : ((t204.length : Int) != 3) = false := bne_eq_false_iff_eq.mpr c8
     clear c8
     by_cases c9 : 0 < (t204.length : Int)
     ·
      rw [if_pos c9] at H
      have c9b0 : decide (0 < (t204.length : Int)) = true := decide_eq_true c9
      have c9b1 : decide (0 < t204.length) = true := decide_eq_true (by omega)
      clear c9
      obtain ⟨bq10, hbq10⟩ : ∃ b_ : Bool, b_ = (rdOf false t204 0) := ⟨_, rfl⟩
      replace H : (if bq10 = true then (none) else (if 1 < (t204.length : Int) then (if rdOf false t204 1 = true then (none) else (if 2 < (t204.length : Int) then (if rdOf false t204 2 = true then ((capstanlaw13_three.f k 1 (-1)).bind fun bt211 => ((pure_Check.f k bt211.1 bt211.2.1 bt211.2.2.1 bt211.2.2.2).bind fun t221 => (if t221 = 130 then ((capstanlaw13_three.f k 4 (-1)).bind fun bt222 => ((pure_Check.f k bt222.1 bt222.2.1 bt222.2.2.1 bt222.2.2.2).bind fun t232 => (if t232 = 0 then ((capstanlaw13_three.f k 0 5).bind fun bt233 => ((pure_Check.f k bt233.1 bt233.2.1 bt233.2.2.1 bt233.2.2.2).bind fun t243 => (some (t243 == 2)))) else (none)))) else (none)))) else (none)) else (none))) else (none))) = some r := by rw [← hbq10] at H; exact H
      have Nbq10 := Aside0.mk hbq10
      clear hbq10
      by_cases c11 : bq10 = true
      ·
       subst c11
       have H1 : (none) = some r := by rw [if_pos rfl] at H; exact H
       clear H
       have H := H1
       clear H1
       exact absurd H (by simp)
      ·
       replace c11 := Bool.eq_false_iff.mpr c11
       subst c11
       have H1 : (if 1 < (t204.length : Int) then (if rdOf false t204 1 = true then (none) else (if 2 < (t204.length : Int) then (if rdOf false t204 2 = true then ((capstanlaw13_three.f k 1 (-1)).bind fun bt211 => ((pure_Check.f k bt211.1 bt211.2.1 bt211.2.2.1 bt211.2.2.2).bind fun t221 => (if t221 = 130 then ((capstanlaw13_three.f k 4 (-1)).bind fun bt222 => ((pure_Check.f k bt222.1 bt222.2.1 bt222.2.2.1 bt222.2.2.2).bind fun t232 => (if t232 = 0 then ((capstanlaw13_three.f k 0 5).bind fun bt233 => ((pure_Check.f k bt233.1 bt233.2.1 bt233.2.2.1 bt233.2.2.2).bind fun t243 => (some (t243 == 2)))) else (none)))) else (none)))) else (none)) else (none))) else (none)) = some r := by rw [if_neg (show ¬ (false = true) by decide)] at H; exact H
       clear H
       have H := H1
       clear H1
       by_cases c12 : 1 < (t204.length : Int)
       ·
        rw [if_pos c12] at H
        have c12b0 : decide (1 < (t204.length : Int)) = true := decide_eq_true c12
        have c12b1 : decide (1 < t204.length) = true := decide_eq_true (by omega)
        clear c12
        obtain ⟨bq13, hbq13⟩ : ∃ b_ : Bool, b_ = (rdOf false t204 1) := ⟨_, rfl⟩
        replace H : (if bq13 = true then (none) else (if 2 < (t204.length : Int) then (if rdOf false t204 2 = true then ((capstanlaw13_three.f k 1 (-1)).bind fun bt211 => ((pure_Check.f k bt211.1 bt211.2.1 bt211.2.2.1 bt211.2.2.2).bind fun t221 => (if t221 = 130 then ((capstanlaw13_three.f k 4 (-1)).bind fun bt222 => ((pure_Check.f k bt222.1 bt222.2.1 bt222.2.2.1 bt222.2.2.2).bind fun t232 => (if t232 = 0 then ((capstanlaw13_three.f k 0 5).bind fun bt233 => ((pure_Check.f k bt233.1 bt233.2.1 bt233.2.2.1 bt233.2.2.2).bind fun t243 => (some (t243 == 2)))) else (none)))) else (none)))) else (none)) else (none))) = some r := by rw [← hbq13] at H; exact H
        have Nbq13 := Aside0.mk hbq13
        clear hbq13
        by_cases c14 : bq13 = true
        ·
         subst c14
         have H1 : (none) = some r := by rw [if_pos rfl] at H; exact H
         clear H
         have H := H1
         clear H1
         exact absurd H (by simp)
        ·
         replace c14 := Bool.eq_false_iff.mpr c14
         subst c14
         have H1 : (if 2 < (t204.length : Int) then (if rdOf false t204 2 = true then ((capstanlaw13_three.f k 1 (-1)).bind fun bt211 => ((pure_Check.f k bt211.1 bt211.2.1 bt211.2.2.1 bt211.2.2.2).bind fun t221 => (if t221 = 130 then ((capstanlaw13_three.f k 4 (-1)).bind fun bt222 => ((pure_Check.f k bt222.1 bt222.2.1 bt222.2.2.1 bt222.2.2.2).bind fun t232 => (if t232 = 0 then ((capstanlaw13_three.f k 0 5).bind fun bt233 => ((pure_Check.f k bt233.1 bt233.2.1 bt233.2.2.1 bt233.2.2.2).bind fun t243 => (some (t243 == 2)))) else (none)))) else (none)))) else (none)) else (none)) = some r := by rw [if_neg (show ¬ (false = true) by decide)] at H; exact H
         clear H
         have H := H1
         clear H1
         by_cases c15 : 2 < (t204.length : Int)
         ·
          rw [if_pos c15] at H
          have c15b0 : decide (2 < (t204.length : Int)) = true := decide_eq_true c15
          have c15b1 : decide (2 < t204.length) = true := decide_eq_true (by omega)
          clear c15
          obtain ⟨bq16, hbq16⟩ : ∃ b_ : Bool, b_ = (rdOf false t204 2) := ⟨_, rfl⟩
          replace H : (if bq16 = true then ((capstanlaw13_three.f k 1 (-1)).bind fun bt211 => ((pure_Check.f k bt211.1 bt211.2.1 bt211.2.2.1 bt211.2.2.2).bind fun t221 => (if t221 = 130 then ((capstanlaw13_three.f k 4 (-1)).bind fun bt222 => ((pure_Check.f k bt222.1 bt222.2.1 bt222.2.2.1 bt222.2.2.2).bind fun t232 => (if t232 = 0 then ((capstanlaw13_three.f k 0 5).bind fun bt233 => ((pure_Check.f k bt233.1 bt233.2.1 bt233.2.2.1 bt233.2.2.2).bind fun t243 => (some (t243 == 2)))) else (none)))) else (none)))) else (none)) = some r := by rw [← hbq16] at H; exact H
          have Nbq16 := Aside0.mk hbq16
          clear hbq16
          by_cases c17 : bq16 = true
          ·
           subst c17
           have H1 : ((capstanlaw13_three.f k 1 (-1)).bind fun bt211 => ((pure_Check.f k bt211.1 bt211.2.1 bt211.2.2.1 bt211.2.2.2).bind fun t221 => (if t221 = 130 then ((capstanlaw13_three.f k 4 (-1)).bind fun bt222 => ((pure_Check.f k bt222.1 bt222.2.1 bt222.2.2.1 bt222.2.2.2).bind fun t232 => (if t232 = 0 then ((capstanlaw13_three.f k 0 5).bind fun bt233 => ((pure_Check.f k bt233.1 bt233.2.1 bt233.2.2.1 bt233.2.2.2).bind fun t243 => (some (t243 == 2)))) else (none)))) else (none)))) = some r := by rw [if_pos rfl] at H; exact H
           clear H
           have H := H1
           clear H1
           replace H := Option.bind_eq_some_iff.mp H
           obtain ⟨⟨t211, t214, t217, t220⟩, A180, H⟩ := H
           replace H : ((pure_Check.f k t211 t214 t217 t220).bind fun t221 => (if t221 = 130 then ((capstanlaw13_three.f k 4 (-1)).bind fun bt222 => ((pure_Check.f k bt222.1 bt222.2.1 bt222.2.2.1 bt222.2.2.2).bind fun t232 => (if t232 = 0 then ((capstanlaw13_three.f k 0 5).bind fun bt233 => ((pure_Check.f k bt233.1 bt233.2.1 bt233.2.2.1 bt233.2.2.2).bind fun t243 => (some (t243 == 2)))) else (none)))) else (none))) = some r := H
           have A18 := Aside0.mk A180
           clear A180
           replace H := Option.bind_eq_some_iff.mp H
           obtain ⟨t221, A190, H⟩ := H
           replace H : (if t221 = 130 then ((capstanlaw13_three.f k 4 (-1)).bind fun bt222 => ((pure_Check.f k bt222.1 bt222.2.1 bt222.2.2.1 bt222.2.2.2).bind fun t232 => (if t232 = 0 then ((capstanlaw13_three.f k 0 5).bind fun bt233 => ((pure_Check.f k bt233.1 bt233.2.1 bt233.2.2.1 bt233.2.2.2).bind fun t243 => (some (t243 == 2)))) else (none)))) else (none)) = some r := H
           have A19 := Aside0.mk A190
           clear A190
           by_cases c20 : t221 = 130
           ·
            rw [if_pos c20] at H
            have c20b0 : (t221 == 130) = true := beq_iff_eq.mpr c20
            have c20b1 : (t221 != 130) = false := bne_eq_false_iff_eq.mpr c20
            clear c20
            replace H := Option.bind_eq_some_iff.mp H
            obtain ⟨⟨t222, t225, t228, t231⟩, A210, H⟩ := H
            replace H : ((pure_Check.f k t222 t225 t228 t231).bind fun t232 => (if t232 = 0 then ((capstanlaw13_three.f k 0 5).bind fun bt233 => ((pure_Check.f k bt233.1 bt233.2.1 bt233.2.2.1 bt233.2.2.2).bind fun t243 => (some (t243 == 2)))) else (none))) = some r := H
            have A21 := Aside0.mk A210
            clear A210
            replace H := Option.bind_eq_some_iff.mp H
            obtain ⟨t232, A220, H⟩ := H
            replace H : (if t232 = 0 then ((capstanlaw13_three.f k 0 5).bind fun bt233 => ((pure_Check.f k bt233.1 bt233.2.1 bt233.2.2.1 bt233.2.2.2).bind fun t243 => (some (t243 == 2)))) else (none)) = some r := H
            have A22 := Aside0.mk A220
            clear A220
            by_cases c23 : t232 = 0
            ·
             rw [if_pos c23] at H
             have c23b0 : (t232 == 0) = true := beq_iff_eq.mpr c23
             have c23b1 : (t232 != 0) = false := bne_eq_false_iff_eq.mpr c23
             clear c23
             replace H := Option.bind_eq_some_iff.mp H
             obtain ⟨⟨t233, t236, t239, t242⟩, A240, H⟩ := H
             replace H : ((pure_Check.f k t233 t236 t239 t242).bind fun t243 => (some (t243 == 2))) = some r := H
             have A24 := Aside0.mk A240
             clear A240
             replace H := Option.bind_eq_some_iff.mp H
             obtain ⟨t243, A250, H⟩ := H
             replace H : (some (t243 == 2)) = some r := H
             have A25 := Aside0.mk A250
             clear A250
             obtain rfl := Option.some.inj H
             go_enter Try.func24, Try.ntmps24
             go_wp2_with (first | ((with_reducible refine gate_callee (f := 51) rfl ?_); refine goesL_ (some 6) rfl rfl Try.func51 (by kernel_rfl) rfl #[.int .u8 0, .int .i64 (-1)] rfl (au7) ?_; (with_reducible refine (capstanlaw13_three.calls k 0 (-1) t182 t185 t188 t191 _ A1.out).mono ?_); rintro e w26 ⟨v183, v186, v189, rfl, ho0, ho1, ho2, hb⟩; refine ⟨_, rfl, ?_⟩; have n0_ := Aside0.mk (Kd.R_lower (Kd.R_mono (ok' := fun k_ => some k_ ≠ (v186 : Value).ownBlock) ho0 (fun _ hk_ => hk_.2)) (below_size (au1))); have n1_ := Aside0.mk (Kd.R_lower (Kd.R_mono (ok' := fun k_ => some k_ ≠ (v183 : Value).ownBlock) ho1 (fun _ hk_ => hk_.2)) (below_size (au1))); have n2_ := Aside0.mk (Kd.N_lower (Kd.N_mono (ok' := fun k_ => some k_ ≠ (v183 : Value).ownBlock ∧ some k_ ≠ (v186 : Value).ownBlock) ho2 (fun k_ hk_ => ⟨hk_.2.1, hk_.2.2⟩)) (below_size (au1))); have n3_ := Aside0.mk (below_step (au1) hb); clear HB; have HO184 := n0_; have HO187 := n1_; have HO190 := n2_; have HB := n3_; clear n0_ n1_ n2_ n3_; (try clear hb); (try clear hb2); (try clear hk); (try clear hi); (try clear ho0); (try clear ho1); (try clear ho2); obtain ⟨Ao27, co27, eo27⟩ := Kd.R_slice HO184.out; subst eo27; obtain ⟨Ao28, co28, eo28⟩ := Kd.R_slice HO187.out; subst eo28; obtain ⟨Ao29, co29, eo29⟩ := Kd.N_slice HO190.out; subst eo29) | ((with_reducible refine gate_callee (f := 16) rfl ?_); refine goesL_ (some 7) rfl rfl Try.func16 (by kernel_rfl) rfl #[.agg #[.slice Ao27 t182.length co27, .slice Ao28 t185.length co28, .slice Ao29 t188.length co29, .int .i64 t191], .int .i64 1] rfl (au7) ?_; (with_reducible refine (pure_Stores.calls k _ _ t182 _ _ t185 _ _ t188 t191 1 true t193 _ ?side1 ?side2 ?side3 ?side4 ?side5 ?side6 A2.out).mono ?_); (case side1 => repeat (first | exact (Kd.R_reads' HO184.out).2.2 | (with_reducible refine Kd.C_alloc ?_ _) | (with_reducible refine Kd.C_drewN ?_ _) | (with_reducible refine Kd.C_drew ?_))); (case side2 => exact (Kd.R_reads' HO184.out).2.1); (case side3 => repeat (first | exact (Kd.R_reads' HO187.out).2.2 | (with_reducible refine Kd.C_alloc ?_ _) | (with_reducible refine Kd.C_drewN ?_ _) | (with_reducible refine Kd.C_drew ?_))); (case side4 => exact (Kd.R_reads' HO187.out).2.1); (case side5 => repeat (first | exact (Kd.N_reads' HO190.out).2.2 | (with_reducible refine Kd.C_alloc ?_ _) | (with_reducible refine Kd.C_drewN ?_ _) | (with_reducible refine Kd.C_drew ?_))); (case side6 => exact (Kd.N_reads' HO190.out).2.1); rintro e w30 ⟨rfl, hb⟩; refine ⟨_, rfl, ?_⟩; have n0_ := Aside0.mk (Kd.R_below (au11) hb); have n1_ := Aside0.mk (Kd.R_below (au12) hb); have n2_ := Aside0.mk (Kd.N_below (au27) hb); have n3_ := Aside0.mk (below_step (au1) hb); clear HO184; clear HO187; clear HO190; clear HB; have HO184 := n0_; have HO187 := n1_; have HO190 := n2_; have HB := n3_; clear n0_ n1_ n2_ n3_; (try clear hb); (try clear hb2); (try clear hk); (try clear hi)) | ((with_reducible refine gate_callee (f := 51) rfl ?_); refine goesL_ (some 11) rfl rfl Try.func51 (by kernel_rfl) rfl #[.int .u8 0, .int .i64 (-1)] rfl (au7) ?_; (with_reducible refine (capstanlaw13_three.calls k 0 (-1) t194 t197 t200 t203 _ A3.out).mono ?_); rintro e w31 ⟨v195, v198, v201, rfl, ho0, ho1, ho2, hb⟩; refine ⟨_, rfl, ?_⟩; have n0_ := Aside0.mk (Kd.R_mono (Kd.R_told (Kd.R_told (Kd.R_old (au11) hb) (Kd.R_base ho0)) (Kd.R_base ho1)) (fun _ h_ => h_.1)); have n1_ := Aside0.mk (Kd.R_mono (Kd.R_told (Kd.R_told (Kd.R_old (au12) hb) (Kd.R_base ho0)) (Kd.R_base ho1)) (fun _ h_ => h_.1)); have n2_ := Aside0.mk (Kd.N_mono (Kd.N_told (Kd.N_told (Kd.N_told (Kd.N_old (au27) hb) (Kd.R_base ho0)) (Kd.R_base ho1)) (Kd.N_base ho2)) (fun _ h_ => h_.1)); have n3_ := Aside0.mk (Kd.R_lower (Kd.R_new' (Kd.R_new' (Kd.R_mono (ok' := fun k_ => some k_ ≠ (v198 : Value).ownBlock) ho0 (fun _ hk_ => hk_.2)) (Kd.R_lt (au11))) (Kd.R_lt (au12))) (below_size (au1))); have n4_ := Aside0.mk (Kd.R_lower (Kd.R_new' (Kd.R_new' (Kd.R_mono (ok' := fun k_ => some k_ ≠ (v195 : Value).ownBlock) ho1 (fun _ hk_ => hk_.2)) (Kd.R_lt (au11))) (Kd.R_lt (au12))) (below_size (au1))); have n5_ := Aside0.mk (Kd.N_lower (Kd.N_mono (ok' := fun k_ => some k_ ≠ (v195 : Value).ownBlock ∧ some k_ ≠ (v198 : Value).ownBlock ∧ some k_ ≠ (.slice Ao27 t182.length co27 : Value).ownBlock ∧ some k_ ≠ (.slice Ao28 t185.length co28 : Value).ownBlock ∧ some k_ ≠ (.slice Ao29 t188.length co29 : Value).ownBlock) ho2 (fun k_ hk_ => ⟨hk_.2.1, hk_.2.2, (Kd.fresh' (Kd.R_lt (au11)) k_ hk_.1), (Kd.fresh' (Kd.R_lt (au12)) k_ hk_.1), (Kd.fresh' (Kd.N_lt (au27)) k_ hk_.1)⟩)) (below_size (au1))); have n6_ := Aside0.mk (below_step (au1) hb); clear HO184; clear HO187; clear HO190; clear HB; have HO184 := n0_; have HO187 := n1_; have HO190 := n2_; have HO196 := n3_; have HO199 := n4_; have HO202 := n5_; have HB := n6_; clear n0_ n1_ n2_ n3_ n4_ n5_ n6_; (try clear hb); (try clear hb2); (try clear hk); (try clear hi); (try clear ho0); (try clear ho1); (try clear ho2); obtain ⟨Ao32, co32, eo32⟩ := Kd.R_slice HO196.out; subst eo32; obtain ⟨Ao33, co33, eo33⟩ := Kd.R_slice HO199.out; subst eo33; obtain ⟨Ao34, co34, eo34⟩ := Kd.N_slice HO202.out; subst eo34) | ((with_reducible refine gate_callee (f := 17) rfl ?_); refine goesL_ (some 12) rfl rfl Try.func17 (by kernel_rfl) rfl #[.agg #[.slice Ao32 t194.length co32, .slice Ao33 t197.length co33, .slice Ao34 t200.length co34, .int .i64 t203]] rfl (au7) ?_; (with_reducible refine (pure_Pure.calls k _ _ t194 _ _ t197 _ _ t200 t203 t204 t207 _ ?side1 ?side2 ?side3 ?side4 ?side5 ?side6 A4.out).mono ?_); (case side1 => repeat (first | exact (Kd.R_reads' HO196.out).2.2 | (with_reducible refine Kd.C_alloc ?_ _) | (with_reducible refine Kd.C_drewN ?_ _) | (with_reducible refine Kd.C_drew ?_))); (case side2 => exact (Kd.R_reads' HO196.out).2.1); (case side3 => repeat (first | exact (Kd.R_reads' HO199.out).2.2 | (with_reducible refine Kd.C_alloc ?_ _) | (with_reducible refine Kd.C_drewN ?_ _) | (with_reducible refine Kd.C_drew ?_))); (case side4 => exact (Kd.R_reads' HO199.out).2.1); (case side5 => repeat (first | exact (Kd.N_reads' HO202.out).2.2 | (with_reducible refine Kd.C_alloc ?_ _) | (with_reducible refine Kd.C_drewN ?_ _) | (with_reducible refine Kd.C_drew ?_))); (case side6 => exact (Kd.N_reads' HO202.out).2.1); rintro e w35 ⟨v205, rfl, ho0, hb⟩; refine ⟨_, rfl, ?_⟩; have n0_ := Aside0.mk (Kd.R_below (au11) hb); have n1_ := Aside0.mk (Kd.R_below (au12) hb); have n2_ := Aside0.mk (Kd.N_elder' (au27) (Kd.R_base ho0) hb); have n3_ := Aside0.mk (Kd.R_below (au18) hb); have n4_ := Aside0.mk (Kd.R_below (au19) hb); have n5_ := Aside0.mk (Kd.N_elder' (au36) (Kd.R_base ho0) hb); have n6_ := Aside0.mk (Kd.R_lower ho0 (below_size (au1))); have n7_ := Aside0.mk (below_step (au1) hb); clear HO184; clear HO187; clear HO190; clear HO196; clear HO199; clear HO202; clear HB; have HO184 := n0_; have HO187 := n1_; have HO190 := n2_; have HO196 := n3_; have HO199 := n4_; have HO202 := n5_; have HO206 := n6_; have HB := n7_; clear n0_ n1_ n2_ n3_ n4_ n5_ n6_ n7_; (try clear hb); (try clear hb2); (try clear hk); (try clear hi); (try clear ho0); obtain ⟨Ao36, co36, eo36⟩ := Kd.R_slice HO206.out; subst eo36; have p208 : 0 ≤ (0 : Int) := (by omega); have q208 : 0 < (t204.length : Int) := of_decide_eq_true (au10); obtain ⟨ad208, e208, hx208_0⟩ := Kd.at_bool (Kd.R_reads' HO206.out).2.2 0 p208 q208; (try rw [← Nbq10.out] at hx208_0); (try rw [← Nbq13.out] at hx208_0); (try rw [← Nbq16.out] at hx208_0); cases e208; have qi208 : (0 < t204.length) = True := eq_true (by omega); (try rw [show ((0 : Int)).toNat = 0 from rfl] at hx208_0); (try rw [Addr.add_zero'] at hx208_0); replace p208 := eq_true p208; replace q208 := eq_true q208; have p209 : 0 ≤ (1 : Int) := (by omega); have q209 : 1 < (t204.length : Int) := of_decide_eq_true (au10); obtain ⟨ad209, e209, hx209_0⟩ := Kd.at_bool (Kd.R_reads' HO206.out).2.2 1 p209 q209; (try rw [← Nbq10.out] at hx209_0); (try rw [← Nbq13.out] at hx209_0); (try rw [← Nbq16.out] at hx209_0); obtain rfl : ad208 = ad209 := (by injection e209); (try simp only [show (1 : Int).toNat = 1 from rfl, Nat.reduceMul, Nat.reduceEqDiff, Go.Addr.add, ↓reduceIte] at hx209_0); have qi209 : (1 < t204.length) = True := eq_true (by omega); (try rw [show ((1 : Int)).toNat = 1 from rfl] at hx209_0); replace p209 := eq_true p209; replace q209 := eq_true q209; have p210 : 0 ≤ (2 : Int) := (by omega); have q210 : 2 < (t204.length : Int) := of_decide_eq_true (au10); obtain ⟨ad210, e210, hx210_0⟩ := Kd.at_bool (Kd.R_reads' HO206.out).2.2 2 p210 q210; (try rw [← Nbq10.out] at hx210_0); (try rw [← Nbq13.out] at hx210_0); (try rw [← Nbq16.out] at hx210_0); obtain rfl : ad208 = ad210 := (by injection e210); (try simp only [show (2 : Int).toNat = 2 from rfl, Nat.reduceMul, Nat.reduceEqDiff, Go.Addr.add, ↓reduceIte] at hx210_0); have qi210 : (2 < t204.length) = True := eq_true (by omega); (try rw [show ((2 : Int)).toNat = 2 from rfl] at hx210_0); replace p210 := eq_true p210; replace q210 := eq_true q210) | ((fail_if_success (have h_ := w37)); go_at_call 51; (with_reducible refine (capstanlaw13_three.calls k 1 (-1) t211 t214 t217 t220 _ A18.out).mono ?_); rintro e w37 ⟨v212, v215, v218, rfl, ho0, ho1, ho2, hb⟩; have n0_ := Aside0.mk (Kd.R_mono (Kd.R_told (Kd.R_told (Kd.R_old (au11) hb) (Kd.R_base ho0)) (Kd.R_base ho1)) (fun _ h_ => h_.1)); have n1_ := Aside0.mk (Kd.R_mono (Kd.R_told (Kd.R_told (Kd.R_old (au12) hb) (Kd.R_base ho0)) (Kd.R_base ho1)) (fun _ h_ => h_.1)); have n2_ := Aside0.mk (Kd.N_mono (Kd.N_told (Kd.N_told (Kd.N_told (Kd.N_old (au27) hb) (Kd.R_base ho0)) (Kd.R_base ho1)) (Kd.N_base ho2)) (fun _ h_ => h_.1)); have n3_ := Aside0.mk (Kd.R_mono (Kd.R_told (Kd.R_told (Kd.R_old (au18) hb) (Kd.R_base ho0)) (Kd.R_base ho1)) (fun _ h_ => h_.1)); have n4_ := Aside0.mk (Kd.R_mono (Kd.R_told (Kd.R_told (Kd.R_old (au19) hb) (Kd.R_base ho0)) (Kd.R_base ho1)) (fun _ h_ => h_.1)); have n5_ := Aside0.mk (Kd.N_mono (Kd.N_told (Kd.N_told (Kd.N_told (Kd.N_old (au36) hb) (Kd.R_base ho0)) (Kd.R_base ho1)) (Kd.N_base ho2)) (fun _ h_ => h_.1)); have n6_ := Aside0.mk (Kd.R_below (au38) hb); have n7_ := Aside0.mk (Kd.R_lower (Kd.R_new' (Kd.R_new' (Kd.R_new' (Kd.R_new' (Kd.R_mono (ok' := fun k_ => some k_ ≠ (v215 : Value).ownBlock) ho0 (fun _ hk_ => hk_.2)) (Kd.R_lt (au11))) (Kd.R_lt (au12))) (Kd.R_lt (au18))) (Kd.R_lt (au19))) (below_size (au1))); have n8_ := Aside0.mk (Kd.R_lower (Kd.R_new' (Kd.R_new' (Kd.R_new' (Kd.R_new' (Kd.R_mono (ok' := fun k_ => some k_ ≠ (v212 : Value).ownBlock) ho1 (fun _ hk_ => hk_.2)) (Kd.R_lt (au11))) (Kd.R_lt (au12))) (Kd.R_lt (au18))) (Kd.R_lt (au19))) (below_size (au1))); have n9_ := Aside0.mk (Kd.N_lower (Kd.N_mono (ok' := fun k_ => some k_ ≠ (v212 : Value).ownBlock ∧ some k_ ≠ (v215 : Value).ownBlock ∧ some k_ ≠ (.slice Ao27 t182.length co27 : Value).ownBlock ∧ some k_ ≠ (.slice Ao28 t185.length co28 : Value).ownBlock ∧ some k_ ≠ (.slice Ao29 t188.length co29 : Value).ownBlock ∧ some k_ ≠ (.slice Ao32 t194.length co32 : Value).ownBlock ∧ some k_ ≠ (.slice Ao33 t197.length co33 : Value).ownBlock ∧ some k_ ≠ (.slice Ao34 t200.length co34 : Value).ownBlock ∧ some k_ ≠ (.slice (some ad208) t204.length co36 : Value).ownBlock) ho2 (fun k_ hk_ => ⟨hk_.2.1, hk_.2.2, (Kd.fresh' (Kd.R_lt (au11)) k_ hk_.1), (Kd.fresh' (Kd.R_lt (au12)) k_ hk_.1), (Kd.fresh' (Kd.N_lt (au27)) k_ hk_.1), (Kd.fresh' (Kd.R_lt (au18)) k_ hk_.1), (Kd.fresh' (Kd.R_lt (au19)) k_ hk_.1), (Kd.fresh' (Kd.N_lt (au36)) k_ hk_.1), (Kd.fresh' (Kd.R_lt (au38)) k_ hk_.1)⟩)) (below_size (au1))); have n10_ := Aside0.mk (below_step (au1) hb); clear HO184; clear HO187; clear HO190; clear HO196; clear HO199; clear HO202; clear HO206; clear HB; have HO184 := n0_; have HO187 := n1_; have HO190 := n2_; have HO196 := n3_; have HO199 := n4_; have HO202 := n5_; have HO206 := n6_; have HO213 := n7_; have HO216 := n8_; have HO219 := n9_; have HB := n10_; clear n0_ n1_ n2_ n3_ n4_ n5_ n6_ n7_ n8_ n9_ n10_; (try clear hb); (try clear hb2); (try clear hk); (try clear hi); (try clear ho0); (try clear ho1); (try clear ho2); obtain ⟨Ao38, co38, eo38⟩ := Kd.R_slice HO213.out; subst eo38; obtain ⟨Ao39, co39, eo39⟩ := Kd.R_slice HO216.out; subst eo39; obtain ⟨Ao40, co40, eo40⟩ := Kd.N_slice HO219.out; subst eo40) | ((fail_if_success (have h_ := w41)); go_at_call 21; (with_reducible refine (pure_Check.calls k _ _ t211 _ _ t214 _ _ t217 t220 t221 _ ?side1 ?side2 ?side3 ?side4 ?side5 ?side6 A19.out).mono ?_); (case side1 => repeat (first | exact (Kd.R_reads' HO213.out).2.2 | (with_reducible refine Kd.C_alloc ?_ _) | (with_reducible refine Kd.C_drewN ?_ _) | (with_reducible refine Kd.C_drew ?_))); (case side2 => exact (Kd.R_reads' HO213.out).2.1); (case side3 => repeat (first | exact (Kd.R_reads' HO216.out).2.2 | (with_reducible refine Kd.C_alloc ?_ _) | (with_reducible refine Kd.C_drewN ?_ _) | (with_reducible refine Kd.C_drew ?_))); (case side4 => exact (Kd.R_reads' HO216.out).2.1); (case side5 => repeat (first | exact (Kd.N_reads' HO219.out).2.2 | (with_reducible refine Kd.C_alloc ?_ _) | (with_reducible refine Kd.C_drewN ?_ _) | (with_reducible refine Kd.C_drew ?_))); (case side6 => exact (Kd.N_reads' HO219.out).2.1); rintro e w41 ⟨rfl, hb⟩; have n0_ := Aside0.mk (Kd.R_below (au11) hb); have n1_ := Aside0.mk (Kd.R_below (au12) hb); have n2_ := Aside0.mk (Kd.N_below (au27) hb); have n3_ := Aside0.mk (Kd.R_below (au18) hb); have n4_ := Aside0.mk (Kd.R_below (au19) hb); have n5_ := Aside0.mk (Kd.N_below (au36) hb); have n6_ := Aside0.mk (Kd.R_below (au38) hb); have n7_ := Aside0.mk (Kd.R_below (au32) hb); have n8_ := Aside0.mk (Kd.R_below (au33) hb); have n9_ := Aside0.mk (Kd.N_below (au47) hb); have n10_ := Aside0.mk (below_step (au1) hb); clear HO184; clear HO187; clear HO190; clear HO196; clear HO199; clear HO202; clear HO206; clear HO213; clear HO216; clear HO219; clear HB; have HO184 := n0_; have HO187 := n1_; have HO190 := n2_; have HO196 := n3_; have HO199 := n4_; have HO202 := n5_; have HO206 := n6_; have HO213 := n7_; have HO216 := n8_; have HO219 := n9_; have HB := n10_; clear n0_ n1_ n2_ n3_ n4_ n5_ n6_ n7_ n8_ n9_ n10_; (try clear hb); (try clear hb2); (try clear hk); (try clear hi)) | ((fail_if_success (have h_ := w42)); go_at_call 51; (with_reducible refine (capstanlaw13_three.calls k 4 (-1) t222 t225 t228 t231 _ A21.out).mono ?_); rintro e w42 ⟨v223, v226, v229, rfl, ho0, ho1, ho2, hb⟩; have n0_ := Aside0.mk (Kd.R_mono (Kd.R_told (Kd.R_told (Kd.R_old (au11) hb) (Kd.R_base ho0)) (Kd.R_base ho1)) (fun _ h_ => h_.1)); have n1_ := Aside0.mk (Kd.R_mono (Kd.R_told (Kd.R_told (Kd.R_old (au12) hb) (Kd.R_base ho0)) (Kd.R_base ho1)) (fun _ h_ => h_.1)); have n2_ := Aside0.mk (Kd.N_mono (Kd.N_told (Kd.N_told (Kd.N_told (Kd.N_old (au27) hb) (Kd.R_base ho0)) (Kd.R_base ho1)) (Kd.N_base ho2)) (fun _ h_ => h_.1)); have n3_ := Aside0.mk (Kd.R_mono (Kd.R_told (Kd.R_told (Kd.R_old (au18) hb) (Kd.R_base ho0)) (Kd.R_base ho1)) (fun _ h_ => h_.1)); have n4_ := Aside0.mk (Kd.R_mono (Kd.R_told (Kd.R_told (Kd.R_old (au19) hb) (Kd.R_base ho0)) (Kd.R_base ho1)) (fun _ h_ => h_.1)); have n5_ := Aside0.mk (Kd.N_mono (Kd.N_told (Kd.N_told (Kd.N_told (Kd.N_old (au36) hb) (Kd.R_base ho0)) (Kd.R_base ho1)) (Kd.N_base ho2)) (fun _ h_ => h_.1)); have n6_ := Aside0.mk (Kd.R_below (au38) hb); have n7_ := Aside0.mk (Kd.R_mono (Kd.R_told (Kd.R_told (Kd.R_old (au32) hb) (Kd.R_base ho0)) (Kd.R_base ho1)) (fun _ h_ => h_.1)); have n8_ := Aside0.mk (Kd.R_mono (Kd.R_told (Kd.R_told (Kd.R_old (au33) hb) (Kd.R_base ho0)) (Kd.R_base ho1)) (fun _ h_ => h_.1)); have n9_ := Aside0.mk (Kd.N_mono (Kd.N_told (Kd.N_told (Kd.N_told (Kd.N_old (au47) hb) (Kd.R_base ho0)) (Kd.R_base ho1)) (Kd.N_base ho2)) (fun _ h_ => h_.1)); have n10_ := Aside0.mk (Kd.R_lower (Kd.R_new' (Kd.R_new' (Kd.R_new' (Kd.R_new' (Kd.R_new' (Kd.R_new' (Kd.R_mono (ok' := fun k_ => some k_ ≠ (v226 : Value).ownBlock) ho0 (fun _ hk_ => hk_.2)) (Kd.R_lt (au11))) (Kd.R_lt (au12))) (Kd.R_lt (au18))) (Kd.R_lt (au19))) (Kd.R_lt (au32))) (Kd.R_lt (au33))) (below_size (au1))); have n11_ := Aside0.mk (Kd.R_lower (Kd.R_new' (Kd.R_new' (Kd.R_new' (Kd.R_new' (Kd.R_new' (Kd.R_new' (Kd.R_mono (ok' := fun k_ => some k_ ≠ (v223 : Value).ownBlock) ho1 (fun _ hk_ => hk_.2)) (Kd.R_lt (au11))) (Kd.R_lt (au12))) (Kd.R_lt (au18))) (Kd.R_lt (au19))) (Kd.R_lt (au32))) (Kd.R_lt (au33))) (below_size (au1))); have n12_ := Aside0.mk (Kd.N_lower (Kd.N_mono (ok' := fun k_ => some k_ ≠ (v223 : Value).ownBlock ∧ some k_ ≠ (v226 : Value).ownBlock ∧ some k_ ≠ (.slice Ao27 t182.length co27 : Value).ownBlock ∧ some k_ ≠ (.slice Ao28 t185.length co28 : Value).ownBlock ∧ some k_ ≠ (.slice Ao29 t188.length co29 : Value).ownBlock ∧ some k_ ≠ (.slice Ao32 t194.length co32 : Value).ownBlock ∧ some k_ ≠ (.slice Ao33 t197.length co33 : Value).ownBlock ∧ some k_ ≠ (.slice Ao34 t200.length co34 : Value).ownBlock ∧ some k_ ≠ (.slice (some ad208) t204.length co36 : Value).ownBlock ∧ some k_ ≠ (.slice Ao38 t211.length co38 : Value).ownBlock ∧ some k_ ≠ (.slice Ao39 t214.length co39 : Value).ownBlock ∧ some k_ ≠ (.slice Ao40 t217.length co40 : Value).ownBlock) ho2 (fun k_ hk_ => ⟨hk_.2.1, hk_.2.2, (Kd.fresh' (Kd.R_lt (au11)) k_ hk_.1), (Kd.fresh' (Kd.R_lt (au12)) k_ hk_.1), (Kd.fresh' (Kd.N_lt (au27)) k_ hk_.1), (Kd.fresh' (Kd.R_lt (au18)) k_ hk_.1), (Kd.fresh' (Kd.R_lt (au19)) k_ hk_.1), (Kd.fresh' (Kd.N_lt (au36)) k_ hk_.1), (Kd.fresh' (Kd.R_lt (au38)) k_ hk_.1), (Kd.fresh' (Kd.R_lt (au32)) k_ hk_.1), (Kd.fresh' (Kd.R_lt (au33)) k_ hk_.1), (Kd.fresh' (Kd.N_lt (au47)) k_ hk_.1)⟩)) (below_size (au1))); have n13_ := Aside0.mk (below_step (au1) hb); clear HO184; clear HO187; clear HO190; clear HO196; clear HO199; clear HO202; clear HO206; clear HO213; clear HO216; clear HO219; clear HB; have HO184 := n0_; have HO187 := n1_; have HO190 := n2_; have HO196 := n3_; have HO199 := n4_; have HO202 := n5_; have HO206 := n6_; have HO213 := n7_; have HO216 := n8_; have HO219 := n9_; have HO224 := n10_; have HO227 := n11_; have HO230 := n12_; have HB := n13_; clear n0_ n1_ n2_ n3_ n4_ n5_ n6_ n7_ n8_ n9_ n10_ n11_ n12_ n13_; (try clear hb); (try clear hb2); (try clear hk); (try clear hi); (try clear ho0); (try clear ho1); (try clear ho2); obtain ⟨Ao43, co43, eo43⟩ := Kd.R_slice HO224.out; subst eo43; obtain ⟨Ao44, co44, eo44⟩ := Kd.R_slice HO227.out; subst eo44; obtain ⟨Ao45, co45, eo45⟩ := Kd.N_slice HO230.out; subst eo45) | ((fail_if_success (have h_ := w46)); go_at_call 21; (with_reducible refine (pure_Check.calls k _ _ t222 _ _ t225 _ _ t228 t231 t232 _ ?side1 ?side2 ?side3 ?side4 ?side5 ?side6 A22.out).mono ?_); (case side1 => repeat (first | exact (Kd.R_reads' HO224.out).2.2 | (with_reducible refine Kd.C_alloc ?_ _) | (with_reducible refine Kd.C_drewN ?_ _) | (with_reducible refine Kd.C_drew ?_))); (case side2 => exact (Kd.R_reads' HO224.out).2.1); (case side3 => repeat (first | exact (Kd.R_reads' HO227.out).2.2 | (with_reducible refine Kd.C_alloc ?_ _) | (with_reducible refine Kd.C_drewN ?_ _) | (with_reducible refine Kd.C_drew ?_))); (case side4 => exact (Kd.R_reads' HO227.out).2.1); (case side5 => repeat (first | exact (Kd.N_reads' HO230.out).2.2 | (with_reducible refine Kd.C_alloc ?_ _) | (with_reducible refine Kd.C_drewN ?_ _) | (with_reducible refine Kd.C_drew ?_))); (case side6 => exact (Kd.N_reads' HO230.out).2.1); rintro e w46 ⟨rfl, hb⟩; have n0_ := Aside0.mk (Kd.R_below (au11) hb); have n1_ := Aside0.mk (Kd.R_below (au12) hb); have n2_ := Aside0.mk (Kd.N_below (au27) hb); have n3_ := Aside0.mk (Kd.R_below (au18) hb); have n4_ := Aside0.mk (Kd.R_below (au19) hb); have n5_ := Aside0.mk (Kd.N_below (au36) hb); have n6_ := Aside0.mk (Kd.R_below (au38) hb); have n7_ := Aside0.mk (Kd.R_below (au32) hb); have n8_ := Aside0.mk (Kd.R_below (au33) hb); have n9_ := Aside0.mk (Kd.N_below (au47) hb); have n10_ := Aside0.mk (Kd.R_below (au53) hb); have n11_ := Aside0.mk (Kd.R_below (au54) hb); have n12_ := Aside0.mk (Kd.N_below (au73) hb); have n13_ := Aside0.mk (below_step (au1) hb); clear HO184; clear HO187; clear HO190; clear HO196; clear HO199; clear HO202; clear HO206; clear HO213; clear HO216; clear HO219; clear HO224; clear HO227; clear HO230; clear HB; have HO184 := n0_; have HO187 := n1_; have HO190 := n2_; have HO196 := n3_; have HO199 := n4_; have HO202 := n5_; have HO206 := n6_; have HO213 := n7_; have HO216 := n8_; have HO219 := n9_; have HO224 := n10_; have HO227 := n11_; have HO230 := n12_; have HB := n13_; clear n0_ n1_ n2_ n3_ n4_ n5_ n6_ n7_ n8_ n9_ n10_ n11_ n12_ n13_; (try clear hb); (try clear hb2); (try clear hk); (try clear hi)) | ((fail_if_success (have h_ := w47)); go_at_call 51; (with_reducible refine (capstanlaw13_three.calls k 0 5 t233 t236 t239 t242 _ A24.out).mono ?_); rintro e w47 ⟨v234, v237, v240, rfl, ho0, ho1, ho2, hb⟩; have n0_ := Aside0.mk (Kd.R_mono (Kd.R_told (Kd.R_told (Kd.R_old (au11) hb) (Kd.R_base ho0)) (Kd.R_base ho1)) (fun _ h_ => h_.1)); have n1_ := Aside0.mk (Kd.R_mono (Kd.R_told (Kd.R_told (Kd.R_old (au12) hb) (Kd.R_base ho0)) (Kd.R_base ho1)) (fun _ h_ => h_.1)); have n2_ := Aside0.mk (Kd.N_mono (Kd.N_told (Kd.N_told (Kd.N_told (Kd.N_old (au27) hb) (Kd.R_base ho0)) (Kd.R_base ho1)) (Kd.N_base ho2)) (fun _ h_ => h_.1)); have n3_ := Aside0.mk (Kd.R_mono (Kd.R_told (Kd.R_told (Kd.R_old (au18) hb) (Kd.R_base ho0)) (Kd.R_base ho1)) (fun _ h_ => h_.1)); have n4_ := Aside0.mk (Kd.R_mono (Kd.R_told (Kd.R_told (Kd.R_old (au19) hb) (Kd.R_base ho0)) (Kd.R_base ho1)) (fun _ h_ => h_.1)); have n5_ := Aside0.mk (Kd.N_mono (Kd.N_told (Kd.N_told (Kd.N_told (Kd.N_old (au36) hb) (Kd.R_base ho0)) (Kd.R_base ho1)) (Kd.N_base ho2)) (fun _ h_ => h_.1)); have n6_ := Aside0.mk (Kd.R_below (au38) hb); have n7_ := Aside0.mk (Kd.R_mono (Kd.R_told (Kd.R_told (Kd.R_old (au32) hb) (Kd.R_base ho0)) (Kd.R_base ho1)) (fun _ h_ => h_.1)); have n8_ := Aside0.mk (Kd.R_mono (Kd.R_told (Kd.R_told (Kd.R_old (au33) hb) (Kd.R_base ho0)) (Kd.R_base ho1)) (fun _ h_ => h_.1)); have n9_ := Aside0.mk (Kd.N_mono (Kd.N_told (Kd.N_told (Kd.N_told (Kd.N_old (au47) hb) (Kd.R_base ho0)) (Kd.R_base ho1)) (Kd.N_base ho2)) (fun _ h_ => h_.1)); have n10_ := Aside0.mk (Kd.R_mono (Kd.R_told (Kd.R_told (Kd.R_old (au53) hb) (Kd.R_base ho0)) (Kd.R_base ho1)) (fun _ h_ => h_.1)); have n11_ := Aside0.mk (Kd.R_mono (Kd.R_told (Kd.R_told (Kd.R_old (au54) hb) (Kd.R_base ho0)) (Kd.R_base ho1)) (fun _ h_ => h_.1)); have n12_ := Aside0.mk (Kd.N_mono (Kd.N_told (Kd.N_told (Kd.N_told (Kd.N_old (au73) hb) (Kd.R_base ho0)) (Kd.R_base ho1)) (Kd.N_base ho2)) (fun _ h_ => h_.1)); have n13_ := Aside0.mk (Kd.R_lower (Kd.R_new' (Kd.R_new' (Kd.R_new' (Kd.R_new' (Kd.R_new' (Kd.R_new' (Kd.R_new' (Kd.R_new' (Kd.R_mono (ok' := fun k_ => some k_ ≠ (v237 : Value).ownBlock) ho0 (fun _ hk_ => hk_.2)) (Kd.R_lt (au11))) (Kd.R_lt (au12))) (Kd.R_lt (au18))) (Kd.R_lt (au19))) (Kd.R_lt (au32))) (Kd.R_lt (au33))) (Kd.R_lt (au53))) (Kd.R_lt (au54))) (below_size (au1))); have n14_ := Aside0.mk (Kd.R_lower (Kd.R_new' (Kd.R_new' (Kd.R_new' (Kd.R_new' (Kd.R_new' (Kd.R_new' (Kd.R_new' (Kd.R_new' (Kd.R_mono (ok' := fun k_ => some k_ ≠ (v234 : Value).ownBlock) ho1 (fun _ hk_ => hk_.2)) (Kd.R_lt (au11))) (Kd.R_lt (au12))) (Kd.R_lt (au18))) (Kd.R_lt (au19))) (Kd.R_lt (au32))) (Kd.R_lt (au33))) (Kd.R_lt (au53))) (Kd.R_lt (au54))) (below_size (au1))); have n15_ := Aside0.mk (Kd.N_lower (Kd.N_mono (ok' := fun k_ => some k_ ≠ (v234 : Value).ownBlock ∧ some k_ ≠ (v237 : Value).ownBlock ∧ some k_ ≠ (.slice Ao27 t182.length co27 : Value).ownBlock ∧ some k_ ≠ (.slice Ao28 t185.length co28 : Value).ownBlock ∧ some k_ ≠ (.slice Ao29 t188.length co29 : Value).ownBlock ∧ some k_ ≠ (.slice Ao32 t194.length co32 : Value).ownBlock ∧ some k_ ≠ (.slice Ao33 t197.length co33 : Value).ownBlock ∧ some k_ ≠ (.slice Ao34 t200.length co34 : Value).ownBlock ∧ some k_ ≠ (.slice (some ad208) t204.length co36 : Value).ownBlock ∧ some k_ ≠ (.slice Ao38 t211.length co38 : Value).ownBlock ∧ some k_ ≠ (.slice Ao39 t214.length co39 : Value).ownBlock ∧ some k_ ≠ (.slice Ao40 t217.length co40 : Value).ownBlock ∧ some k_ ≠ (.slice Ao43 t222.length co43 : Value).ownBlock ∧ some k_ ≠ (.slice Ao44 t225.length co44 : Value).ownBlock ∧ some k_ ≠ (.slice Ao45 t228.length co45 : Value).ownBlock) ho2 (fun k_ hk_ => ⟨hk_.2.1, hk_.2.2, (Kd.fresh' (Kd.R_lt (au11)) k_ hk_.1), (Kd.fresh' (Kd.R_lt (au12)) k_ hk_.1), (Kd.fresh' (Kd.N_lt (au27)) k_ hk_.1), (Kd.fresh' (Kd.R_lt (au18)) k_ hk_.1), (Kd.fresh' (Kd.R_lt (au19)) k_ hk_.1), (Kd.fresh' (Kd.N_lt (au36)) k_ hk_.1), (Kd.fresh' (Kd.R_lt (au38)) k_ hk_.1), (Kd.fresh' (Kd.R_lt (au32)) k_ hk_.1), (Kd.fresh' (Kd.R_lt (au33)) k_ hk_.1), (Kd.fresh' (Kd.N_lt (au47)) k_ hk_.1), (Kd.fresh' (Kd.R_lt (au53)) k_ hk_.1), (Kd.fresh' (Kd.R_lt (au54)) k_ hk_.1), (Kd.fresh' (Kd.N_lt (au73)) k_ hk_.1)⟩)) (below_size (au1))); have n16_ := Aside0.mk (below_step (au1) hb); clear HO184; clear HO187; clear HO190; clear HO196; clear HO199; clear HO202; clear HO206; clear HO213; clear HO216; clear HO219; clear HO224; clear HO227; clear HO230; clear HB; have HO184 := n0_; have HO187 := n1_; have HO190 := n2_; have HO196 := n3_; have HO199 := n4_; have HO202 := n5_; have HO206 := n6_; have HO213 := n7_; have HO216 := n8_; have HO219 := n9_; have HO224 := n10_; have HO227 := n11_; have HO230 := n12_; have HO235 := n13_; have HO238 := n14_; have HO241 := n15_; have HB := n16_; clear n0_ n1_ n2_ n3_ n4_ n5_ n6_ n7_ n8_ n9_ n10_ n11_ n12_ n13_ n14_ n15_ n16_; (try clear hb); (try clear hb2); (try clear hk); (try clear hi); (try clear ho0); (try clear ho1); (try clear ho2); obtain ⟨Ao48, co48, eo48⟩ := Kd.R_slice HO235.out; subst eo48; obtain ⟨Ao49, co49, eo49⟩ := Kd.R_slice HO238.out; subst eo49; obtain ⟨Ao50, co50, eo50⟩ := Kd.N_slice HO241.out; subst eo50) | ((fail_if_success (have h_ := w51)); go_at_call 21; (with_reducible refine (pure_Check.calls k _ _ t233 _ _ t236 _ _ t239 t242 t243 _ ?side1 ?side2 ?side3 ?side4 ?side5 ?side6 A25.out).mono ?_); (case side1 => repeat (first | exact (Kd.R_reads' HO235.out).2.2 | (with_reducible refine Kd.C_alloc ?_ _) | (with_reducible refine Kd.C_drewN ?_ _) | (with_reducible refine Kd.C_drew ?_))); (case side2 => exact (Kd.R_reads' HO235.out).2.1); (case side3 => repeat (first | exact (Kd.R_reads' HO238.out).2.2 | (with_reducible refine Kd.C_alloc ?_ _) | (with_reducible refine Kd.C_drewN ?_ _) | (with_reducible refine Kd.C_drew ?_))); (case side4 => exact (Kd.R_reads' HO238.out).2.1); (case side5 => repeat (first | exact (Kd.N_reads' HO241.out).2.2 | (with_reducible refine Kd.C_alloc ?_ _) | (with_reducible refine Kd.C_drewN ?_ _) | (with_reducible refine Kd.C_drew ?_))); (case side6 => exact (Kd.N_reads' HO241.out).2.1); rintro e w51 ⟨rfl, hb⟩; have n0_ := Aside0.mk (Kd.R_below (au11) hb); have n1_ := Aside0.mk (Kd.R_below (au12) hb); have n2_ := Aside0.mk (Kd.N_below (au27) hb); have n3_ := Aside0.mk (Kd.R_below (au18) hb); have n4_ := Aside0.mk (Kd.R_below (au19) hb); have n5_ := Aside0.mk (Kd.N_below (au36) hb); have n6_ := Aside0.mk (Kd.R_below (au38) hb); have n7_ := Aside0.mk (Kd.R_below (au32) hb); have n8_ := Aside0.mk (Kd.R_below (au33) hb); have n9_ := Aside0.mk (Kd.N_below (au47) hb); have n10_ := Aside0.mk (Kd.R_below (au53) hb); have n11_ := Aside0.mk (Kd.R_below (au54) hb); have n12_ := Aside0.mk (Kd.N_below (au73) hb); have n13_ := Aside0.mk (Kd.R_below (by (with_reducible repeat (first | apply Kd.R_alloc | apply Kd.R_drewN | apply Kd.R_drew)); first | exact HO235.out | exact Kd.R_mono (HO235.out) (fun _ h_ => h_.2)) hb); have n14_ := Aside0.mk (Kd.R_below (by (with_reducible repeat (first | apply Kd.R_alloc | apply Kd.R_drewN | apply Kd.R_drew)); first | exact HO238.out | exact Kd.R_mono (HO238.out) (fun _ h_ => h_.2)) hb); have n15_ := Aside0.mk (Kd.N_below (by (with_reducible repeat (first | apply Kd.N_alloc | apply Kd.N_drewN | apply Kd.N_drew)); first | exact HO241.out | exact Kd.N_mono (HO241.out) (fun _ h_ => h_.2)) hb); have n16_ := Aside0.mk (below_step (au1) hb); clear HO184; clear HO187; clear HO190; clear HO196; clear HO199; clear HO202; clear HO206; clear HO213; clear HO216; clear HO219; clear HO224; clear HO227; clear HO230; clear HO235; clear HO238; clear HO241; clear HB; have HO184 := n0_; have HO187 := n1_; have HO190 := n2_; have HO196 := n3_; have HO199 := n4_; have HO202 := n5_; have HO206 := n6_; have HO213 := n7_; have HO216 := n8_; have HO219 := n9_; have HO224 := n10_; have HO227 := n11_; have HO230 := n12_; have HO235 := n13_; have HO238 := n14_; have HO241 := n15_; have HB := n16_; clear n0_ n1_ n2_ n3_ n4_ n5_ n6_ n7_ n8_ n9_ n10_ n11_ n12_ n13_ n14_ n15_ n16_; (try clear hb); (try clear hb2); (try clear hk); (try clear hi)))
             go_ret
             exact ⟨au20, au1⟩
            ·
             rw [if_neg c23] at H
             exact absurd H (by simp)
           ·
            rw [if_neg c20] at H
            exact absurd H (by simp)
          ·
           replace c17 := Bool.eq_false_iff.mpr c17
           subst c17
           have H1 : (none) = some r := by rw [if_neg (show ¬ (false = true) by decide)] at H; exact H
           clear H
           have H := H1
           clear H1
           exact absurd H (by simp)
         ·
          rw [if_neg c15] at H
          exact absurd H (by simp)
       ·
        rw [if_neg c12] at H
        exact absurd H (by simp)
     ·
      rw [if_neg c9] at H
      exact absurd H (by simp)
    ·
     rw [if_neg c8] at H
     exact absurd H (by simp)
   ·
    rw [if_neg c7] at H
    exact absurd H (by simp)
  ·
   rw [if_neg c6] at H
   exact absurd H (by simp)
 ·
  replace c5 := Bool.eq_false_iff.mpr c5
  subst c5
  have H1 : (none) = some r := by rw [if_neg (show ¬ (false = true) by decide)] at H; exact H
  clear H
  have H := H1
  clear H1
  exact absurd H (by simp)

/-! ### calls_all: function 57 -/
def calls_all.l0 : Nat → List (List Int) → Int → Int → List (S86) → List (S86) → List (S52) → Int → Option ((List (List Int)) × Int)
 | 0, _, _, _, _, _, _, _ => none
 | k + 1, x4, x10, x11, x245000, x245001, x245002, x245003 => if x11 < x10 then ((calls_Whom.f x245000 x245001 x245002 x245003 x11).bind fun bt245 => (if bt245.2 = 0 then (if x4.length < 5864062014805 then (calls_all.l0 k (x4 ++ [bt245.1]) x10 (wrap64 (x11 + 1)) x245000 x245001 x245002 x245003) else (none)) else (some (([] : List (List Int)), bt245.2)))) else (some (x4, 0))
def calls_all.f (k : Nat) (l0_0 : List (S86)) (l0_1 : List (S86)) (l0_2 : List (S52)) (a0_3 : Int) : Option ((List (List Int)) × Int) := calls_all.l0 k ([] : List (List Int)) (l0_2.length : Int) 0 l0_0 l0_1 l0_2 a0_3
theorem calls_all.mono_l : ∀ k, (∀ y0 y1 y2 y3 y4 y5 y6, LeO (calls_all.l0 k y0 y1 y2 y3 y4 y5 y6) (calls_all.l0 (k + 1) y0 y1 y2 y3 y4 y5 y6))
 | 0 => fun _ _ _ _ _ _ _ r h => by simp [calls_all.l0] at h
 | k + 1 => by
  have ih0 := calls_all.mono_l k
  ·
   intro y0 y1 y2 y3 y4 y5 y6
   unfold calls_all.l0
   repeat' first
   | (with_reducible exact ih0 _ _ _ _ _ _ _)
   | (with_reducible exact LeO.refl _)
   | (with_reducible exact LeO.none _)
   | (with_reducible refine LeO.ite ?_ ?_)
   | (with_reducible refine LeO.bind ?_ (fun _ => ?_))
   | exact ih0 _ _ _ _ _ _ _
   | exact LeO.none _
   | refine LeO.ite ?_ ?_
   | refine LeO.bind ?_ (fun _ => ?_)
theorem calls_all.mono : ∀ a0 a1 a2 a3 k, LeO (calls_all.f k a0 a1 a2 a3) (calls_all.f (k + 1) a0 a1 a2 a3) := by
 intro a0 a1 a2 a3 k
 have ih0 := calls_all.mono_l k
 unfold calls_all.f
 repeat' first
   | (with_reducible exact ih0 _ _ _ _ _ _ _)
   | (with_reducible exact LeO.refl _)
   | (with_reducible exact LeO.none _)
   | (with_reducible refine LeO.ite ?_ ?_)
   | (with_reducible refine LeO.bind ?_ (fun _ => ?_))
   | exact ih0 _ _ _ _ _ _ _
   | exact LeO.none _
   | refine LeO.ite ?_ ?_
   | refine LeO.bind ?_ (fun _ => ?_)
set_option maxHeartbeats 8000000 in
set_option maxRecDepth 100000 in
theorem calls_all.calls (k : Nat) (A0_0 : Option Addr) (c0_0 : Nat) (l0_0 : List (S86)) (A0_1 : Option Addr) (c0_1 : Nat) (l0_1 : List (S86)) (A0_2 : Option Addr) (c0_2 : Nat) (l0_2 : List (S52)) (a0_3 : Int) (r1 : List (List Int)) (r2 : Int) (w : World) (hr0_0 : Kd.C k86 w A0_0 l0_0.length l0_0) (hc0_0 : l0_0.length ≤ c0_0) (hr0_1 : Kd.C k86 w A0_1 l0_1.length l0_1) (hc0_1 : l0_1.length ≤ c0_1) (hr0_2 : Kd.C k52 w A0_2 l0_2.length l0_2) (hc0_2 : l0_2.length ≤ c0_2) (h : calls_all.f k l0_0 l0_1 l0_2 a0_3 = some (r1, r2)) :
  Calls Try.prog 57 #[.agg #[.slice A0_0 l0_0.length c0_0, .slice A0_1 l0_1.length c0_1, .slice A0_2 l0_2.length c0_2, .int .i64 a0_3]] w fun e w' => ∃ v0_ : Value, e = .returned (.tuple #[v0_, .int .i64 r2]) ∧ Kd.S (Kd.slice 3 (Kd.int .i64)) 53 w' w.heap.size (fun _ => True) v0_ r1 ∧ Below w.heap.size w w' := by
 have hu25 := Try.underlying25
 have HR0_0 := Aside0.mk hr0_0
 have HC0_0 := Aside0.mk hc0_0
 clear hr0_0 hc0_0
 have HR0_1 := Aside0.mk hr0_1
 have HC0_1 := Aside0.mk hc0_1
 clear hr0_1 hc0_1
 have HR0_2 := Aside0.mk hr0_2
 have HC0_2 := Aside0.mk hc0_2
 clear hr0_2 hc0_2
 have HB := Aside0.mk (Below.refl w.heap.size w)
 have H : (calls_all.l0 k ([] : List (List Int)) (l0_2.length : Int) 0 l0_0 l0_1 l0_2 a0_3) = some (r1, r2) := h
 clear h
 have H' := Aside0.mk H
 clear H
 go_enter Try.func57, Try.ntmps57
 go_wp2_with (first | ((with_reducible refine gate_dst (N := 1) rfl ?_); refine box_event ?hg (N := 1) ?hd (cs := #[.slice A0_0 l0_0.length c0_0, .slice A0_1 l0_1.length c0_1, .slice A0_2 l0_2.length c0_2, .int .i64 a0_3]) (t := 25) ?hr ?_; (case hd => rfl); (case hg => rfl); (case hr => first | (go_simp; done) | (go_simp; rfl)); intro gb244 hg w2 hbox hb; have n0_ := Aside0.mk (below_step (au1) hb); have n1_ := Aside0.mk (hbox); have n2_ := Aside0.mk ((au51 : w.heap.size ≤ gb244)); have n3_ := Aside0.mk ((au51 : w.heap.size ≤ gb244)); clear HB; have HB := n0_; have BK244 := n1_; have GW244 := n2_; have GE244 := n3_; clear n0_ n1_ n2_ n3_; clear hb hbox hg; obtain ⟨hcz3_0, hcz3_1, hcz3_2, hcz3_3, hfz3_0, hfz3_1, hfz3_2, hfz3_3⟩ := blk_all4 BK244.out))
 go_loopg [4, 11] k (fun kq v4 v11 w' => ∃ (x4_1 : List (List Int)) (x11_1 : Int), v11 = .int .i64 x11_1 ∧ Aside0 (calls_all.l0 kq x4_1 (l0_2.length : Int) x11_1 l0_0 l0_1 l0_2 a0_3 = some (r1, r2)) ∧ Aside0 (kq ≤ k) ∧ Aside0 (Kd.S (Kd.slice 3 (Kd.int .i64)) 53 w' w.heap.size (fun _ => True) v4 x4_1) ∧ Aside0 (w'.heap[gb244]? = some (.cells #[(.slice A0_0 l0_0.length c0_0), (.slice A0_1 l0_1.length c0_1), (.slice A0_2 l0_2.length c0_2), .int .i64 a0_3] 25 (0, 0))) ∧ Aside0 (Below w.heap.size w w'))
 case atStart => exact ⟨(([] : List (List Int))), (0), (au37), H', ⟨Nat.le_refl _⟩, ⟨au57⟩, ⟨au79⟩, ⟨au23⟩⟩
 case round =>
  clear H'
  try clear p2
  try clear hcz3_0
  try clear hcz3_1
  try clear hcz3_2
  try clear hcz3_3
  try clear hfz3_0
  try clear hfz3_1
  try clear hfz3_2
  try clear hfz3_3
  obtain ⟨x4_1, x11_1, rfl, HA, HK1, HO_4, BK244, HB⟩ := hrel
  cases gk with
  | zero => exact absurd HA.out (by simp [calls_all.l0])
  | succ k1 =>
   have H := HA.out
   clear HA
   simp only [calls_all.l0] at H
   by_cases c4 : x11_1 < (l0_2.length : Int)
   ·
    rw [if_pos c4] at H
    have c4b0 : decide (x11_1 < (l0_2.length : Int)) = true := decide_eq_true c4
    clear c4
    replace H := Option.bind_eq_some_iff.mp H
    obtain ⟨⟨t245, t248⟩, A50, H⟩ := H
    replace H : (if t248 = 0 then (if x4_1.length < 5864062014805 then (calls_all.l0 k1 (x4_1 ++ [t245]) (l0_2.length : Int) (wrap64 (x11_1 + 1)) l0_0 l0_1 l0_2 a0_3) else (none)) else (some (([] : List (List Int)), t248))) = some (r1, r2) := H
    have A5 := Aside0.mk A50
    clear A50
    by_cases c6 : t248 = 0
    ·
     rw [if_pos c6] at H
     have c6b0 : (t248 == 0) = true := beq_iff_eq.mpr c6
     have c6b1 : (t248 != 0) = false := bne_eq_false_iff_eq.mpr c6
     clear c6
     by_cases c7 : x4_1.length < 5864062014805
     ·
      rw [if_pos c7] at H
      have LMc7 := Aside0.mk c7
      clear c7
      obtain ⟨y249, hy249⟩ : ∃ y_ : List (List Int), y_ = (x4_1 ++ [t245]) := ⟨_, rfl⟩
      replace H : (calls_all.l0 k1 y249 (l0_2.length : Int) (wrap64 (x11_1 + 1)) l0_0 l0_1 l0_2 a0_3) = some (r1, r2) := by first | (rw [hy249]; with_reducible exact H) | (have H2_ := (Option.bind_some _ _).symm.trans H; rw [hy249]; with_reducible exact H2_) | (have H2_ := (Option.bind_some _ _).symm.trans H; with_reducible exact H2_) | with_reducible exact H | (rw [hy249]; exact H) | exact H
      have Ny249 := Aside0.mk hy249
      clear hy249
      have H' := Aside0.mk H
      clear H
      obtain ⟨hcz8_0, hcz8_1, hcz8_2, hcz8_3, hfz8_0, hfz8_1, hfz8_2, hfz8_3⟩ := blk_all4 BK244.out
      go_wp2_with (first | ((with_reducible refine gate_callee (f := 29) rfl ?_); refine goesL_ (some 17) rfl rfl Try.func29 (by kernel_rfl) rfl #[.agg #[.slice A0_0 l0_0.length c0_0, .slice A0_1 l0_1.length c0_1, .slice A0_2 l0_2.length c0_2, .int .i64 a0_3], .int .i64 x11_1] rfl (au7) ?_; (with_reducible refine (calls_Whom.calls _ _ l0_0 _ _ l0_1 _ _ l0_2 a0_3 x11_1 t245 t248 _ ?side1 ?side2 ?side3 ?side4 ?side5 ?side6 A5.out).mono ?_); (case side1 => exact au21); (case side2 => exact HC0_0.out); (case side3 => exact au17); (case side4 => exact HC0_1.out); (case side5 => exact au28); (case side6 => exact HC0_2.out); rintro e w9 ⟨v246, rfl, ho0, hb⟩; refine ⟨_, rfl, ?_⟩; have n0_ := Aside0.mk (Kd.S_elder' (au55) (Kd.R_base ho0) hb); have n1_ := Aside0.mk (Kd.R_lower ho0 (below_size (au23))); have n2_ := Aside0.mk (blk_below (g := gb244) (o := .cells #[.slice A0_0 l0_0.length c0_0, .slice A0_1 l0_1.length c0_1, .slice A0_2 l0_2.length c0_2, .int .i64 a0_3] 25 (0, 0)) (au79) hb); have n3_ := Aside0.mk (below_step (au23) hb); clear HO_4; clear BK244; clear HB; have HO_4 := n0_; have HO247 := n1_; have BK244 := n2_; have HB := n3_; clear n0_ n1_ n2_ n3_; (try clear hb); (try clear hb2); (try clear hk); (try clear hi); (try clear ho0); obtain ⟨Ao11, co11, eo11⟩ := Kd.R_slice HO247.out; subst eo11) | ((with_reducible refine gate_builtin (b := .append) (xs := #[.tmp 23, .tmp 25]) rfl ?_); at_builtin; refine Kd.S_append (Kd.slice 3 (Kd.int .i64)) (w0 := w) w.heap.size rfl (.tmp 23) (.tmp 25) 75 53 (.slice none 0 0) 24 rfl Try.underlying75 info53 rfl (by decide) (by omega) u4 x4_1 t245 [.slice Ao11 t245.length co11] (fun _ => True) (fun k_ => some k_ = (.slice Ao11 t245.length co11 : Value).ownBlock) rfl rfl ?aP (fun k_ hk_ => ((Kd.R_mono (ok' := fun k_ => ((fun _ => True)) k_ ∧ some k_ ≠ (u4 : Value).ownBlock) (Kd.R_apart' (HO247.out) (Kd.S_typed HO_4.out) (by decide)) (fun k_ hk => ⟨trivial, hk.2⟩))).1 k_ hk_.symm) ?aF ?aO ?aB ?aS ?aL ?_; (case aP => exact Kd.M_row (Kd.R_mono (Kd.R_tight rfl (Kd.R_mono (ok' := fun k_ => ((fun _ => True)) k_ ∧ some k_ ≠ (u4 : Value).ownBlock) (Kd.R_apart' (HO247.out) (Kd.S_typed HO_4.out) (by decide)) (fun k_ hk => ⟨trivial, hk.2⟩))) (fun _ h_ => h_))); (case aB => exact (au23)); (case aF => exact (fun _ _ => trivial)); (case aO => exact (by (with_reducible repeat (first | apply Kd.S_alloc | apply Kd.S_drewN | apply Kd.S_drew)); exact Kd.S_mono HO_4.out (fun k_ hk => ⟨trivial, fun e_ => hk.2 e_⟩))); (case aS => exact (below_size (au23))); (case aL => have := LMc7.out; omega); intro v250 w10 ho hb hg hat; rw [← Ny249.out] at ho; have n0_ := Aside0.mk (blk_grown (g := gb244) (o := .cells #[.slice A0_0 l0_0.length c0_0, .slice A0_1 l0_1.length c0_1, .slice A0_2 l0_2.length c0_2, .int .i64 a0_3] 25 (0, 0)) (au79) hg (Kd.S_ne HO_4.out BK244.out (by decide))); have n1_ := Aside0.mk (hb); have n2_ := Aside0.mk (ho); clear BK244; clear HB; clear HO_4; clear HO247; have BK244 := n0_; have HB := n1_; have HO251 := n2_; clear n0_ n1_ n2_; clear ho hb hg hat))
      go_roundg k1
      case measure => have := HK1.out; omega
      case rel => exact ⟨(y249), (wrap64 (x11_1 + 1)), (au37), H', ⟨by have := HK1.out; omega⟩, ⟨by (with_reducible repeat (first | apply Kd.S_alloc | apply Kd.S_drewN | apply Kd.S_drew)); first | exact HO251.out | exact Kd.S_mono (HO251.out) (fun _ h_ => h_.2)⟩, ⟨au79⟩, ⟨au23⟩⟩
     ·
      rw [if_neg c7] at H
      exact absurd H (by simp)
    ·
     rw [if_neg c6] at H
     have c6b0 : (t248 == 0) = false := beq_eq_false_iff_ne.mpr c6
     have c6b1 : (t248 != 0) = true := bne_iff_ne.mpr c6
     simp only [Option.some.injEq, Prod.mk.injEq] at H
     obtain ⟨rfl, rfl⟩ := H
     obtain ⟨hcz12_0, hcz12_1, hcz12_2, hcz12_3, hfz12_0, hfz12_1, hfz12_2, hfz12_3⟩ := blk_all4 BK244.out
     go_wp2_with (first | ((with_reducible refine gate_callee (f := 29) rfl ?_); refine goesL_ (some 17) rfl rfl Try.func29 (by kernel_rfl) rfl #[.agg #[.slice A0_0 l0_0.length c0_0, .slice A0_1 l0_1.length c0_1, .slice A0_2 l0_2.length c0_2, .int .i64 a0_3], .int .i64 x11_1] rfl (au7) ?_; (with_reducible refine (calls_Whom.calls _ _ l0_0 _ _ l0_1 _ _ l0_2 a0_3 x11_1 t245 t248 _ ?side1 ?side2 ?side3 ?side4 ?side5 ?side6 A5.out).mono ?_); (case side1 => exact au21); (case side2 => exact HC0_0.out); (case side3 => exact au17); (case side4 => exact HC0_1.out); (case side5 => exact au28); (case side6 => exact HC0_2.out); rintro e w13 ⟨v246, rfl, ho0, hb⟩; refine ⟨_, rfl, ?_⟩; have n0_ := Aside0.mk (Kd.S_elder' (au55) (Kd.R_base ho0) hb); have n1_ := Aside0.mk (Kd.R_lower ho0 (below_size (au23))); have n2_ := Aside0.mk (blk_below (g := gb244) (o := .cells #[.slice A0_0 l0_0.length c0_0, .slice A0_1 l0_1.length c0_1, .slice A0_2 l0_2.length c0_2, .int .i64 a0_3] 25 (0, 0)) (au79) hb); have n3_ := Aside0.mk (below_step (au23) hb); clear HO_4; clear BK244; clear HB; have HO_4 := n0_; have HO247 := n1_; have BK244 := n2_; have HB := n3_; clear n0_ n1_ n2_ n3_; (try clear hb); (try clear hb2); (try clear hk); (try clear hi); (try clear ho0)))
     go_ret2
     exact ⟨_, au20, au57, au23⟩
   ·
    rw [if_neg c4] at H
    have c4b0 : decide (x11_1 < (l0_2.length : Int)) = false := decide_eq_false c4
    clear c4
    simp only [Option.some.injEq, Prod.mk.injEq] at H
    obtain ⟨rfl, rfl⟩ := H
    go_wp2
    go_ret2
    exact ⟨_, au20, au55, au23⟩

-- NOT PRINTED: function 86 (slices_AppendSeq_int_int)

-- NOT PRINTED: function 72 (slices_Collect_int)

-- NOT PRINTED: function 58 (slices_Sorted_int)

-- NOT PRINTED: function 59 (maps_Keys_map_int_int_int_int)

/-! ### calls_Order: function 30 -/
section
open Go.ChangeMaps Go.MapKept Go.WideShapes
open Go.WideElems (Fit rd rg pl rd_key rd_val rg_of other_key rd_mk)
open Go.Maps (Keyed)
variable {H : Type} {P : Program} {k : TypeId} {R : Value → Option (DataW H × List MemPlace)} {w : World} {b r n : Nat} {D : DataW H} {left : Lit → Bool} {cnt : Nat}
/-- 'm[k] = v' at a key that is there: the entry keeps its stamp. -/
theorem fit_store_who {t e : TypeId} {es : Array MapEntry} {clock : Nat} (K : Keyed P k) (ht : P.underlying t = some (.map k e)) (hb : w.heap[b]? = some (.map es clock)) (F : Fit P k R es clock) {key val : Value} {kl : Lit} {yv : DataW H × List MemPlace} (hkey : keyOf P k key = some kl) (hv : R val = some yv) (hin : ∃ x ∈ es.toList, x.key = key) :
    ∃ es' j e0, (Instr.mapUpdate t (.map (some b)) key val).run P w = .ok () (setBlock w b (.map es' clock)) ∧ Fit P k R es' clock ∧ (es'.toList.map (rg P k R)).foldr DataW.insert [] = putKey kl yv.1 ((es.toList.map (rg P k R)).foldr DataW.insert []) ∧ es.toList[j]? = some e0 ∧ e0.key = key ∧ es'.toList = es.toList.set j { e0 with key := key, val := val } := by
  rcases K.find w hkey es.toList F.keys with ⟨h1, h2⟩ | ⟨j, e0, h1, h2, h3⟩
  · obtain ⟨x, hx, hxk⟩ := hin
    exact absurd hxk (h2 x hx)
  · have hj : es[j]? = some e0 := by simpa using h2
    have hjl : j < es.toList.length := (List.getElem?_eq_some_iff.1 h2).1
    have hkeyf : ∀ e', es[j]? = some e' → ({ e' with key := key, val := val } : MapEntry).key = e'.key := fun e' he' => by rw [hj] at he'; cases he'; exact h3.symm
    have hlist : (es.modify j (fun e' => { e' with key := key, val := val })).toList = es.toList.set j { e0 with key := key, val := val } := by rw [Array.toList_modify, modify_eq_set _ _ _ _ h2]
    have who : ∀ x ∈ es.toList.set j { e0 with key := key, val := val }, x = { e0 with key := key, val := val } ∨ (x ∈ es.toList ∧ x.key ≠ key) := by
      intro x hx
      obtain ⟨i, hi, ex⟩ := List.getElem_of_mem hx
      rw [List.getElem_set] at ex
      split at ex
      · exact Or.inl ex.symm
      · rename_i hne
        have hi' : i < es.toList.length := by simpa using hi
        refine Or.inr ⟨ex ▸ List.getElem_mem hi', ?_⟩
        rw [← h3]
        exact other_key F h2 (by rw [List.getElem?_eq_getElem hi', ex]) (fun e1 => hne e1.symm)
    refine ⟨es.modify j (fun e' => { e' with key := key, val := val }), j, e0, ?_, ⟨by simpa using F.size, stamped_modify F.stamped _ _ (fun _ _ => rfl) (fun e' _ he' => hkeyf e' he'), ?_⟩, ?_, h2, h3, hlist⟩
    · simp [Instr.mapUpdate, run_underlying ht, MapKept.run_getObj_map hb, K.check w false hkey, h1, hj, h3, K.stays w hkey, MapKept.run_setObj_map _ hb, Result.andThen, setBlock]
    · intro x hx
      rw [hlist] at hx
      rcases who x hx with rfl | ⟨hx', hne⟩
      · exact ⟨_, rd_mk hkey hv⟩
      · exact F.reads x hx'
    · refine Maps.sorted_put K.one ⟨key, hkey⟩ (Maps.fit_keys F) (Maps.fit_apart K F) ?_
      rw [Maps.filter_one K F hkey h2 h3, hlist, List.map_set, rg_of (rd_mk hkey hv)]
      exact set_perm _ _ (by simpa using hjl) _
theorem left_len (a : Array MapEntry) (seen : Array Nat) : (leftOf a seen).size = ((a.toList.map (·.born)).filter fun z => !seen.contains z).length := by
  unfold leftOf
  rw [← Array.length_toList, Array.toList_filter, List.filter_map, List.length_map]
  rfl
/-- A store at a key that is there, into the map that is ranged over: who is left stays. -/
theorem ranges_store {t e : TypeId} (h : w.ranges P k R b r n D left cnt) (K : Keyed P k) (ht : P.underlying t = some (.map k e)) {key val : Value} {kl : Lit} {d : DataW H} {ps : List MemPlace} (hkey : keyOf P k key = some kl) (hv : R val = some (d, ps)) (hhas : Maps.has D kl = true) :
    ∃ w', (Instr.mapUpdate t (.map (some b)) key val).run P w = .ok () w' ∧ w'.ranges P k R b r n (D.put kl d) left cnt ∧ w.mapTurned w' b := by
  have hne := h.ne
  obtain ⟨es, clock, since, seen, c0, hb, F, hs, rfl, hr, hold, rfl, hl1, hl2, hsc, hsk⟩ := h
  have hin : ∃ x ∈ es.toList, x.key = key := by
    obtain ⟨p, hp, hpk⟩ := List.any_eq_true.1 hhas
    obtain ⟨x, hx, rfl⟩ := List.mem_map.1 (mem_sorted.1 hp)
    obtain ⟨y, hy⟩ := F.reads x hx
    have h1 := WideAt.sameKey_eq hpk
    rw [rg_of hy] at h1
    exact ⟨x, hx, K.inj (h1 ▸ rd_key hy) hkey⟩
  obtain ⟨es', j, e0, hrun, F', hput, hj, hk0, hlist⟩ := fit_store_who K ht hb F hkey hv hin
  have hjl : j < es.toList.length := (List.getElem?_eq_some_iff.1 hj).1
  have hje : es.toList[j] = e0 := (List.getElem?_eq_some_iff.1 hj).2
  have hborn : es'.toList.map (·.born) = es.toList.map (·.born) := by
    rw [hlist, List.map_set]
    apply List.ext_getElem (by simp)
    intro i h1 h2
    rw [List.getElem_set]
    split
    · rename_i e1; subst e1; rw [List.getElem_map, hje]
    · rfl
  have hsz : es'.size = es.size := by rw [← Array.length_toList, hlist, List.length_set, Array.length_toList]
  have key' : ∀ x ∈ es.toList, x.key = key → (rg P k R x).1 = kl := fun x hx hxk => by
    obtain ⟨y, hy⟩ := F.reads x hx
    have m1 := rd_key hy
    rw [hxk, hkey] at m1
    rw [rg_of hy, Option.some.inj m1]
  have who : ∀ x ∈ es'.toList, ∃ y ∈ es.toList, (rg P k R x).1 = (rg P k R y).1 ∧ x.born = y.born := by
    intro x hx
    rw [hlist] at hx
    obtain ⟨i, hi, ex⟩ := List.getElem_of_mem hx
    rw [List.getElem_set] at ex
    split at ex
    · refine ⟨e0, hje ▸ List.getElem_mem hjl, ?_, by rw [← ex]⟩
      rw [key' e0 (hje ▸ List.getElem_mem hjl) hk0, ← ex, rg_of (rd_mk hkey hv)]
    · exact ⟨x, ex ▸ List.getElem_mem _, rfl, rfl⟩
  have ohw : ∀ y ∈ es.toList, ∃ x ∈ es'.toList, (rg P k R x).1 = (rg P k R y).1 := by
    intro y hy
    obtain ⟨i, hi, ey⟩ := List.getElem_of_mem hy
    by_cases hij : j = i
    · subst hij
      refine ⟨{ e0 with key := key, val := val }, by rw [hlist]; exact List.mem_iff_getElem.2 ⟨j, by simpa using hjl, by simp⟩, ?_⟩
      rw [rg_of (rd_mk hkey hv), ← ey, key' _ (List.getElem_mem hjl) (by rw [hje]; exact hk0)]
    · exact ⟨y, by rw [hlist]; exact List.mem_iff_getElem.2 ⟨i, by simpa using hi, by rw [List.getElem_set_ne hij]; exact ey⟩, rfl⟩
  refine ⟨_, hrun, ⟨es', clock, since, seen, c0, heap_setBlock_same hb _, F', by omega, by rw [DataW.put_eq, hput], (heap_setBlock_other hb _ hne).trans hr, fun x hx => ?_, by rw [left_len, left_len, hborn], fun x hx => ?_, fun kl' hkl' => ?_, hsc, hsk⟩, ⟨es, clock, es', clock, hb, rfl⟩⟩
  · obtain ⟨y, hy, _, e2⟩ := who x hx
    rw [e2]; exact hold y hy
  · obtain ⟨y, hy, e1, e2⟩ := who x hx
    rw [e1, e2]; exact hl1 y hy
  · obtain ⟨y, hy, rfl⟩ := hl2 kl' hkl'
    obtain ⟨x, hx, e1⟩ := ohw y hy
    exact ⟨x, hx, e1⟩
/-- At the operation. -/
theorem wpList_store_ranges {ops : Array Oper} {rest : List Oper} {o : Oper} {a : Act} {Q : Exit → Act → World → Prop} (hg : o.guard = none) (m x v : Operand) (t : TypeId) (hop : o.op = Op.mapUpdate t m x v)
    (e : TypeId) (K : Keyed P k) (ht : P.underlying t = some (.map k e)) (hm : a.eval m = .map (some b)) (h : w.ranges P k R b r n D left cnt) (key val : Value) (kl : Lit) (hx : a.eval x = key) (hvv : a.eval v = val) (hkey : keyOf P k key = some kl) (hhas : Maps.has D kl = true)
    (d : DataW H) (ps : List MemPlace) (hval : R val = some (d, ps))
    (hK : ∀ w', w'.ranges P k R b r n (D.put kl d) left cnt → w.mapTurned w' b → wpList P ops Q rest (a.put o.dst undef) w') :
    wpList P ops Q (o :: rest) a w := by
  refine wpList_plain hg fun K' hK' => ?_
  obtain ⟨w', hrun, r1, r2⟩ := ranges_store h K ht hkey hval hhas
  unfold Oper.wp
  simp [execOp, hop, hm, hx, hvv, hrun, Result.andThen]
  exact hK' _ _ (hK w' r1 r2)
end
/-- The methods that aren't in the order yet. -/
def odKeys (n : Nat) (out : List Int) : List Int := ((List.range n).map fun (k : Nat) => (k : Int)).filter fun z => !out.contains z
/-- How many of those that a method calls aren't in the order yet. -/
def odCnt (whom : List (List Int)) (out : List Int) (z : Int) : Int := ((whom.getD z.toNat []).length : Int) - ((out.filter fun x => (whom.getD z.toNat []).contains x).length : Int)
def odLoop (whom : List (List Int)) (n : Nat) : Nat → List Int → Option (List Int × Int)
  | 0, _ => none
  | d + 1, out => if odKeys n out = [] then some (out, 0) else match (odKeys n out).find? fun z => odCnt whom out z == 0 with
    | some z => odLoop whom n d (out ++ [z])
    | none => some ([], 110)
/-- What a map of ints to ints holds. -/
def OdMap (D : DataW Unit) (S : List Int) (f : Int → Int) : Prop := (∀ z, Maps.has D (.int .i64 z) = decide (z ∈ S)) ∧ ∀ z ∈ S, ∀ zd, D.atKey (.int .i64 z) zd = .lit (.int .i64 (f z))
theorem odKeys_mem {n : Nat} {out : List Int} {z : Int} : z ∈ odKeys n out ↔ (0 ≤ z ∧ z < (n : Int)) ∧ z ∉ out := by
  unfold odKeys
  rw [List.mem_filter, List.mem_map]
  constructor
  · rintro ⟨⟨k, hk, rfl⟩, h⟩
    rw [List.mem_range] at hk
    exact ⟨by omega, by simpa using h⟩
  · rintro ⟨h, h2⟩
    exact ⟨⟨z.toNat, by rw [List.mem_range]; omega, by omega⟩, by simpa using h2⟩
theorem odKeys_nil (n : Nat) : odKeys n [] = (List.range n).map fun (k : Nat) => (k : Int) := by
  unfold odKeys
  rw [List.filter_eq_self]
  intro a _
  simp
theorem odKeys_sorted (n : Nat) (out : List Int) : (odKeys n out).Pairwise fun a b => a < b := by
  unfold odKeys
  refine List.Pairwise.filter _ ?_
  rw [List.pairwise_map]
  exact List.pairwise_lt_range.imp fun h => by omega
theorem odKeys_nodup (n : Nat) (out : List Int) : (odKeys n out).Nodup := (odKeys_sorted n out).imp fun h => by omega
theorem lit_ne {a b : Int} (h : a ≠ b) : (Lit.int .i64 a) ≠ Lit.int .i64 b := fun e => h (by cases e; rfl)
theorem OdMap.congr {D : DataW Unit} {S S' : List Int} {f f' : Int → Int} (h : OdMap D S f) (hS : ∀ z, z ∈ S ↔ z ∈ S') (hf : ∀ z ∈ S', f z = f' z) : OdMap D S' f' :=
  ⟨fun z => by rw [h.1 z, decide_eq_decide]; exact hS z, fun z hz zd => by rw [h.2 z ((hS z).2 hz) zd, hf z hz]⟩
theorem OdMap.put {D : DataW Unit} {S : List Int} {f : Int → Int} (h : OdMap D S f) (hD : Maps.IsMap D) (z0 v : Int) : OdMap (D.put (.int .i64 z0) (.lit (.int .i64 v))) (z0 :: S) (fun z => if z = z0 then v else f z) := by
  have hk : WideAt.IsKeyLit (.int .i64 z0) := trivial
  refine ⟨fun z => ?_, fun z hz zd => ?_⟩
  · by_cases e : z = z0
    · subst e; rw [Maps.has_put_same hD hk]; simp
    · rw [Maps.has_put_other (lit_ne e), h.1 z, decide_eq_decide]; simp [e]
  · by_cases e : z = z0
    · subst e; rw [Maps.atKey_put_same hD hk]; show _ = DataW.lit (Lit.int .i64 (if z = z then v else f z)); rw [if_pos rfl]
    · rw [Maps.atKey_put_other (lit_ne e)]; show _ = DataW.lit (Lit.int .i64 (if z = z0 then v else f z)); rw [if_neg e]; exact h.2 z (by simpa [e] using hz) zd
theorem OdMap.del {D : DataW Unit} {S : List Int} {f : Int → Int} (h : OdMap D S f) (z0 : Int) : OdMap (D.del (.int .i64 z0)) (S.filter fun z => z != z0) f := by
  refine ⟨fun z => ?_, fun z hz zd => ?_⟩
  · by_cases e : z = z0
    · subst e; rw [Maps.has_del_same]; simp
    · rw [Maps.has_del_other (lit_ne e), h.1 z, decide_eq_decide]; simp [e]
  · obtain ⟨h1, h2⟩ := List.mem_filter.1 hz
    rw [Maps.atKey_del_other (lit_ne (by simpa using h2))]; exact h.2 z h1 zd
section
variable {P : Program} {k : TypeId} {R : Value → Option (DataW Unit × List MemPlace)} {w : World} {b n : Nat} {D : DataW Unit} {S : List Int} {f : Int → Int}
theorem OdMap.perm (h : OdMap D S f) (hS : S.Nodup) (hown : w.ownsMap P k R b n D) (K : Maps.Keyed P k) (hk : P.underlying k = some (.int .i64)) : S.Perm (intKeys D) := by
  obtain ⟨es, hD, hpw, _⟩ := hown.entries K
  obtain ⟨es', hD', hko⟩ := hown.keysOf
  obtain rfl : es = es' := by rw [hD] at hD'; simpa using hD'
  subst hD
  exact perm_intKeys hpw (fun p hp => by obtain ⟨v, hv⟩ := hko p hp; obtain ⟨x, _, hx, _⟩ := Maps.keyOf_i64 hk hv; exact ⟨x, hx⟩) hS (fun x => by rw [h.1 x]; simp)
theorem OdMap.size (h : OdMap D S f) (hS : S.Nodup) (hown : w.ownsMap P k R b n D) (K : Maps.Keyed P k) (hk : P.underlying k = some (.int .i64)) : Maps.size D = S.length := by
  have h1 := (h.perm hS hown K hk).length_eq
  obtain ⟨es, hD, _⟩ := hown.entries K
  subst hD
  rw [h1]
  simp [intKeys, Maps.size]
theorem OdMap.sorted (h : OdMap D S f) (hS : S.Pairwise fun a b => a < b) (hown : w.ownsMap P k R b n D) (K : Maps.Keyed P k) (hk : P.underlying k = some (.int .i64)) {ss : List Int} (hp : ss.Perm (intKeys D)) : ss.mergeSort (fun x y => decide (x ≤ y)) = S := by
  have hnd : S.Nodup := hS.imp fun h => by omega
  have h1 : ss.Perm S := hp.trans (h.perm hnd hown K hk).symm
  rw [mergeSort_of_perm_i h1]
  exact List.mergeSort_of_pairwise (hS.imp fun h => by simp; omega)
end
theorem odCnt_snoc (whom : List (List Int)) (out : List Int) (x z : Int) : odCnt whom (out ++ [x]) z = if (whom.getD z.toNat []).contains x then odCnt whom out z - 1 else odCnt whom out z := by
  unfold odCnt
  generalize whom.getD z.toNat [] = l
  rw [List.filter_append, List.length_append]
  cases h : l.contains x
  · rw [if_neg (by decide), List.filter_cons_of_neg (by rw [h]; decide)]; simp
  · rw [if_pos rfl, List.filter_cons_of_pos h]; simp; omega
theorem odKeys_snoc (n : Nat) (out : List Int) (x : Int) : odKeys n (out ++ [x]) = (odKeys n out).filter fun z => z != x := by
  unfold odKeys
  rw [List.filter_filter]
  congr 1
  funext z
  by_cases h : z = x <;> simp [h]
theorem odKeys_len (n : Nat) (out : List Int) (x : Int) (h : x ∈ odKeys n out) : (odKeys n (out ++ [x])).length + 1 = (odKeys n out).length := by
  rw [odKeys_snoc]
  have := List.length_erase_of_mem h
  have h2 := (odKeys_nodup n out).erase_eq_filter x
  have h3 : 0 < (odKeys n out).length := List.length_pos_of_mem h
  rw [h2] at this
  omega
theorem odCnt_bound (whom : List (List Int)) (out : List Int) (z : Int) : -(out.length : Int) ≤ odCnt whom out z ∧ odCnt whom out z ≤ (whom.getD z.toNat []).length := by
  unfold odCnt
  have := List.length_filter_le (fun x => (whom.getD z.toNat []).contains x) out
  omega
theorem same_self (x : Int) : (Lit.int .i64 x).sameKey (Lit.int .i64 x) = true := by simp [Lit.sameKey]
theorem same_ne {y x : Int} (h : y ≠ x) : (Lit.int .i64 y).sameKey (Lit.int .i64 x) = false := by simp [Lit.sameKey, h]
/-- A round of the range over the map that changes nothing. -/
theorem OdMap.stay {D : DataW Unit} {S : List Int} {left : Lit → Bool} {whom : List (List Int)} {out : List Int} {z x : Int} (h : OdMap D S fun y => if left (.int .i64 y) = true then odCnt whom out y else odCnt whom (out ++ [z]) y) (hlx : left (.int .i64 x) = true) (hc : (whom.getD x.toNat []).contains z = false) :
    OdMap D S fun y => if (left (.int .i64 y) && !(Lit.int .i64 y).sameKey (.int .i64 x)) = true then odCnt whom out y else odCnt whom (out ++ [z]) y := by
  refine h.congr (fun _ => Iff.rfl) (fun y _ => ?_)
  by_cases e : y = x
  · subst e
    rw [same_self, if_pos hlx, if_neg (by simp), odCnt_snoc, if_neg (by rw [hc]; decide)]
  · rw [same_ne e]; simp
/-- A round that lowers one number. -/
theorem OdMap.lower {D : DataW Unit} {S : List Int} {left : Lit → Bool} {whom : List (List Int)} {out : List Int} {z x : Int} (h : OdMap D S fun y => if left (.int .i64 y) = true then odCnt whom out y else odCnt whom (out ++ [z]) y) (hD : Maps.IsMap D) (hx : x ∈ S) (hc : (whom.getD x.toNat []).contains z = true) :
    OdMap (D.put (.int .i64 x) (.lit (.int .i64 (odCnt whom out x - 1)))) S fun y => if (left (.int .i64 y) && !(Lit.int .i64 y).sameKey (.int .i64 x)) = true then odCnt whom out y else odCnt whom (out ++ [z]) y := by
  refine (h.put hD x (odCnt whom out x - 1)).congr (fun y => ?_) (fun y _ => ?_)
  · rw [List.mem_cons]; exact ⟨fun h => h.elim (fun e => e ▸ hx) id, .inr⟩
  · by_cases e : y = x
    · subst e
      rw [if_pos rfl, same_self, if_neg (by simp), odCnt_snoc, if_pos hc]
    · rw [if_neg e, same_ne e]; simp
theorem at_rows {w : World} {A : Option Addr} {n : Nat} {xs : List (List Int)} (h : Kd.C (Kd.slice 3 (Kd.int .i64)) w A n xs) (i : Int) (h0 : 0 ≤ i) (h1 : i < n) : ∃ ad A0 c0, A = some ad ∧ w.cell? (ad.add i.toNat) = some (.slice A0 (xs.getD i.toNat []).length c0) ∧ (xs.getD i.toNat []).length ≤ c0 ∧ (Kd.int .i64).C w A0 (xs.getD i.toNat []).length (xs.getD i.toNat []) := by
  obtain ⟨ad, c, e, _, hK, hc0⟩ := Kd.C_get h ([] : List Int) i h0 h1
  have hc : ∀ j u, c[j]? = some u → w.cell? (ad.add (i.toNat * 1 + j)) = some u := hc0
  obtain ⟨A0, c0, rfl, l0, g0⟩ := hK
  exact ⟨ad, A0, c0, e, au84, l0, g0⟩
theorem at_ints {w : World} {A : Option Addr} {n : Nat} {xs : List Int} (h : Kd.C (Kd.int .i64) w A n xs) (i : Nat) (h1 : i < n) (h2 : i < xs.length) : ∃ ad, A = some ad ∧ w.cell? (ad.add i) = some (.int .i64 xs[i]) := by
  obtain ⟨ad, c, e, _, hK, hc0⟩ := Kd.C_get h (0 : Int) (i : Int) (by omega) (by omega)
  have hc : ∀ j u, c[j]? = some u → w.cell? (ad.add (i * 1 + j)) = some u := hc0
  obtain rfl : c = [Value.int .i64 (xs.getD (i : Int).toNat 0)] := hK
  refine ⟨ad, e, ?_⟩
  have hq := hc 0 _ rfl
  rw [Nat.mul_one, Nat.add_zero] at hq
  rw [hq]
  simp [h2]
/-- slices.Contains of a row that is read. -/
theorem contains_C (w : World) (A : Option Addr) (c : Nat) (xs : List Int) (x : Int) (h : Kd.C (Kd.int .i64) w A xs.length xs) (hl : xs.length ≤ 1000000) :
    Calls Try.prog 44 #[.slice A xs.length c, .int .i64 x] w fun e w' => e = .returned (.bool (xs.contains x)) ∧ w' = w := by
  by_cases h0 : xs = []
  · subst h0
    exact (Try.slices_Contains_int_empty A c x w).mono (by rintro e w' ⟨rfl, rfl⟩; exact ⟨rfl, rfl⟩)
  · have hpos : 0 < xs.length := List.length_pos_iff.2 h0
    obtain ⟨ad, rfl, hc⟩ := at_ints h 0 hpos hpos
    have hsp : ad.spot = none := by
      cases hs : ad.spot with
      | none => rfl
      | some s =>
        exfalso
        unfold World.cell? at hc
        simp only [Addr.add] at hc
        split at hc <;> simp_all
    obtain ⟨b, off, sp⟩ := ad
    dsimp only at hsp
    subst hsp
    have hall : ∀ j, j < xs.length → w.cell? ⟨b, off + j, none⟩ = some (.int .i64 (xs.getD j 0)) := by
      intro j hj
      obtain ⟨ad, e, hc⟩ := at_ints h j hj hj
      cases e
      rw [show (⟨b, off + j, none⟩ : Addr) = (⟨b, off, none⟩ : Addr).add j from (by unfold Addr.add; split <;> simp_all), hc]
      simp [hj]
    refine (Try.slices_Contains_int b off xs.length c xs x w (Nat.le_refl _) (by omega) hall).mono ?_
    rintro e w' ⟨rfl, rfl⟩
    rw [List.take_length]
    exact ⟨rfl, rfl⟩
def calls_Order.f (k : Nat) (l0_0 l0_1 : List S86) (l0_2 : List S52) (a0_3 : Int) : Option (List Int × Int) := (calls_all.f k l0_0 l0_1 l0_2 a0_3).bind fun p => if p.2 = 0 then (if p.1.length ≤ 10000 ∧ p.1.all (fun l => decide (l.length ≤ 1000000)) = true then odLoop p.1 p.1.length (p.1.length + 1) [] else none) else some ([], p.2)
theorem calls_Order.mono : ∀ a0 a1 a2 a3 k, LeO (calls_Order.f k a0 a1 a2 a3) (calls_Order.f (k + 1) a0 a1 a2 a3) := by
  intro a0 a1 a2 a3 k
  unfold calls_Order.f
  exact LeO.bind (calls_all.mono _ _ _ _ _) fun p => LeO.refl _
section
open Go.Maps
def slLen : Value → Nat
  | .slice _ n _ => n
  | _ => 0
theorem owns_below {H : Type} {P : Program} {k : TypeId} {R : Value → Option (DataW H × List MemPlace)} {w w' : World} {b n : Nat} {D : DataW H} (h : w.ownsMap P k R b n D) (hb : Below w.heap.size w w') : w'.ownsMap P k R b n D := by
  have hlt := h.lt
  obtain ⟨es, clock, h1, rest⟩ := h
  exact ⟨es, clock, (hb.block b hlt).trans h1, rest⟩
/-- maps.Keys of the map of ints. -/
theorem keys_calls (mb : Option Nat) (W : World) : Calls Try.prog 59 #[.map mb] W fun e w' => e = .returned (.func (.func 73) #[] #[.pointer (some ⟨W.heap.size, 0, none⟩)]) ∧ w' = W.alloc (.cells #[.map mb] 93) :=
  callsIn_wide.1 (Go.Proofs.AnyZI.keys_in Go.Proofs.Try.keys59 Fence.wide 5 trivial rfl mb W)
theorem sorts_in (m : Nat) : Go.Proofs.AnyZI.SortsIn Try.prog Go.Proofs.Try.sorted58_ren Fence.wide m :=
  ⟨fun blk off cap ss W hH hblk hsz => callsIn_wide.2 (Try.slices_Sort_int blk off cap ss W hH hblk hsz), fun p cap W => callsIn_wide.2 (Try.slices_Sort_int_none p cap W)⟩
/-- slices.Sorted of what maps.Keys tells. -/
theorem sorted_calls (b nn : Nat) (D0 : DataW Unit) (R : Value → Option (DataW Unit × List MemPlace)) (w : World) (hown : w.ownsMap Try.prog 3 R b nn D0) (hmax : Maps.size D0 ≤ 10000) :
    Calls Try.prog 58 #[.func (.func 73) #[] #[.pointer (some ⟨w.heap.size, 0, none⟩)]] (w.alloc (.cells #[.map (some b)] 93)) fun e w' => ∃ (v : Value) (ss : List Int), e = .returned v ∧ ss.Perm (intKeys D0) ∧
      Kd.R (Kd.int .i64) 3 w' (w.heap.size + 1) (fun _ => True) v (ss.mergeSort fun x y => decide (x ≤ y)) ∧ Below (w.alloc (.cells #[.map (some b)] 93)).heap.size (w.alloc (.cells #[.map (some b)] 93)) w' := by
  have hbl := hown.lt
  have hseq : SeqGives Fence.wide 2 Try.prog 73 #[.pointer (some ⟨w.heap.size, 0, none⟩)] encZ (fun ss => ss.Perm (intKeys D0)) (Maps.size D0) (w.alloc (.cells #[.map (some b)] 93)) :=
    Go.Proofs.AnyZI.keys_gives (ρ := Go.Proofs.Try.keys59_ren) { Go.Proofs.Try.keys59 with } Fence.wide _ trivial rfl (by omega) w.heap.size b nn D0 _ (by simp) (by simp) (by
      obtain ⟨es, clock, hb, Ft, hs, hD⟩ := hown
      exact ⟨es, clock, (Below.heap_alloc _ _ b hbl).trans hb, Ft, hs, hD⟩)
  have cS := Go.Proofs.AnyZI.sorted_in Go.Proofs.Try.sorted58 Fence.wide 5 trivial trivial trivial trivial rfl (by omega) (sorts_in _) (enters_of Try.func55 (by kernel_rfl) rfl) 73 #[.pointer (some ⟨w.heap.size, 0, none⟩)] trivial (enters_of Try.func73 (by kernel_rfl) rfl) _ (Maps.size D0) (by unfold maxLen; omega) (by omega) _ hseq
  change CallsIn _ _ Try.prog 58 _ _ _ at cS
  refine (callsIn_wide.1 cS).mono ?_
  rintro e w' ⟨v, ss, rfl, hS, hrow, _, hb⟩
  refine ⟨v, ss, rfl, hS, R_ints.2 ⟨fun _ _ => trivial, ?_⟩, hb⟩
  rw [World.size_alloc] at hrow
  rw [List.length_mergeSort]
  exact hrow
theorem sorted_calls2 (b nn : Nat) (D0 : DataW Unit) (S : List Int) (f : Int → Int) (w : World) (hown : w.ownsMap Try.prog 3 (plainElem Try.prog 3) b nn D0) (hM : OdMap D0 S f) (hS : S.Pairwise fun a b => a < b) (hl : S.length ≤ 10000) :
    Calls Try.prog 58 #[.func (.func 73) #[] #[.pointer (some ⟨w.heap.size, 0, none⟩)]] (w.alloc (.cells #[.map (some b)] 93)) fun e w' => ∃ A c, e = .returned (.slice A S.length c) ∧ Kd.C (Kd.int .i64) w' A S.length S ∧ Below w.heap.size w w' := by
  have hK : Keyed Try.prog 3 := int_keyed Try.underlying3
  have hsz := hM.size (hS.imp fun h => by omega) hown hK Try.underlying3
  refine (sorted_calls b nn D0 _ w hown (by omega)).mono ?_
  rintro e w' ⟨v, ss, rfl, hp, hR, hb⟩
  rw [hM.sorted hS hown hK Try.underlying3 hp] at hR
  obtain ⟨A, c, rfl, _, hC⟩ := Kd.R_reads hR
  exact ⟨A, c, rfl, hC, (below_alloc (Below.refl w.heap.size w) _).trans (hb.mono (by simp))⟩
theorem law_int : Keyed Try.prog 3 := int_keyed Try.underlying3
theorem zero_int (w : World) : (zeroValue 3).run Try.prog w = .ok (.int .i64 0) w := by kernel_rfl
set_option maxHeartbeats 8000000 in
set_option maxRecDepth 100000 in
theorem calls_Order.calls (k : Nat) (A0_0 : Option Addr) (c0_0 : Nat) (l0_0 : List (S86)) (A0_1 : Option Addr) (c0_1 : Nat) (l0_1 : List (S86)) (A0_2 : Option Addr) (c0_2 : Nat) (l0_2 : List (S52)) (a0_3 : Int) (r1 : List Int) (r2 : Int) (w : World) (hr0_0 : Kd.C k86 w A0_0 l0_0.length l0_0) (hc0_0 : l0_0.length ≤ c0_0) (hr0_1 : Kd.C k86 w A0_1 l0_1.length l0_1) (hc0_1 : l0_1.length ≤ c0_1) (hr0_2 : Kd.C k52 w A0_2 l0_2.length l0_2) (hc0_2 : l0_2.length ≤ c0_2) (h : calls_Order.f k l0_0 l0_1 l0_2 a0_3 = some (r1, r2)) :
    Calls Try.prog 30 #[.agg #[.slice A0_0 l0_0.length c0_0, .slice A0_1 l0_1.length c0_1, .slice A0_2 l0_2.length c0_2, .int .i64 a0_3]] w fun e w' => ∃ v0_ : Value, e = .returned (.tuple #[v0_, .int .i64 r2]) ∧ Kd.R (Kd.int .i64) 3 w' w.heap.size (fun _ => True) v0_ r1 ∧ Below w.heap.size w w' := by
  have HR0 := Aside0.mk hr0_0
  have HR1 := Aside0.mk hr0_1
  have HR2 := Aside0.mk hr0_2
  have HC0 := Aside0.mk hc0_0
  have HC1 := Aside0.mk hc0_1
  have HC2 := Aside0.mk hc0_2
  clear hr0_0 hr0_1 hr0_2 hc0_0 hc0_1 hc0_2
  unfold calls_Order.f at h
  obtain ⟨⟨whom, e0⟩, hall, h⟩ := Option.bind_eq_some_iff.mp h
  have HA := Aside0.mk hall
  clear hall
  dsimp only at h
  by_cases he : e0 = 0
  · subst he
    rw [if_pos rfl] at h
    by_cases hb : whom.length ≤ 10000 ∧ whom.all (fun l => decide (l.length ≤ 1000000)) = true
    case neg => rw [if_neg hb] at h; cases h
    rw [if_pos hb] at h
    obtain ⟨hb1, hb2⟩ := hb
    have H := Aside0.mk h
    have HB2 := Aside0.mk hb2
    clear h hb2
    have hmm := @run_makeMap Try.prog
    go_enter Try.func30, Try.ntmps30
    go_wp2_with (first | (go_at_call 57; (refine (calls_all.calls k A0_0 c0_0 l0_0 A0_1 c0_1 l0_1 A0_2 c0_2 l0_2 a0_3 whom 0 _ (Kd.C_alloc HR0.out _) HC0.out (Kd.C_alloc HR1.out _) HC1.out (Kd.C_alloc HR2.out _) HC2.out HA.out).mono ?_); rintro e w1 ⟨v1, rfl, hS1, hb1'⟩; have S1 := Aside0.mk hS1; have B1 := Aside0.mk (((Below.refl w.heap.size w).alloc (Nat.le_refl _) (.cells #[.slice A0_0 l0_0.length c0_0, .slice A0_1 l0_1.length c0_1, .slice A0_2 l0_2.length c0_2, .int .i64 a0_3] 25)).trans (hb1'.mono (by simp))); obtain ⟨Aw, cw, rfl⟩ := Kd.R_slice (Kd.S_R hS1); clear hS1 hb1'))
    have RW1 := Aside0.mk (Kd.R_reads (Kd.S_R S1.out))
    go_loopw [25] (fun u wr => ∃ (i : Nat) (D : DataW Unit), u = .int .i64 (i : Int) ∧ i ≤ whom.length ∧ Aside0 (wr.ownsMap Try.prog 3 (plainElem Try.prog 3) w1.heap.size i D) ∧ Aside0 (OdMap D (odKeys i []) (odCnt whom [])) ∧ Aside0 (Below w1.heap.size w1 wr))
      (fun u _ => whom.length - (intOf u).toNat)
    case atStart => exact ⟨0, .map [], rfl, Nat.zero_le _, ⟨World.ownsMap_made _ _ _ _⟩, ⟨⟨fun z => by simp [Maps.has, odKeys], fun z hz => by simp [odKeys] at hz⟩⟩, ⟨(Below.refl _ _).alloc (Nat.le_refl _) _⟩⟩
    case round =>
      obtain ⟨i, D, rfl, hi, HO, HM, HB⟩ := hrel
      by_cases hlt : i < whom.length
      · obtain ⟨A1, c1, e1, hl1, hC1⟩ := RW1.out
        cases e1
        obtain ⟨ad, Ai, ci, hAd, p0, hci, hCi⟩ := at_rows (Kd.C_below hC1 HB.out) (i : Int) (by omega) (by omega)
        subst hAd
        simp only [Int.toNat_natCast] at p0
        have hwl : (whom.getD i []).length ≤ 1000000 := by
          have := List.all_eq_true.1 HB2.out (whom.getD i []) (by rw [List.getD_eq_getElem?_getD, List.getElem?_eq_getElem hlt]; exact List.getElem_mem hlt)
          simpa using this
        have hpl : plainElem (H := Unit) Try.prog 3 (.int .i64 ((whom.getD i []).length : Int)) = some (.lit (.int .i64 ((whom.getD i []).length : Int)), []) := plainElem_int Try.underlying3 (WalkArith.wf_i64 (by omega))
        have hkey : keyOf Try.prog 3 (.int .i64 (i : Int)) = some (.int .i64 (i : Int)) := keyOf_int_mk Try.underlying3 (WalkArith.wf_i64 (by omega))
        have hput := HM.out.put HO.out.isMap (i : Int) ((whom.getD i []).length : Int)
        have hput2 : OdMap (D.put (.int .i64 (i : Int)) (.lit (.int .i64 ((whom.getD i []).length : Int)))) (odKeys (i + 1) []) (odCnt whom []) := by
          refine hput.congr (fun z => ?_) (fun z hz => ?_)
          · rw [List.mem_cons, odKeys_mem, odKeys_mem]; simp; omega
          · by_cases e : z = (i : Int)
            · subst e; simp [odCnt]
            · simp [e]
        generalize (whom.getD i []).length = ln at *
        go_wp2_with (first | (at_mapUpdate; refine wpList_mapUpdate_own _ rfl _ _ _ 93 rfl 3 3 law_int Try.underlying93 _ w1.heap.size i _ rfl HO.out (by unfold maxLen; omega) _ _ (.int .i64 (i : Int)) rfl rfl hkey _ [] hpl ?_; intro w5 hown5 hgrow5))
        exact ⟨⟨i + 1, _, by simp, by omega, ⟨hown5⟩, ⟨hput2⟩, ⟨HB.out.grown hgrow5 HB.out.size (fun j hj => by cases hj; exact Nat.le_refl _)⟩⟩, by simp [intOf]; omega⟩
      · obtain rfl : i = whom.length := by omega
        have HB3 := HB
        have HO3 := HO
        have HM3 := HM
        clear HB HO HM
        go_wp2
        have Z0 := Aside0.mk (Kd.R_nil (Kd.int .i64) 3 wr w1.heap.size (fun k => k ≠ w1.heap.size))
        go_loopw [9] (fun u wr => ∃ (out : List Int) (A : Option Addr) (c d : Nat) (D : DataW Unit), u = .slice A out.length c ∧ Aside0 (Kd.R (Kd.int .i64) 3 wr w1.heap.size (fun k => k ≠ w1.heap.size) (.slice A out.length c) out) ∧ Aside0 (wr.ownsMap Try.prog 3 (plainElem Try.prog 3) w1.heap.size whom.length D) ∧ Aside0 (OdMap D (odKeys whom.length out) (odCnt whom out)) ∧ Aside0 (Below w1.heap.size w1 wr) ∧ Aside0 (odLoop whom whom.length d out = some (r1, r2)) ∧ out.length + (odKeys whom.length out).length = whom.length)
          (fun u _ => whom.length - slLen u)
        case atStart => exact ⟨[], none, 0, _, D, rfl, Z0, HO3, HM3, HB3, H, by rw [odKeys_nil]; simp⟩
        case round =>
          obtain ⟨out, Ao, co, d, D1, rfl, HR, HO, HM, HB, HL, hlen⟩ := hrel
          obtain ⟨d, rfl⟩ : ∃ e, d = e + 1 := ⟨d - 1, by cases d with | zero => exact absurd HL.out (by simp [odLoop]) | succ d => rfl⟩
          have hsize := HM.out.size (odKeys_nodup _ _) HO.out law_int Try.underlying3
          have hl := HL.out
          rw [odLoop] at hl
          by_cases hK : odKeys whom.length out = []
          · rw [if_pos hK] at hl
            obtain ⟨rfl, rfl⟩ := (by simpa using hl : out = r1 ∧ 0 = r2)
            rw [hK, List.length_nil] at hsize
            go_wp2_with (first | (at_len; refine wpList_len_own _ rfl _ 93 rfl 3 3 Try.underlying93 _ w1.heap.size whom.length D1 rfl HO.out ?_; rw [hsize]))
            go_ret2
            exact ⟨_, rfl, Kd.R_mono (Kd.R_lower HR.out B1.out.size) (fun _ _ => trivial), B1.out.trans (HB.out.mono B1.out.size)⟩
          · rw [if_neg hK] at hl
            have hpos : 0 < (odKeys whom.length out).length := List.length_pos_iff.2 hK
            have hgt : decide ((0 : Int) < ((odKeys whom.length out).length : Int)) = true := by rw [decide_eq_true_eq]; omega
            go_wp2_with (first | (at_len; refine wpList_len_own _ rfl _ 93 rfl 3 3 Try.underlying93 _ w1.heap.size whom.length D1 rfl HO.out ?_; rw [hsize]) | (go_at_call 59; (refine (keys_calls _ _).mono ?_); rintro e w6 ⟨rfl, rfl⟩) | (go_at_call 58; (refine (sorted_calls2 w1.heap.size whom.length D1 _ _ _ HO.out HM.out (odKeys_sorted _ _) (by omega)).mono ?_); rintro e w7 ⟨A7, c7, rfl, hC7, hb7⟩; have RC7 := Aside0.mk hC7; have B7 := Aside0.mk hb7; clear hC7 hb7))
            have HO7 := Aside0.mk (owns_below HO.out B7.out)
            go_loopw [10, 42] (fun v u wr2 => ∃ (i : Nat), v = .int .i64 (-1) ∧ u = .int .i64 (i : Int) ∧ i ≤ (odKeys whom.length out).length ∧ (∀ y ∈ (odKeys whom.length out).take i, odCnt whom out y ≠ 0) ∧ Aside0 (Below w7.heap.size w7 wr2))
              (fun _ u _ => (odKeys whom.length out).length - (intOf u).toNat)
            case atStart => exact ⟨0, rfl, rfl, Nat.zero_le _, (fun y hy => by simp at hy), ⟨Below.refl _ _⟩⟩
            case round =>
              obtain ⟨i, rfl, rfl, hi, hno, HB2'⟩ := hrel
              by_cases hik : i < (odKeys whom.length out).length
              · obtain ⟨ad7, hA7, p7⟩ := at_ints (Kd.C_below RC7.out HB2'.out) i hik hik
                subst hA7
                have hzm : (odKeys whom.length out)[i] ∈ odKeys whom.length out := List.getElem_mem hik
                have htk : (odKeys whom.length out).take (i + 1) = (odKeys whom.length out).take i ++ [(odKeys whom.length out)[i]] := List.take_succ_eq_append_getElem hik
                generalize hzz : (odKeys whom.length out)[i] = z at *
                obtain ⟨hz1, hz2⟩ := odKeys_mem.1 hzm
                have hkey : keyOf Try.prog 3 (.int .i64 z) = some (.int .i64 z) := keyOf_int_mk Try.underlying3 (WalkArith.wf_i64 (by omega))
                have hown2 := owns_below HO7.out HB2'.out
                by_cases hc0 : odCnt whom out z = 0
                · have hfind : (odKeys whom.length out).find? (fun z => odCnt whom out z == 0) = some z := by
                    rw [List.find?_eq_some_iff_getElem]
                    refine ⟨by simpa using hc0, i, hik, hzz, fun j hj => ?_⟩
                    have : (odKeys whom.length out)[j] ∈ (odKeys whom.length out).take i := by rw [List.mem_take_iff_getElem]; exact ⟨j, by omega, rfl⟩
                    simpa using hno _ this
                  rw [hfind] at hl
                  have hl2 : odLoop whom whom.length d (out ++ [z]) = some (r1, r2) := hl
                  have BX := Aside0.mk ((HB.out.trans (B7.out.mono HB.out.size)).trans (HB2'.out.mono (Nat.le_trans HB.out.size B7.out.size)))
                  have RX := Aside0.mk (Kd.R_below (Kd.R_below HR.out B7.out) HB2'.out)
                  have hkl := odKeys_len whom.length out z hzm
                  have hol : out.length ≤ 10000 := by omega
                  have HD1 := Aside0.mk (HM.out.del z)
                  go_wp2_with (first | (at_lookup; refine wpList_lookup_own_int _ rfl _ _ 93 rfl 3 3 .i64 law_int Try.underlying93 Try.underlying3 (zero_int _) w1.heap.size whom.length D1 rfl hown2 _ _ rfl hkey ?_; intro cc hat hwc; obtain rfl : (0 : Int) = cc := by rw [HM.out.2 z hzm, hc0] at hat; simpa using hat) | (at_delete; refine wpList_delete_own _ rfl _ _ 93 3 rfl 3 law_int Try.underlying93 _ w1.heap.size whom.length D1 rfl hown2 _ (.int .i64 z) rfl hkey ?_; intro w8 hown8 hturn8) | (at_range; refine wpList_range_own _ rfl _ 93 rfl 3 3 law_int Try.underlying93 _ w1.heap.size whom.length _ rfl hown8 ?_; intro w9 hrg9 hg9 hs9))
                  try go_frame
                  have B9 := Aside0.mk ((BX.out.grown hturn8.grown BX.out.size (fun j hj => by cases hj; exact Nat.le_refl _)).grown hg9 (by have := BX.out.size; have := hturn8.grown.size; omega) (fun j hj => by cases hj))
                  have R9 := Aside0.mk (Kd.R_mono (Kd.R_grown (Kd.R_bound (Kd.R_grown RX.out hturn8.grown (fun k hk e => hk (by injection e)))) hg9 (fun k _ => by simp)) (ok' := fun k => k ≠ w1.heap.size ∧ k ≠ w8.heap.size) (fun k hk => ⟨hk.1, by have := hk.2.2.1; omega⟩))
                  have M9 : Aside0 (OdMap (D1.del (.int .i64 z)) (odKeys whom.length (out ++ [z])) (fun y => if Maps.has (D1.del (.int .i64 z)) (.int .i64 y) = true then odCnt whom out y else odCnt whom (out ++ [z]) y)) := by
                    refine ⟨HD1.out.congr (fun y => by rw [odKeys_snoc]) (fun y hy => ?_)⟩
                    rw [odKeys_snoc] at hy
                    rw [if_pos (by rw [HD1.out.1 y]; simpa using hy)]
                  have G9 := Aside0.mk hrg9
                  have hw8 : w1.heap.size ≤ w8.heap.size := Nat.le_trans BX.out.size hturn8.grown.size
                  clear hrg9 hown8 hturn8 hg9 hs9
                  go_loopw [13] (fun _ wr3 => ∃ (left : Lit → Bool) (cnt : Nat) (D3 : DataW Unit), Aside0 (wr3.ranges Try.prog 3 (plainElem Try.prog 3) w1.heap.size w8.heap.size whom.length D3 left cnt) ∧ Aside0 (OdMap D3 (odKeys whom.length (out ++ [z])) (fun y => if left (.int .i64 y) = true then odCnt whom out y else odCnt whom (out ++ [z]) y)) ∧ Aside0 (Below w1.heap.size w1 wr3) ∧ Aside0 (Kd.R (Kd.int .i64) 3 wr3 w1.heap.size (fun k => k ≠ w1.heap.size ∧ k ≠ w8.heap.size) (.slice Ao out.length co) out))
                    (fun _ wr3 => wr3.rangeLeft w1.heap.size w8.heap.size)
                  case atStart => exact ⟨_, _, _, G9, M9, B9, R9⟩
                  case round =>
                    obtain ⟨left, cnt, D3, HG3, HM3, HB3', HR3⟩ := hrel
                    have hg3 := HG3.out
                    go_wp2_with (first | (at_next; refine wpList_next_ranges_ii _ rfl _ rfl 3 3 .i64 .i64 law_int Try.underlying3 Try.underlying3 w1.heap.size w8.heap.size whom.length _ _ _ rfl hg3 ?_ ?_))
                    · intro _ hl0
                      have hown3 := hg3.owns
                      have hlt3 := hown3.lt
                      have M3 := Aside0.mk (HM3.out.congr (f' := odCnt whom (out ++ [z])) (fun _ => Iff.rfl) (fun y _ => by rw [if_neg (by rw [hl0]; decide)]))
                      have R3 := Aside0.mk (Kd.R_mono HR3.out (ok' := fun k => k ≠ w1.heap.size) (fun _ hk => hk.1))
                      go_wp2_with (first | (at_builtin; refine Kd.R_append (Kd.int .i64) (w0 := w1) w1.heap.size rfl (.tmp 72) (.tmp 74) 53 3 (.int .i64 0) 8 rfl Try.underlying53 info3 rfl (by decide) (by omega) (.slice Ao out.length co) out z [.int .i64 z] (fun k => k ≠ w1.heap.size) (fun _ => False) rfl (by first | (go_simp; done) | (go_simp; rfl)) ?aP (fun _ hk => hk.elim) ?aF R3.out HB3'.out HB3'.out.size ?aL ?_; (case aP => exact rfl); (case aF => exact fun k_ hk_ => by omega); (case aL => omega); intro v12 w12 ho12 hb12 hg12 hat12; obtain ⟨A12, c12, rfl⟩ := Kd.R_slice ho12; rw [List.length_append, List.length_singleton] at ho12))
                      go_roundw
                      case rel => exact ⟨out ++ [z], A12, c12, d, D3, by rw [List.length_append]; rfl, ⟨by rw [List.length_append]; exact ho12⟩, ⟨hown3.kept hg12 (fun e => R3.out.1 _ e.symm rfl)⟩, M3, ⟨hb12⟩, ⟨hl2⟩, by rw [List.length_append, List.length_singleton]; omega⟩
                      case measure => simp only [slLen]; omega
                    · intro x c w10 cnt1 hwx hwc hlx hat hrg10 hlt10 hg10 hs10 hen
                      have hxS : x ∈ odKeys whom.length (out ++ [z]) := by
                        have h1 := Maps.has_true_of_atKey hat
                        rw [HM3.out.1 x] at h1
                        simpa using h1
                      obtain ⟨hx1, hx2⟩ := odKeys_mem.1 hxS
                      have B10 := Aside0.mk (HB3'.out.grown hg10 HB3'.out.size (fun j hj => by cases hj; exact hw8))
                      have R10 := Aside0.mk (Kd.R_grown HR3.out hg10 (fun k hk e => hk.2 (by injection e)))
                      obtain ⟨A1, c1, e1, hl1, hC1⟩ := RW1.out
                      cases e1
                      obtain ⟨adx, Ai, ci, hAd, px, hci, hCi⟩ := at_rows (Kd.C_below hC1 B10.out) x (by omega) (by omega)
                      subst hAd
                      have hkx : keyOf Try.prog 3 (.int .i64 x) = some (.int .i64 x) := keyOf_int_mk Try.underlying3 hwx
                      have hxl : x.toNat < whom.length := by omega
                      have hwl : (whom.getD x.toNat []).length ≤ 1000000 := by
                        have := List.all_eq_true.1 HB2.out (whom.getD x.toNat []) (by rw [List.getD_eq_getElem?_getD, List.getElem?_eq_getElem hxl]; exact List.getElem_mem hxl)
                        simpa using this
                      have hbd := odCnt_bound whom out x
                      have hatx : D3.atKey (.int .i64 x) (.lit (.int .i64 0)) = .lit (.int .i64 (odCnt whom out x)) := by rw [HM3.out.2 x hxS]; show DataW.lit (Lit.int .i64 (if left (.int .i64 x) = true then odCnt whom out x else odCnt whom (out ++ [z]) x)) = _; rw [if_pos hlx]
                      have HI3 := Aside0.mk hg3.owns.isMap
                      cases hcon : (whom.getD x.toNat []).contains z with
                      | false =>
                        have hst := Aside0.mk (HM3.out.stay hlx hcon)
                        generalize whom.getD x.toNat [] = lx at *
                        go_wp2_with (first | (go_at_call 44; (refine (contains_C w10 Ai ci lx z hCi (by omega)).mono ?_); rintro e w11 ⟨rfl, hw11⟩; obtain rfl := hw11; rw [hcon]))
                        go_roundw
                        case rel => exact ⟨_, cnt1, D3, ⟨hrg10⟩, hst, B10, R10⟩
                        case measure => rw [hrg10.left_eq, hg3.left_eq]; exact hlt10
                      | true =>
                        have hlo := Aside0.mk (HM3.out.lower HI3.out hxS hcon)
                        generalize hlx0 : whom.getD x.toNat [] = lx at *
                        have hsub : wrap64 (odCnt whom out x - 1) = odCnt whom out x - 1 := by unfold wrap64; omega
                        have hpl : plainElem (H := Unit) Try.prog 3 (.int .i64 (odCnt whom out x - 1)) = some (.lit (.int .i64 (odCnt whom out x - 1)), []) := plainElem_int Try.underlying3 (WalkArith.wf_i64 (by omega))
                        have hhas : Maps.has D3 (.int .i64 x) = true := Maps.has_true_of_atKey hat
                        generalize hqq : odCnt whom out x = q at *
                        have hsub2 : IntKind.i64.wrap (q - 1) = q - 1 := (i64_w _).trans hsub
                        go_wp2_with (first | (go_at_call 44; (refine (contains_C w10 Ai ci lx z hCi (by omega)).mono ?_); rintro e w11 ⟨rfl, hw11⟩; obtain rfl := hw11; rw [hcon]) | (at_lookup; refine wpList_lookup_own_int _ rfl _ _ 93 rfl 3 3 .i64 law_int Try.underlying93 Try.underlying3 (zero_int _) w1.heap.size whom.length D3 rfl hrg10.owns _ _ rfl hkx ?_; intro cc hat2 hwc2; obtain rfl : q = cc := by rw [hatx] at hat2; simpa using hat2) | (at_mapUpdate; refine wpList_store_ranges rfl _ _ _ 93 rfl 3 law_int Try.underlying93 rfl hrg10 _ _ (.int .i64 x) rfl rfl hkx hhas _ [] hpl ?_; intro w13 hrg13 hturn13; go_frame))
                        go_roundw
                        case rel => exact ⟨_, cnt1, _, ⟨hrg13⟩, hlo, ⟨B10.out.grown hturn13.grown B10.out.size (fun j hj => by cases hj; exact Nat.le_refl _)⟩, ⟨Kd.R_grown R10.out hturn13.grown (fun k hk e => hk.1 (by injection e))⟩⟩
                        case measure => rw [hrg13.left_eq, hg3.left_eq]; exact hlt10
                · have hne0 : (odCnt whom out z == 0) = false := by rw [beq_eq_false_iff_ne]; exact hc0
                  go_wp2_with (first | (at_lookup; refine wpList_lookup_own_int _ rfl _ _ 93 rfl 3 3 .i64 law_int Try.underlying93 Try.underlying3 (zero_int _) w1.heap.size whom.length D1 rfl hown2 _ _ rfl hkey ?_; intro cc hat hwc; obtain rfl : odCnt whom out z = cc := by rw [HM.out.2 z hzm] at hat; simpa using hat))
                  go_roundw
                  case rel => exact ⟨i + 1, rfl, by simp, by omega, (fun y hy => by rw [htk] at hy; rcases List.mem_append.1 hy with h1 | h1; exact hno y h1; rw [List.mem_singleton.1 h1]; exact hc0), HB2'⟩
                  case measure => simp [intOf]; omega
              · obtain rfl : i = (odKeys whom.length out).length := by omega
                rw [List.take_length] at hno
                have hnone : (odKeys whom.length out).find? (fun z => odCnt whom out z == 0) = none := by
                  rw [List.find?_eq_none]
                  intro y hy
                  simpa using hno y hy
                rw [hnone] at hl
                obtain ⟨rfl, rfl⟩ := (by simpa using hl : [] = r1 ∧ 110 = r2)
                go_wp2
                go_ret2
                exact ⟨_, rfl, Kd.R_nil _ _ _ _ _, B1.out.trans (((HB.out.trans (B7.out.mono HB.out.size)).trans (HB2'.out.mono (Nat.le_trans HB.out.size B7.out.size))).mono B1.out.size)⟩
  · rw [if_neg he] at h
    obtain ⟨rfl, rfl⟩ := (by simpa using h : [] = r1 ∧ e0 = r2)
    have hne : (e0 != 0) = true := by rw [bne_iff_ne]; exact he
    go_enter Try.func30, Try.ntmps30
    go_wp2_with (first | (go_at_call 57; (refine (calls_all.calls k A0_0 c0_0 l0_0 A0_1 c0_1 l0_1 A0_2 c0_2 l0_2 a0_3 whom e0 _ (Kd.C_alloc HR0.out _) HC0.out (Kd.C_alloc HR1.out _) HC1.out (Kd.C_alloc HR2.out _) HC2.out HA.out).mono ?_); rintro e w1 ⟨v1, rfl, hS1, hb1'⟩; have B1 := Aside0.mk (((Below.refl w.heap.size w).alloc (Nat.le_refl _) (.cells #[.slice A0_0 l0_0.length c0_0, .slice A0_1 l0_1.length c0_1, .slice A0_2 l0_2.length c0_2, .int .i64 a0_3] 25)).trans (hb1'.mono (by simp))); obtain ⟨Aw, cw, rfl⟩ := Kd.R_slice (Kd.S_R hS1); clear hS1 hb1'))
    go_ret2
    exact ⟨_, rfl, Kd.R_nil _ _ _ _ _, B1.out⟩
end

end Go.Proofs.Ytkmnachdibhdhaa.S
