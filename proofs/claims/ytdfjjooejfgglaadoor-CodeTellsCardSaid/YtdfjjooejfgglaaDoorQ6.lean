/- Contracts of the functions of this seat (each: the call of the function does what the plain Lean function of the same name tells; the conditions stand in each statement). Written by a program of this session and by hand; checked by Lean. -/
import Derived.Test.YtdfjjooejfgglaaDoorQ0
import Derived.Test.YtdfjjooejfgglaaDoorQ3
namespace Go.Proofs.YtdfjjooejfgglaaDoor.Q
open Go.RowKit Go.Proofs.YtdfjjooejfgglaaDoorW.PrintWords Go.Proofs.YtdfjjooejfgglaaDoorW.PrintLast Go.Proofs.YtdfjjooejfgglaaDoorW.PrintMore
attribute [local go_sem] max2_int min2_int max_two min_two max_three min_three max_four min_four   -- for this text's walks alone
set_option linter.unusedVariables false
set_option linter.unusedSimpArgs false

/-! ### capstanref04_Name: function 38 -/
def capstanref04_Name.f (a0 : Int) : Option (ByteArray) := if a0 = 0 then (some (⟨#[110, 111, 112]⟩ : ByteArray)) else (if a0 = 1 then (some (⟨#[99, 111, 110, 115, 116]⟩ : ByteArray)) else (if a0 = 2 then (some (⟨#[103, 101, 116]⟩ : ByteArray)) else (if a0 = 3 then (some (⟨#[115, 101, 116]⟩ : ByteArray)) else (if a0 = 4 then (some (⟨#[108, 111, 97, 100]⟩ : ByteArray)) else (if a0 = 5 then (some (⟨#[115, 116, 111, 114, 101]⟩ : ByteArray)) else (if a0 = 6 then (some (⟨#[112, 111, 112]⟩ : ByteArray)) else (if a0 = 7 then (some (⟨#[100, 117, 112]⟩ : ByteArray)) else (if a0 = 8 then (some (⟨#[115, 119, 97, 112]⟩ : ByteArray)) else (if a0 = 9 then (some (⟨#[97, 100, 100]⟩ : ByteArray)) else (if a0 = 10 then (some (⟨#[115, 117, 98]⟩ : ByteArray)) else (if a0 = 11 then (some (⟨#[109, 117, 108]⟩ : ByteArray)) else (if a0 = 12 then (some (⟨#[100, 105, 118]⟩ : ByteArray)) else (if a0 = 13 then (some (⟨#[114, 101, 109]⟩ : ByteArray)) else (if a0 = 14 then (some (⟨#[108, 101, 115, 115]⟩ : ByteArray)) else (if a0 = 15 then (some (⟨#[115, 97, 109, 101]⟩ : ByteArray)) else (if a0 = 16 then (some (⟨#[112, 97, 105, 114]⟩ : ByteArray)) else (if a0 = 17 then (some (⟨#[114, 101]⟩ : ByteArray)) else (if a0 = 18 then (some (⟨#[105, 109]⟩ : ByteArray)) else (if a0 = 19 then (some (⟨#[112, 97, 100, 100]⟩ : ByteArray)) else (if a0 = 20 then (some (⟨#[112, 109, 117, 108]⟩ : ByteArray)) else (if a0 = 21 then (some (⟨#[99, 111, 110, 106]⟩ : ByteArray)) else (if a0 = 22 then (some (⟨#[110, 101, 119]⟩ : ByteArray)) else (if a0 = 23 then (some (⟨#[97, 116]⟩ : ByteArray)) else (if a0 = 24 then (some (⟨#[112, 117, 116]⟩ : ByteArray)) else (if a0 = 25 then (some (⟨#[108, 101, 110]⟩ : ByteArray)) else (if a0 = 26 then (some (⟨#[106, 117, 109, 112]⟩ : ByteArray)) else (if a0 = 27 then (some (⟨#[122, 101, 114, 111]⟩ : ByteArray)) else (if a0 = 28 then (some (⟨#[108, 111, 111, 112]⟩ : ByteArray)) else (if a0 = 29 then (some (⟨#[97, 103, 97, 105, 110]⟩ : ByteArray)) else (if a0 = 30 then (some (⟨#[99, 97, 108, 108]⟩ : ByteArray)) else (if a0 = 31 then (some (⟨#[114, 101, 116]⟩ : ByteArray)) else (if a0 = 32 then (some (⟨#[116, 114, 97, 112]⟩ : ByteArray)) else (some (⟨#[]⟩ : ByteArray))))))))))))))))))))))))))))))))))
set_option maxHeartbeats 8000000 in
set_option maxRecDepth 100000 in
theorem capstanref04_Name.calls (a0 : Int) (r : ByteArray) (w : World) (h : capstanref04_Name.f a0 = some r) :
  Calls Tryd.prog 38 #[.int .u8 a0] w fun e w' => e = .returned (.string r) ∧ Drawn0 w w' := by
 have H : (if a0 = 0 then (some (⟨#[110, 111, 112]⟩ : ByteArray)) else (if a0 = 1 then (some (⟨#[99, 111, 110, 115, 116]⟩ : ByteArray)) else (if a0 = 2 then (some (⟨#[103, 101, 116]⟩ : ByteArray)) else (if a0 = 3 then (some (⟨#[115, 101, 116]⟩ : ByteArray)) else (if a0 = 4 then (some (⟨#[108, 111, 97, 100]⟩ : ByteArray)) else (if a0 = 5 then (some (⟨#[115, 116, 111, 114, 101]⟩ : ByteArray)) else (if a0 = 6 then (some (⟨#[112, 111, 112]⟩ : ByteArray)) else (if a0 = 7 then (some (⟨#[100, 117, 112]⟩ : ByteArray)) else (if a0 = 8 then (some (⟨#[115, 119, 97, 112]⟩ : ByteArray)) else (if a0 = 9 then (some (⟨#[97, 100, 100]⟩ : ByteArray)) else (if a0 = 10 then (some (⟨#[115, 117, 98]⟩ : ByteArray)) else (if a0 = 11 then (some (⟨#[109, 117, 108]⟩ : ByteArray)) else (if a0 = 12 then (some (⟨#[100, 105, 118]⟩ : ByteArray)) else (if a0 = 13 then (some (⟨#[114, 101, 109]⟩ : ByteArray)) else (if a0 = 14 then (some (⟨#[108, 101, 115, 115]⟩ : ByteArray)) else (if a0 = 15 then (some (⟨#[115, 97, 109, 101]⟩ : ByteArray)) else (if a0 = 16 then (some (⟨#[112, 97, 105, 114]⟩ : ByteArray)) else (if a0 = 17 then (some (⟨#[114, 101]⟩ : ByteArray)) else (if a0 = 18 then (some (⟨#[105, 109]⟩ : ByteArray)) else (if a0 = 19 then (some (⟨#[112, 97, 100, 100]⟩ : ByteArray)) else (if a0 = 20 then (some (⟨#[112, 109, 117, 108]⟩ : ByteArray)) else (if a0 = 21 then (some (⟨#[99, 111, 110, 106]⟩ : ByteArray)) else (if a0 = 22 then (some (⟨#[110, 101, 119]⟩ : ByteArray)) else (if a0 = 23 then (some (⟨#[97, 116]⟩ : ByteArray)) else (if a0 = 24 then (some (⟨#[112, 117, 116]⟩ : ByteArray)) else (if a0 = 25 then (some (⟨#[108, 101, 110]⟩ : ByteArray)) else (if a0 = 26 then (some (⟨#[106, 117, 109, 112]⟩ : ByteArray)) else (if a0 = 27 then (some (⟨#[122, 101, 114, 111]⟩ : ByteArray)) else (if a0 = 28 then (some (⟨#[108, 111, 111, 112]⟩ : ByteArray)) else (if a0 = 29 then (some (⟨#[97, 103, 97, 105, 110]⟩ : ByteArray)) else (if a0 = 30 then (some (⟨#[99, 97, 108, 108]⟩ : ByteArray)) else (if a0 = 31 then (some (⟨#[114, 101, 116]⟩ : ByteArray)) else (if a0 = 32 then (some (⟨#[116, 114, 97, 112]⟩ : ByteArray)) else (some (⟨#[]⟩ : ByteArray))))))))))))))))))))))))))))))))))) = some r := h
 clear h
 by_cases c2 : a0 = 0
 ·
  rw [if_pos c2] at H
  have c2b0 : (a0 == 0) = true := beq_iff_eq.mpr c2
  have c2b1 : (a0 != 0) = false := bne_eq_false_iff_eq.mpr c2
  clear c2
  obtain rfl := Option.some.inj H
  go_enter Tryd.func38, Tryd.ntmps38
  go_wp2
  go_ret
  exact ⟨by first | rfl | (simp; done) | (simp [*]; done), by repeat (first | exact Drawn0.refl _ | apply Drawn0.step)⟩
 ·
  rw [if_neg c2] at H
  have c2b0 : (a0 == 0) = false := beq_eq_false_iff_ne.mpr c2
  have c2b1 : (a0 != 0) = true := bne_iff_ne.mpr c2
  by_cases c3 : a0 = 1
  ·
   rw [if_pos c3] at H
   have c3b0 : (a0 == 1) = true := beq_iff_eq.mpr c3
   have c3b1 : (a0 != 1) = false := bne_eq_false_iff_eq.mpr c3
   clear c3
   obtain rfl := Option.some.inj H
   go_enter Tryd.func38, Tryd.ntmps38
   go_wp2
   go_ret
   exact ⟨by first | rfl | (simp; done) | (simp [*]; done), by repeat (first | exact Drawn0.refl _ | apply Drawn0.step)⟩
  ·
   rw [if_neg c3] at H
   have c3b0 : (a0 == 1) = false := beq_eq_false_iff_ne.mpr c3
   have c3b1 : (a0 != 1) = true := bne_iff_ne.mpr c3
   by_cases c4 : a0 = 2
   ·
    rw [if_pos c4] at H
    have c4b0 : (a0 == 2) = true := beq_iff_eq.mpr c4
    have c4b1 : (a0 != 2) = false := bne_eq_false_iff_eq.mpr c4
    clear c4
    obtain rfl := Option.some.inj H
    go_enter Tryd.func38, Tryd.ntmps38
    go_wp2
    go_ret
    exact ⟨by first | rfl | (simp; done) | (simp [*]; done), by repeat (first | exact Drawn0.refl _ | apply Drawn0.step)⟩
   ·
    rw [if_neg c4] at H
    have c4b0 : (a0 == 2) = false := beq_eq_false_iff_ne.mpr c4
    have c4b1 : (a0 != 2) = true := bne_iff_ne.mpr c4
    by_cases c5 : a0 = 3
    ·
     rw [if_pos c5] at H
     have c5b0 : (a0 == 3) = true := beq_iff_eq.mpr c5
     have c5b1 : (a0 != 3) = false := bne_eq_false_iff_eq.mpr c5
     clear c5
     obtain rfl := Option.some.inj H
     go_enter Tryd.func38, Tryd.ntmps38
     go_wp2
     go_ret
     exact ⟨by first | rfl | (simp; done) | (simp [*]; done), by repeat (first | exact Drawn0.refl _ | apply Drawn0.step)⟩
    ·
     rw [if_neg c5] at H
     have c5b0 : (a0 == 3) = false := beq_eq_false_iff_ne.mpr c5
     have c5b1 : (a0 != 3) = true := bne_iff_ne.mpr c5
     by_cases c6 : a0 = 4
     ·
      rw [if_pos c6] at H
      have c6b0 : (a0 == 4) = true := beq_iff_eq.mpr c6
      have c6b1 : (a0 != 4) = false := bne_eq_false_iff_eq.mpr c6
      clear c6
      obtain rfl := Option.some.inj H
      go_enter Tryd.func38, Tryd.ntmps38
      go_wp2
      go_ret
      exact ⟨by first | rfl | (simp; done) | (simp [*]; done), by repeat (first | exact Drawn0.refl _ | apply Drawn0.step)⟩
     ·
      rw [if_neg c6] at H
      have c6b0 : (a0 == 4) = false := beq_eq_false_iff_ne.mpr c6
      have c6b1 : (a0 != 4) = true := bne_iff_ne.mpr c6
      by_cases c7 : a0 = 5
      ·
       rw [if_pos c7] at H
       have c7b0 : (a0 == 5) = true := beq_iff_eq.mpr c7
       have c7b1 : (a0 != 5) = false := bne_eq_false_iff_eq.mpr c7
       clear c7
       obtain rfl := Option.some.inj H
       go_enter Tryd.func38, Tryd.ntmps38
       go_wp2
       go_ret
       exact ⟨by first | rfl | (simp; done) | (simp [*]; done), by repeat (first | exact Drawn0.refl _ | apply Drawn0.step)⟩
      ·
       rw [if_neg c7] at H
       have c7b0 : (a0 == 5) = false := beq_eq_false_iff_ne.mpr c7
       have c7b1 : (a0 != 5) = true := bne_iff_ne.mpr c7
       by_cases c8 : a0 = 6
       ·
        rw [if_pos c8] at H
        have c8b0 : (a0 == 6) = true := beq_iff_eq.mpr c8
        have c8b1 : (a0 != 6) = false := bne_eq_false_iff_eq.mpr c8
        clear c8
        obtain rfl := Option.some.inj H
        go_enter Tryd.func38, Tryd.ntmps38
        go_wp2
        go_ret
        exact ⟨by first | rfl | (simp; done) | (simp [*]; done), by repeat (first | exact Drawn0.refl _ | apply Drawn0.step)⟩
       ·
        rw [if_neg c8] at H
        have c8b0 : (a0 == 6) = false := beq_eq_false_iff_ne.mpr c8
        have c8b1 : (a0 != 6) = true := bne_iff_ne.mpr c8
        by_cases c9 : a0 = 7
        ·
         rw [if_pos c9] at H
         have c9b0 : (a0 == 7) = true := beq_iff_eq.mpr c9
         have c9b1 : (a0 != 7) = false := bne_eq_false_iff_eq.mpr c9
         clear c9
         obtain rfl := Option.some.inj H
         go_enter Tryd.func38, Tryd.ntmps38
         go_wp2
         go_ret
         exact ⟨by first | rfl | (simp; done) | (simp [*]; done), by repeat (first | exact Drawn0.refl _ | apply Drawn0.step)⟩
        ·
         rw [if_neg c9] at H
         have c9b0 : (a0 == 7) = false := beq_eq_false_iff_ne.mpr c9
         have c9b1 : (a0 != 7) = true := bne_iff_ne.mpr c9
         by_cases c10 : a0 = 8
         ·
          rw [if_pos c10] at H
          have c10b0 : (a0 == 8) = true := beq_iff_eq.mpr c10
          have c10b1 : (a0 != 8) = false := bne_eq_false_iff_eq.mpr c10
          clear c10
          obtain rfl := Option.some.inj H
          go_enter Tryd.func38, Tryd.ntmps38
          go_wp2
          go_ret
          exact ⟨by first | rfl | (simp; done) | (simp [*]; done), by repeat (first | exact Drawn0.refl _ | apply Drawn0.step)⟩
         ·
          rw [if_neg c10] at H
          have c10b0 : (a0 == 8) = false := beq_eq_false_iff_ne.mpr c10
          have c10b1 : (a0 != 8) = true := bne_iff_ne.mpr c10
          by_cases c11 : a0 = 9
          ·
           rw [if_pos c11] at H
           have c11b0 : (a0 == 9) = true := beq_iff_eq.mpr c11
           have c11b1 : (a0 != 9) = false := bne_eq_false_iff_eq.mpr c11
           clear c11
           obtain rfl := Option.some.inj H
           go_enter Tryd.func38, Tryd.ntmps38
           go_wp2
           go_ret
           exact ⟨by first | rfl | (simp; done) | (simp [*]; done), by repeat (first | exact Drawn0.refl _ | apply Drawn0.step)⟩
          ·
           rw [if_neg c11] at H
           have c11b0 : (a0 == 9) = false := beq_eq_false_iff_ne.mpr c11
           have c11b1 : (a0 != 9) = true := bne_iff_ne.mpr c11
           by_cases c12 : a0 = 10
           ·
            rw [if_pos c12] at H
            have c12b0 : (a0 == 10) = true := beq_iff_eq.mpr c12
            have c12b1 : (a0 != 10) = false := bne_eq_false_iff_eq.mpr c12
            clear c12
            obtain rfl := Option.some.inj H
            go_enter Tryd.func38, Tryd.ntmps38
            go_wp2
            go_ret
            exact ⟨by first | rfl | (simp; done) | (simp [*]; done), by repeat (first | exact Drawn0.refl _ | apply Drawn0.step)⟩
           ·
            rw [if_neg c12] at H
            have c12b0 : (a0 == 10) = false := beq_eq_false_iff_ne.mpr c12
            have c12b1 : (a0 != 10) = true := bne_iff_ne.mpr c12
            by_cases c13 : a0 = 11
            ·
             rw [if_pos c13] at H
             have c13b0 : (a0 == 11) = true := beq_iff_eq.mpr c13
             have c13b1 : (a0 != 11) = false := bne_eq_false_iff_eq.mpr c13
             clear c13
             obtain rfl := Option.some.inj H
             go_enter Tryd.func38, Tryd.ntmps38
             go_wp2
             go_ret
             exact ⟨by first | rfl | (simp; done) | (simp [*]; done), by repeat (first | exact Drawn0.refl _ | apply Drawn0.step)⟩
            ·
             rw [if_neg c13] at H
             have c13b0 : (a0 == 11) = false := beq_eq_false_iff_ne.mpr c13
             have c13b1 : (a0 != 11) = true := bne_iff_ne.mpr c13
             by_cases c14 : a0 = 12
             ·
              rw [if_pos c14] at H
              have c14b0 : (a0 == 12) = true := beq_iff_eq.mpr c14
              have c14b1 : (a0 != 12) = false := bne_eq_false_iff_eq.mpr c14
              clear c14
              obtain rfl := Option.some.inj H
              go_enter Tryd.func38, Tryd.ntmps38
              go_wp2
              go_ret
              exact ⟨by first | rfl | (simp; done) | (simp [*]; done), by repeat (first | exact Drawn0.refl _ | apply Drawn0.step)⟩
             ·
              rw [if_neg c14] at H
              have c14b0 : (a0 == 12) = false := beq_eq_false_iff_ne.mpr c14
              have c14b1 : (a0 != 12) = true := bne_iff_ne.mpr c14
              by_cases c15 : a0 = 13
              ·
               rw [if_pos c15] at H
               have c15b0 : (a0 == 13) = true := beq_iff_eq.mpr c15
               have c15b1 : (a0 != 13) = false := bne_eq_false_iff_eq.mpr c15
               clear c15
               obtain rfl := Option.some.inj H
               go_enter Tryd.func38, Tryd.ntmps38
               go_wp2
               go_ret
               exact ⟨by first | rfl | (simp; done) | (simp [*]; done), by repeat (first | exact Drawn0.refl _ | apply Drawn0.step)⟩
              ·
               rw [if_neg c15] at H
               have c15b0 : (a0 == 13) = false := beq_eq_false_iff_ne.mpr c15
               have c15b1 : (a0 != 13) = true := bne_iff_ne.mpr c15
               by_cases c16 : a0 = 14
               ·
                rw [if_pos c16] at H
                have c16b0 : (a0 == 14) = true := beq_iff_eq.mpr c16
                have c16b1 : (a0 != 14) = false := bne_eq_false_iff_eq.mpr c16
                clear c16
                obtain rfl := Option.some.inj H
                go_enter Tryd.func38, Tryd.ntmps38
                go_wp2
                go_ret
                exact ⟨by first | rfl | (simp; done) | (simp [*]; done), by repeat (first | exact Drawn0.refl _ | apply Drawn0.step)⟩
               ·
                rw [if_neg c16] at H
                have c16b0 : (a0 == 14) = false := beq_eq_false_iff_ne.mpr c16
                have c16b1 : (a0 != 14) = true := bne_iff_ne.mpr c16
                by_cases c17 : a0 = 15
                ·
                 rw [if_pos c17] at H
                 have c17b0 : (a0 == 15) = true := beq_iff_eq.mpr c17
                 have c17b1 : (a0 != 15) = false := bne_eq_false_iff_eq.mpr c17
                 clear c17
                 obtain rfl := Option.some.inj H
                 go_enter Tryd.func38, Tryd.ntmps38
                 go_wp2
                 go_ret
                 exact ⟨by first | rfl | (simp; done) | (simp [*]; done), by repeat (first | exact Drawn0.refl _ | apply Drawn0.step)⟩
                ·
                 rw [if_neg c17] at H
                 have c17b0 : (a0 == 15) = false := beq_eq_false_iff_ne.mpr c17
                 have c17b1 : (a0 != 15) = true := bne_iff_ne.mpr c17
                 by_cases c18 : a0 = 16
                 ·
                  rw [if_pos c18] at H
                  have c18b0 : (a0 == 16) = true := beq_iff_eq.mpr c18
                  have c18b1 : (a0 != 16) = false := bne_eq_false_iff_eq.mpr c18
                  clear c18
                  obtain rfl := Option.some.inj H
                  go_enter Tryd.func38, Tryd.ntmps38
                  go_wp2
                  go_ret
                  exact ⟨by first | rfl | (simp; done) | (simp [*]; done), by repeat (first | exact Drawn0.refl _ | apply Drawn0.step)⟩
                 ·
                  rw [if_neg c18] at H
                  have c18b0 : (a0 == 16) = false := beq_eq_false_iff_ne.mpr c18
                  have c18b1 : (a0 != 16) = true := bne_iff_ne.mpr c18
                  by_cases c19 : a0 = 17
                  ·
                   rw [if_pos c19] at H
                   have c19b0 : (a0 == 17) = true := beq_iff_eq.mpr c19
                   have c19b1 : (a0 != 17) = false := bne_eq_false_iff_eq.mpr c19
                   clear c19
                   obtain rfl := Option.some.inj H
                   go_enter Tryd.func38, Tryd.ntmps38
                   go_wp2
                   go_ret
                   exact ⟨by first | rfl | (simp; done) | (simp [*]; done), by repeat (first | exact Drawn0.refl _ | apply Drawn0.step)⟩
                  ·
                   rw [if_neg c19] at H
                   have c19b0 : (a0 == 17) = false := beq_eq_false_iff_ne.mpr c19
                   have c19b1 : (a0 != 17) = true := bne_iff_ne.mpr c19
                   by_cases c20 : a0 = 18
                   ·
                    rw [if_pos c20] at H
                    have c20b0 : (a0 == 18) = true := beq_iff_eq.mpr c20
                    have c20b1 : (a0 != 18) = false := bne_eq_false_iff_eq.mpr c20
                    clear c20
                    obtain rfl := Option.some.inj H
                    go_enter Tryd.func38, Tryd.ntmps38
                    go_wp2
                    go_ret
                    exact ⟨by first | rfl | (simp; done) | (simp [*]; done), by repeat (first | exact Drawn0.refl _ | apply Drawn0.step)⟩
                   ·
                    rw [if_neg c20] at H
                    have c20b0 : (a0 == 18) = false := beq_eq_false_iff_ne.mpr c20
                    have c20b1 : (a0 != 18) = true := bne_iff_ne.mpr c20
                    by_cases c21 : a0 = 19
                    ·
                     rw [if_pos c21] at H
                     have c21b0 : (a0 == 19) = true := beq_iff_eq.mpr c21
                     have c21b1 : (a0 != 19) = false := bne_eq_false_iff_eq.mpr c21
                     clear c21
                     obtain rfl := Option.some.inj H
                     go_enter Tryd.func38, Tryd.ntmps38
                     go_wp2
                     go_ret
                     exact ⟨by first | rfl | (simp; done) | (simp [*]; done), by repeat (first | exact Drawn0.refl _ | apply Drawn0.step)⟩
                    ·
                     rw [if_neg c21] at H
                     have c21b0 : (a0 == 19) = false := beq_eq_false_iff_ne.mpr c21
                     have c21b1 : (a0 != 19) = true := bne_iff_ne.mpr c21
                     by_cases c22 : a0 = 20
                     ·
                      rw [if_pos c22] at H
                      have c22b0 : (a0 == 20) = true := beq_iff_eq.mpr c22
                      have c22b1 : (a0 != 20) = false := bne_eq_false_iff_eq.mpr c22
                      clear c22
                      obtain rfl := Option.some.inj H
                      go_enter Tryd.func38, Tryd.ntmps38
                      go_wp2
                      go_ret
                      exact ⟨by first | rfl | (simp; done) | (simp [*]; done), by repeat (first | exact Drawn0.refl _ | apply Drawn0.step)⟩
                     ·
                      rw [if_neg c22] at H
                      have c22b0 : (a0 == 20) = false := beq_eq_false_iff_ne.mpr c22
                      have c22b1 : (a0 != 20) = true := bne_iff_ne.mpr c22
                      by_cases c23 : a0 = 21
                      ·
                       rw [if_pos c23] at H
                       have c23b0 : (a0 == 21) = true := beq_iff_eq.mpr c23
                       have c23b1 : (a0 != 21) = false := bne_eq_false_iff_eq.mpr c23
                       clear c23
                       obtain rfl := Option.some.inj H
                       go_enter Tryd.func38, Tryd.ntmps38
                       go_wp2
                       go_ret
                       exact ⟨by first | rfl | (simp; done) | (simp [*]; done), by repeat (first | exact Drawn0.refl _ | apply Drawn0.step)⟩
                      ·
                       rw [if_neg c23] at H
                       have c23b0 : (a0 == 21) = false := beq_eq_false_iff_ne.mpr c23
                       have c23b1 : (a0 != 21) = true := bne_iff_ne.mpr c23
                       by_cases c24 : a0 = 22
                       ·
                        rw [if_pos c24] at H
                        have c24b0 : (a0 == 22) = true := beq_iff_eq.mpr c24
                        have c24b1 : (a0 != 22) = false := bne_eq_false_iff_eq.mpr c24
                        clear c24
                        obtain rfl := Option.some.inj H
                        go_enter Tryd.func38, Tryd.ntmps38
                        go_wp2
                        go_ret
                        exact ⟨by first | rfl | (simp; done) | (simp [*]; done), by repeat (first | exact Drawn0.refl _ | apply Drawn0.step)⟩
                       ·
                        rw [if_neg c24] at H
                        have c24b0 : (a0 == 22) = false := beq_eq_false_iff_ne.mpr c24
                        have c24b1 : (a0 != 22) = true := bne_iff_ne.mpr c24
                        by_cases c25 : a0 = 23
                        ·
                         rw [if_pos c25] at H
                         have c25b0 : (a0 == 23) = true := beq_iff_eq.mpr c25
                         have c25b1 : (a0 != 23) = false := bne_eq_false_iff_eq.mpr c25
                         clear c25
                         obtain rfl := Option.some.inj H
                         go_enter Tryd.func38, Tryd.ntmps38
                         go_wp2
                         go_ret
                         exact ⟨by first | rfl | (simp; done) | (simp [*]; done), by repeat (first | exact Drawn0.refl _ | apply Drawn0.step)⟩
                        ·
                         rw [if_neg c25] at H
                         have c25b0 : (a0 == 23) = false := beq_eq_false_iff_ne.mpr c25
                         have c25b1 : (a0 != 23) = true := bne_iff_ne.mpr c25
                         by_cases c26 : a0 = 24
                         ·
                          rw [if_pos c26] at H
                          have c26b0 : (a0 == 24) = true := beq_iff_eq.mpr c26
                          have c26b1 : (a0 != 24) = false := bne_eq_false_iff_eq.mpr c26
                          clear c26
                          obtain rfl := Option.some.inj H
                          go_enter Tryd.func38, Tryd.ntmps38
                          go_wp2
                          go_ret
                          exact ⟨by first | rfl | (simp; done) | (simp [*]; done), by repeat (first | exact Drawn0.refl _ | apply Drawn0.step)⟩
                         ·
                          rw [if_neg c26] at H
                          have c26b0 : (a0 == 24) = false := beq_eq_false_iff_ne.mpr c26
                          have c26b1 : (a0 != 24) = true := bne_iff_ne.mpr c26
                          by_cases c27 : a0 = 25
                          ·
                           rw [if_pos c27] at H
                           have c27b0 : (a0 == 25) = true := beq_iff_eq.mpr c27
                           have c27b1 : (a0 != 25) = false := bne_eq_false_iff_eq.mpr c27
                           clear c27
                           obtain rfl := Option.some.inj H
                           go_enter Tryd.func38, Tryd.ntmps38
                           go_wp2
                           go_ret
                           exact ⟨by first | rfl | (simp; done) | (simp [*]; done), by repeat (first | exact Drawn0.refl _ | apply Drawn0.step)⟩
                          ·
                           rw [if_neg c27] at H
                           have c27b0 : (a0 == 25) = false := beq_eq_false_iff_ne.mpr c27
                           have c27b1 : (a0 != 25) = true := bne_iff_ne.mpr c27
                           by_cases c28 : a0 = 26
                           ·
                            rw [if_pos c28] at H
                            have c28b0 : (a0 == 26) = true := beq_iff_eq.mpr c28
                            have c28b1 : (a0 != 26) = false := bne_eq_false_iff_eq.mpr c28
                            clear c28
                            obtain rfl := Option.some.inj H
                            go_enter Tryd.func38, Tryd.ntmps38
                            go_wp2
                            go_ret
                            exact ⟨by first | rfl | (simp; done) | (simp [*]; done), by repeat (first | exact Drawn0.refl _ | apply Drawn0.step)⟩
                           ·
                            rw [if_neg c28] at H
                            have c28b0 : (a0 == 26) = false := beq_eq_false_iff_ne.mpr c28
                            have c28b1 : (a0 != 26) = true := bne_iff_ne.mpr c28
                            by_cases c29 : a0 = 27
                            ·
                             rw [if_pos c29] at H
                             have c29b0 : (a0 == 27) = true := beq_iff_eq.mpr c29
                             have c29b1 : (a0 != 27) = false := bne_eq_false_iff_eq.mpr c29
                             clear c29
                             obtain rfl := Option.some.inj H
                             go_enter Tryd.func38, Tryd.ntmps38
                             go_wp2
                             go_ret
                             exact ⟨by first | rfl | (simp; done) | (simp [*]; done), by repeat (first | exact Drawn0.refl _ | apply Drawn0.step)⟩
                            ·
                             rw [if_neg c29] at H
                             have c29b0 : (a0 == 27) = false := beq_eq_false_iff_ne.mpr c29
                             have c29b1 : (a0 != 27) = true := bne_iff_ne.mpr c29
                             by_cases c30 : a0 = 28
                             ·
                              rw [if_pos c30] at H
                              have c30b0 : (a0 == 28) = true := beq_iff_eq.mpr c30
                              have c30b1 : (a0 != 28) = false := bne_eq_false_iff_eq.mpr c30
                              clear c30
                              obtain rfl := Option.some.inj H
                              go_enter Tryd.func38, Tryd.ntmps38
                              go_wp2
                              go_ret
                              exact ⟨by first | rfl | (simp; done) | (simp [*]; done), by repeat (first | exact Drawn0.refl _ | apply Drawn0.step)⟩
                             ·
                              rw [if_neg c30] at H
                              have c30b0 : (a0 == 28) = false := beq_eq_false_iff_ne.mpr c30
                              have c30b1 : (a0 != 28) = true := bne_iff_ne.mpr c30
                              by_cases c31 : a0 = 29
                              ·
                               rw [if_pos c31] at H
                               have c31b0 : (a0 == 29) = true := beq_iff_eq.mpr c31
                               have c31b1 : (a0 != 29) = false := bne_eq_false_iff_eq.mpr c31
                               clear c31
                               obtain rfl := Option.some.inj H
                               go_enter Tryd.func38, Tryd.ntmps38
                               go_wp2
                               go_ret
                               exact ⟨by first | rfl | (simp; done) | (simp [*]; done), by repeat (first | exact Drawn0.refl _ | apply Drawn0.step)⟩
                              ·
                               rw [if_neg c31] at H
                               have c31b0 : (a0 == 29) = false := beq_eq_false_iff_ne.mpr c31
                               have c31b1 : (a0 != 29) = true := bne_iff_ne.mpr c31
                               by_cases c32 : a0 = 30
                               ·
                                rw [if_pos c32] at H
                                have c32b0 : (a0 == 30) = true := beq_iff_eq.mpr c32
                                have c32b1 : (a0 != 30) = false := bne_eq_false_iff_eq.mpr c32
                                clear c32
                                obtain rfl := Option.some.inj H
                                go_enter Tryd.func38, Tryd.ntmps38
                                go_wp2
                                go_ret
                                exact ⟨by first | rfl | (simp; done) | (simp [*]; done), by repeat (first | exact Drawn0.refl _ | apply Drawn0.step)⟩
                               ·
                                rw [if_neg c32] at H
                                have c32b0 : (a0 == 30) = false := beq_eq_false_iff_ne.mpr c32
                                have c32b1 : (a0 != 30) = true := bne_iff_ne.mpr c32
                                by_cases c33 : a0 = 31
                                ·
                                 rw [if_pos c33] at H
                                 have c33b0 : (a0 == 31) = true := beq_iff_eq.mpr c33
                                 have c33b1 : (a0 != 31) = false := bne_eq_false_iff_eq.mpr c33
                                 clear c33
                                 obtain rfl := Option.some.inj H
                                 go_enter Tryd.func38, Tryd.ntmps38
                                 go_wp2
                                 go_ret
                                 exact ⟨by first | rfl | (simp; done) | (simp [*]; done), by repeat (first | exact Drawn0.refl _ | apply Drawn0.step)⟩
                                ·
                                 rw [if_neg c33] at H
                                 have c33b0 : (a0 == 31) = false := beq_eq_false_iff_ne.mpr c33
                                 have c33b1 : (a0 != 31) = true := bne_iff_ne.mpr c33
                                 by_cases c34 : a0 = 32
                                 ·
                                  rw [if_pos c34] at H
                                  have c34b0 : (a0 == 32) = true := beq_iff_eq.mpr c34
                                  have c34b1 : (a0 != 32) = false := bne_eq_false_iff_eq.mpr c34
                                  clear c34
                                  obtain rfl := Option.some.inj H
                                  go_enter Tryd.func38, Tryd.ntmps38
                                  go_wp2
                                  go_ret
                                  exact ⟨by first | rfl | (simp; done) | (simp [*]; done), by repeat (first | exact Drawn0.refl _ | apply Drawn0.step)⟩
                                 ·
                                  rw [if_neg c34] at H
                                  have c34b0 : (a0 == 32) = false := beq_eq_false_iff_ne.mpr c34
                                  have c34b1 : (a0 != 32) = true := bne_iff_ne.mpr c34
                                  obtain rfl := Option.some.inj H
                                  go_enter Tryd.func38, Tryd.ntmps38
                                  go_wp2
                                  go_ret
                                  exact ⟨by first | rfl | (simp; done) | (simp [*]; done), by repeat (first | exact Drawn0.refl _ | apply Drawn0.step)⟩

/-! ### capstanref05_Digits: function 39 -/
def capstanref05_Digits.f : Nat → Int → Option (ByteArray)
 | 0, _ => none
 | k + 1, a0 => (some (([(48 + ((Int.tmod a0 10) % 256)) % 256] : List Int) : List Int)).bind fun y145 => (if a0 < 10 then (some (strOfNums y145)) else ((capstanref05_Digits.f k (wrap64 (Int.tdiv a0 10))).bind fun t148 => (if t148.size + (strOfNums y145).size ≤ 9223372036854775807 then (some (t148 ++ (strOfNums y145))) else (none))))
theorem capstanref05_Digits.mono_l : ∀ k, (∀ y0, LeO (capstanref05_Digits.f k y0) (capstanref05_Digits.f (k + 1) y0))
 | 0 => fun _ r h => by simp [capstanref05_Digits.f] at h
 | k + 1 => by
  have ih0 := capstanref05_Digits.mono_l k
  ·
   intro y0
   unfold capstanref05_Digits.f
   repeat' first
   | (with_reducible exact ih0 _)
   | (with_reducible exact LeO.refl _)
   | (with_reducible exact LeO.none _)
   | (with_reducible refine LeO.ite ?_ ?_)
   | (with_reducible refine LeO.bind ?_ (fun _ => ?_))
   | exact ih0 _
   | exact LeO.none _
   | refine LeO.ite ?_ ?_
   | refine LeO.bind ?_ (fun _ => ?_)
theorem capstanref05_Digits.mono : ∀ a0 k, LeO (capstanref05_Digits.f k a0) (capstanref05_Digits.f (k + 1) a0) := by
 intro a0 k
 have ih0 := capstanref05_Digits.mono_l k
 exact ih0 a0
set_option maxHeartbeats 8000000 in
set_option maxRecDepth 100000 in
theorem capstanref05_Digits.calls (k : Nat) : ∀ (a0 : Int) (r : ByteArray) (w : World) (h : capstanref05_Digits.f k a0 = some r),
  Calls Tryd.prog 39 #[.int .i64 a0] w fun e w' => e = .returned (.string r) ∧ Below w.heap.size w w' := by
 induction k using Nat.strongRecOn with
 | _ k ih =>
 intro a0 r w h
 cases k with
 | zero => exact absurd h (by simp [capstanref05_Digits.f])
 | succ k =>
 simp only [capstanref05_Digits.f] at h
 have HB := Aside0.mk (Below.refl w.heap.size w)
 have H : ((some (([(48 + ((Int.tmod a0 10) % 256)) % 256] : List Int) : List Int)).bind fun y145 => (if a0 < 10 then (some (strOfNums y145)) else ((capstanref05_Digits.f k (wrap64 (Int.tdiv a0 10))).bind fun t148 => (if t148.size + (strOfNums y145).size ≤ 9223372036854775807 then (some (t148 ++ (strOfNums y145))) else (none))))) = some r := h
 clear h
 obtain ⟨y145, hy145⟩ : ∃ y_ : List Int, y_ = (([(48 + ((Int.tmod a0 10) % 256)) % 256] : List Int)) := ⟨_, rfl⟩
 replace H : (if a0 < 10 then (some (strOfNums y145)) else ((capstanref05_Digits.f k (wrap64 (Int.tdiv a0 10))).bind fun t148 => (if t148.size + (strOfNums y145).size ≤ 9223372036854775807 then (some (t148 ++ (strOfNums y145))) else (none)))) = some r := by first | (rw [hy145]; with_reducible exact H) | (have H2_ := (Option.bind_some _ _).symm.trans H; rw [hy145]; with_reducible exact H2_) | (have H2_ := (Option.bind_some _ _).symm.trans H; with_reducible exact H2_) | with_reducible exact H | (rw [hy145]; exact H) | exact H
 have Ny145 := Aside0.mk hy145
 clear hy145
 by_cases c2 : a0 < 10
 ·
  rw [if_pos c2] at H
  have c2b0 : decide (a0 < 10) = true := decide_eq_true c2
  clear c2
  obtain rfl := Option.some.inj H
  go_enter Tryd.func39, Tryd.ntmps39
  go_wp2_with (first | ((with_reducible refine gate_dst (N := 8) rfl ?_); refine Kd.R_lit (Kd.int .u8) _ 5 ?hg (N := 8) ?hd (xs := ([(48 + ((Int.tmod a0 10) % 256)) % 256] : List Int)) (inner := [.int .u8 ((48 + ((Int.tmod a0 10) % 256)) % 256)]) (ok := fun _ => True) (okp := fun _ => True) ?hr ?hp (fun _ hk => hk) trivial (Below.refl _ _) (Nat.le_refl _) (by simp) ?_; (case hd => rfl); (case hg => rfl); (case hr => first | (go_simp; done) | (go_simp; rfl)); (case hp => exact (Reps.one (show Kd.M (Kd.int .u8) _ _ _ ((48 + ((Int.tmod a0 10) % 256)) % 256) [.int .u8 ((48 + ((Int.tmod a0 10) % 256)) % 256)] from rfl) (Reps.none _ _))); intro v146 w3 ho4 hb hg_ hnew_; clear hg_ hnew_; (first | rw [← Ny145.out] at ho4 | (simp only [Int.reduceToNat] at ho4; rw [← Ny145.out] at ho4)); have n0_ := Aside0.mk (Kd.R_lower ho4 (below_size (by repeat (first | (with_reducible first | exact HB.out | apply below_alloc | apply pw_below_drewN | apply below_drew1) | exact HB.out | exact ⟨HB.out.os, HB.out.tape, HB.out.output, HB.out.size, HB.out.block⟩)))); have n1_ := Aside0.mk (below_step (by repeat (first | (with_reducible first | exact HB.out | apply below_alloc | apply pw_below_drewN | apply below_drew1) | exact HB.out | exact ⟨HB.out.os, HB.out.tape, HB.out.output, HB.out.size, HB.out.block⟩)) hb); clear HB; have HO147 := n0_; have HB := n1_; clear n0_ n1_; clear hb ho4; have hcv5 := own_string (P := Tryd.prog) Tryd.underlying22 Tryd.underlying5 Tryd.underlying9 (Kd.own_of_R HO147.out); (try have hcv6 := fun n_ : Nat => own_string (P := Tryd.prog) Tryd.underlying22 Tryd.underlying5 Tryd.underlying9 (Kd.own_of_R (Kd.R_drewN HO147.out n_)))))
  go_ret
  exact ⟨by first | rfl | (simp [errW_none, errW_some] <;> rfl) | (simp [*, errW_none, errW_some] <;> rfl), by repeat (first | (with_reducible first | exact HB.out | apply below_alloc | apply pw_below_drewN | apply below_drew1) | exact HB.out | exact ⟨HB.out.os, HB.out.tape, HB.out.output, HB.out.size, HB.out.block⟩)⟩
 ·
  rw [if_neg c2] at H
  have c2b0 : decide (a0 < 10) = false := decide_eq_false c2
  clear c2
  replace H := Option.bind_eq_some_iff.mp H
  obtain ⟨t148, A70, H⟩ := H
  replace H : (if t148.size + (strOfNums y145).size ≤ 9223372036854775807 then (some (t148 ++ (strOfNums y145))) else (none)) = some r := H
  have A7 := Aside0.mk A70
  clear A70
  by_cases c8 : t148.size + (strOfNums y145).size ≤ 9223372036854775807
  ·
   rw [if_pos c8] at H
   have c8b0 := eq_true c8
   have c8b1 : decide (t148.size + (strOfNums y145).size ≤ 9223372036854775807) = true := decide_eq_true c8
   try have c8b2 : (9223372036854775807 < t148.size + (strOfNums y145).size) = False := eq_false (Nat.not_lt.2 c8)
   obtain rfl := Option.some.inj H
   go_enter Tryd.func39, Tryd.ntmps39
   go_wp2_with (first | ((with_reducible refine gate_dst (N := 8) rfl ?_); refine Kd.R_lit (Kd.int .u8) _ 5 ?hg (N := 8) ?hd (xs := ([(48 + ((Int.tmod a0 10) % 256)) % 256] : List Int)) (inner := [.int .u8 ((48 + ((Int.tmod a0 10) % 256)) % 256)]) (ok := fun _ => True) (okp := fun _ => True) ?hr ?hp (fun _ hk => hk) trivial (Below.refl _ _) (Nat.le_refl _) (by simp) ?_; (case hd => rfl); (case hg => rfl); (case hr => first | (go_simp; done) | (go_simp; rfl)); (case hp => exact (Reps.one (show Kd.M (Kd.int .u8) _ _ _ ((48 + ((Int.tmod a0 10) % 256)) % 256) [.int .u8 ((48 + ((Int.tmod a0 10) % 256)) % 256)] from rfl) (Reps.none _ _))); intro v146 w9 ho10 hb hg_ hnew_; clear hg_ hnew_; (first | rw [← Ny145.out] at ho10 | (simp only [Int.reduceToNat] at ho10; rw [← Ny145.out] at ho10)); have n0_ := Aside0.mk (Kd.R_lower ho10 (below_size (by repeat (first | (with_reducible first | exact HB.out | apply below_alloc | apply pw_below_drewN | apply below_drew1) | exact HB.out | exact ⟨HB.out.os, HB.out.tape, HB.out.output, HB.out.size, HB.out.block⟩)))); have n1_ := Aside0.mk (below_step (by repeat (first | (with_reducible first | exact HB.out | apply below_alloc | apply pw_below_drewN | apply below_drew1) | exact HB.out | exact ⟨HB.out.os, HB.out.tape, HB.out.output, HB.out.size, HB.out.block⟩)) hb); clear HB; have HO147 := n0_; have HB := n1_; clear n0_ n1_; clear hb ho10; have hcv11 := own_string (P := Tryd.prog) Tryd.underlying22 Tryd.underlying5 Tryd.underlying9 (Kd.own_of_R HO147.out); (try have hcv12 := fun n_ : Nat => own_string (P := Tryd.prog) Tryd.underlying22 Tryd.underlying5 Tryd.underlying9 (Kd.own_of_R (Kd.R_drewN HO147.out n_)))) | ((with_reducible refine gate_callee (f := 39) rfl ?_); refine goesL_ (some 15) rfl rfl Tryd.func39 (by kernel_rfl) rfl #[.int .i64 (wrap64 (Int.tdiv a0 10))] rfl (by (try simp only [List.map_toArray, List.map_cons, List.map_nil]); first | done | rfl | (simp only [List.length_drop, List.length_take]; rfl)) ?_; (with_reducible refine (ih k (by omega) (wrap64 (Int.tdiv a0 10)) t148 _ A7.out).mono ?_); rintro e w13 ⟨rfl, hb⟩; refine ⟨_, rfl, ?_⟩; have n0_ := Aside0.mk (Kd.R_below (by (with_reducible repeat (first | apply Kd.R_alloc | apply Kd.R_drewN | apply Kd.R_drew)); first | exact HO147.out | exact Kd.R_mono (HO147.out) (fun _ h_ => h_.2)) hb); have n1_ := Aside0.mk (below_step (by repeat (first | (with_reducible first | exact HB.out | apply below_alloc | apply pw_below_drewN | apply below_drew1) | exact HB.out | exact ⟨HB.out.os, HB.out.tape, HB.out.output, HB.out.size, HB.out.block⟩)) hb); clear HO147; clear HB; have HO147 := n0_; have HB := n1_; clear n0_ n1_; (try clear hb); (try clear hb2); (try clear hk); (try clear hi)))
   go_ret
   exact ⟨by first | rfl | (simp [errW_none, errW_some] <;> rfl) | (simp [*, errW_none, errW_some] <;> rfl), by repeat (first | (with_reducible first | exact HB.out | apply below_alloc | apply pw_below_drewN | apply below_drew1) | exact HB.out | exact ⟨HB.out.os, HB.out.tape, HB.out.output, HB.out.size, HB.out.block⟩)⟩
  ·
   rw [if_neg c8] at H
   exact absurd H (by simp)

/-! ### capstanref05_Text: function 15 -/
def capstanref05_Text.l0 : Nat → List (S42) → ByteArray → Int → Option (ByteArray × Int)
 | 0, _, _, _ => none
 | k + 1, x0, x4, x5 => if x5 < (x0.length : Int) then (if 0 ≤ x5 then ((capstanref04_Name.f ((rd_T42 x0 x5).f0)).bind fun t151 => (if x4.size + t151.size ≤ 9223372036854775807 then ((capstanref05_Wide.f k ((rd_T42 x0 x5).f0)).bind fun t153 => (if t153 = true then (if (x4 ++ t151).size + 1 ≤ 9223372036854775807 then ((capstanref05_Digits.f k ((rd_T42 x0 x5).f1)).bind fun t155 => (if ((x4 ++ t151) ++ (⟨#[32]⟩ : ByteArray)).size + t155.size ≤ 9223372036854775807 then (if (((x4 ++ t151) ++ (⟨#[32]⟩ : ByteArray)) ++ t155).size + 1 ≤ 9223372036854775807 then (capstanref05_Text.l0 k x0 ((((x4 ++ t151) ++ (⟨#[32]⟩ : ByteArray)) ++ t155) ++ (⟨#[10]⟩ : ByteArray)) (wrap64 (x5 + 1))) else (none)) else (none))) else (none)) else (if (x4 ++ t151).size + 1 ≤ 9223372036854775807 then (capstanref05_Text.l0 k x0 ((x4 ++ t151) ++ (⟨#[10]⟩ : ByteArray)) (wrap64 (x5 + 1))) else (none)))) else (none))) else (none)) else (some (x4, 0))
def capstanref05_Text.f (k : Nat) (l0 : List (S42)) : Option (ByteArray × Int) := (capstanref05_May.f k l0).bind fun t149 => (if t149 = true then (capstanref05_Text.l0 k l0 (⟨#[]⟩ : ByteArray) 0) else (some ((⟨#[]⟩ : ByteArray), 40)))
theorem capstanref05_Text.mono_l : ∀ k, (∀ y0 y1 y2, LeO (capstanref05_Text.l0 k y0 y1 y2) (capstanref05_Text.l0 (k + 1) y0 y1 y2))
 | 0 => fun _ _ _ r h => by simp [capstanref05_Text.l0] at h
 | k + 1 => by
  have ih0 := capstanref05_Text.mono_l k
  ·
   intro y0 y1 y2
   unfold capstanref05_Text.l0
   repeat' first
   | (with_reducible exact ih0 _ _ _)
   | (with_reducible exact capstanref05_Digits.mono _ _)
   | (with_reducible exact capstanref05_May.mono _ _)
   | (with_reducible exact capstanref05_Wide.mono _ _)
   | (with_reducible exact LeO.refl _)
   | (with_reducible exact LeO.none _)
   | (with_reducible refine LeO.ite ?_ ?_)
   | (with_reducible refine LeO.bind ?_ (fun _ => ?_))
   | exact ih0 _ _ _
   | exact capstanref05_Digits.mono _ _
   | exact capstanref05_May.mono _ _
   | exact capstanref05_Wide.mono _ _
   | exact LeO.none _
   | refine LeO.ite ?_ ?_
   | refine LeO.bind ?_ (fun _ => ?_)
theorem capstanref05_Text.mono : ∀ a0 k, LeO (capstanref05_Text.f k a0) (capstanref05_Text.f (k + 1) a0) := by
 intro a0 k
 have ih0 := capstanref05_Text.mono_l k
 unfold capstanref05_Text.f
 repeat' first
   | (with_reducible exact ih0 _ _ _)
   | (with_reducible exact capstanref05_Digits.mono _ _)
   | (with_reducible exact capstanref05_May.mono _ _)
   | (with_reducible exact capstanref05_Wide.mono _ _)
   | (with_reducible exact LeO.refl _)
   | (with_reducible exact LeO.none _)
   | (with_reducible refine LeO.ite ?_ ?_)
   | (with_reducible refine LeO.bind ?_ (fun _ => ?_))
   | exact ih0 _ _ _
   | exact capstanref05_Digits.mono _ _
   | exact capstanref05_May.mono _ _
   | exact capstanref05_Wide.mono _ _
   | exact LeO.none _
   | refine LeO.ite ?_ ?_
   | refine LeO.bind ?_ (fun _ => ?_)
set_option maxHeartbeats 8000000 in
set_option maxRecDepth 100000 in
theorem capstanref05_Text.calls (k : Nat) (A0 : Option Addr) (c0 : Nat) (l0 : List (S42)) (r1 : ByteArray) (r2 : Int) (w : World) (hr0 : Kd.C k42 w A0 l0.length l0) (hc0 : l0.length ≤ c0) (h : capstanref05_Text.f k l0 = some (r1, r2)) :
  Calls Tryd.prog 15 #[.slice A0 l0.length c0] w fun e w' => e = .returned (.tuple #[.string r1, .int .i64 r2]) ∧ Below w.heap.size w w' := by
 have HR0 := Aside0.mk hr0
 have HC0 := Aside0.mk hc0
 clear hr0 hc0
 have HB := Aside0.mk (Below.refl w.heap.size w)
 have H : ((capstanref05_May.f k l0).bind fun t149 => (if t149 = true then (capstanref05_Text.l0 k l0 (⟨#[]⟩ : ByteArray) 0) else (some ((⟨#[]⟩ : ByteArray), 40)))) = some (r1, r2) := h
 clear h
 replace H := Option.bind_eq_some_iff.mp H
 obtain ⟨t149, A20, H⟩ := H
 replace H : (if t149 = true then (capstanref05_Text.l0 k l0 (⟨#[]⟩ : ByteArray) 0) else (some ((⟨#[]⟩ : ByteArray), 40))) = some (r1, r2) := H
 have A2 := Aside0.mk A20
 clear A20
 by_cases c3 : t149 = true
 ·
  subst c3
  have H1 : (capstanref05_Text.l0 k l0 (⟨#[]⟩ : ByteArray) 0) = some (r1, r2) := by rw [if_pos rfl] at H; exact H
  clear H
  have H := H1
  clear H1
  have H' := Aside0.mk H
  clear H
  go_enter Tryd.func15, Tryd.ntmps15
  go_wp2_with (first | ((with_reducible refine gate_callee (f := 17) rfl ?_); refine goesL_ (some 7) rfl rfl Tryd.func17 (by kernel_rfl) rfl #[.slice A0 l0.length c0] rfl (by (try simp only [List.map_toArray, List.map_cons, List.map_nil]); first | done | rfl | (simp only [List.length_drop, List.length_take]; rfl)) ?_; (with_reducible refine (capstanref05_May.calls k _ _ l0 true _ ?side1 ?side2 A2.out).mono ?_); (case side1 => repeat (first | exact HR0.out | (with_reducible refine Kd.C_alloc ?_ _) | (with_reducible refine Kd.C_drewN ?_ _) | (with_reducible refine Kd.C_drew ?_))); (case side2 => exact HC0.out); rintro e w4 ⟨rfl, hb⟩; refine ⟨_, rfl, ?_⟩; have n0_ := Aside0.mk (below_step (by repeat (first | (with_reducible first | exact HB.out | apply below_alloc | apply pw_below_drewN | apply below_drew1) | exact HB.out | exact ⟨HB.out.os, HB.out.tape, HB.out.output, HB.out.size, HB.out.block⟩)) hb); clear HB; have HB := n0_; clear n0_; (try clear hb); (try clear hb2); (try clear hk); (try clear hi)))
  go_loopg [4, 5] k (fun kq v4 v5 w' => ∃ (x4_1 : ByteArray) (x5_1 : Int), v4 = .string x4_1 ∧ v5 = .int .i64 x5_1 ∧ Aside0 (capstanref05_Text.l0 kq l0 x4_1 x5_1 = some (r1, r2)) ∧ Aside0 (kq ≤ k) ∧ Aside0 (Below w.heap.size w w'))
  case atStart => exact ⟨((⟨#[]⟩ : ByteArray)), (0), (by first | rfl | (simp; done) | (simp [*]; done)), (by first | rfl | (simp; done) | (simp [*]; done)), H', ⟨Nat.le_refl _⟩, ⟨by repeat (first | (with_reducible first | exact HB.out | apply below_alloc | apply pw_below_drewN | apply below_drew1) | exact HB.out | exact ⟨HB.out.os, HB.out.tape, HB.out.output, HB.out.size, HB.out.block⟩)⟩⟩
  case round =>
   clear H'
   try clear c1
   try clear p2
   try clear c3
   obtain ⟨x4_1, x5_1, rfl, rfl, HA, HK1, HB⟩ := hrel
   cases gk with
   | zero => exact absurd HA.out (by simp [capstanref05_Text.l0])
   | succ k1 =>
    have H := HA.out
    clear HA
    simp only [capstanref05_Text.l0] at H
    by_cases c5 : x5_1 < (l0.length : Int)
    ·
     rw [if_pos c5] at H
     have c5b0 : decide (x5_1 < (l0.length : Int)) = true := decide_eq_true c5
     clear c5
     by_cases c6 : 0 ≤ x5_1
     ·
      rw [if_pos c6] at H
      have c6b0 : decide (0 ≤ x5_1) = true := decide_eq_true c6
      clear c6
      replace H := Option.bind_eq_some_iff.mp H
      obtain ⟨t151, A70, H⟩ := H
      replace H : (if x4_1.size + t151.size ≤ 9223372036854775807 then ((capstanref05_Wide.f k1 ((rd_T42 l0 x5_1).f0)).bind fun t153 => (if t153 = true then (if (x4_1 ++ t151).size + 1 ≤ 9223372036854775807 then ((capstanref05_Digits.f k1 ((rd_T42 l0 x5_1).f1)).bind fun t155 => (if ((x4_1 ++ t151) ++ (⟨#[32]⟩ : ByteArray)).size + t155.size ≤ 9223372036854775807 then (if (((x4_1 ++ t151) ++ (⟨#[32]⟩ : ByteArray)) ++ t155).size + 1 ≤ 9223372036854775807 then (capstanref05_Text.l0 k1 l0 ((((x4_1 ++ t151) ++ (⟨#[32]⟩ : ByteArray)) ++ t155) ++ (⟨#[10]⟩ : ByteArray)) (wrap64 (x5_1 + 1))) else (none)) else (none))) else (none)) else (if (x4_1 ++ t151).size + 1 ≤ 9223372036854775807 then (capstanref05_Text.l0 k1 l0 ((x4_1 ++ t151) ++ (⟨#[10]⟩ : ByteArray)) (wrap64 (x5_1 + 1))) else (none)))) else (none)) = some (r1, r2) := H
      have A7 := Aside0.mk A70
      clear A70
      by_cases c8 : x4_1.size + t151.size ≤ 9223372036854775807
      ·
       rw [if_pos c8] at H
       have c8b0 := eq_true c8
       have c8b1 : decide (x4_1.size + t151.size ≤ 9223372036854775807) = true := decide_eq_true c8
       try have c8b2 : (9223372036854775807 < x4_1.size + t151.size) = False := eq_false (Nat.not_lt.2 c8)
       replace H := Option.bind_eq_some_iff.mp H
       obtain ⟨t153, A90, H⟩ := H
       replace H : (if t153 = true then (if (x4_1 ++ t151).size + 1 ≤ 9223372036854775807 then ((capstanref05_Digits.f k1 ((rd_T42 l0 x5_1).f1)).bind fun t155 => (if ((x4_1 ++ t151) ++ (⟨#[32]⟩ : ByteArray)).size + t155.size ≤ 9223372036854775807 then (if (((x4_1 ++ t151) ++ (⟨#[32]⟩ : ByteArray)) ++ t155).size + 1 ≤ 9223372036854775807 then (capstanref05_Text.l0 k1 l0 ((((x4_1 ++ t151) ++ (⟨#[32]⟩ : ByteArray)) ++ t155) ++ (⟨#[10]⟩ : ByteArray)) (wrap64 (x5_1 + 1))) else (none)) else (none))) else (none)) else (if (x4_1 ++ t151).size + 1 ≤ 9223372036854775807 then (capstanref05_Text.l0 k1 l0 ((x4_1 ++ t151) ++ (⟨#[10]⟩ : ByteArray)) (wrap64 (x5_1 + 1))) else (none))) = some (r1, r2) := H
       have A9 := Aside0.mk A90
       clear A90
       by_cases c10 : t153 = true
       ·
        subst c10
        have H1 : (if (x4_1 ++ t151).size + 1 ≤ 9223372036854775807 then ((capstanref05_Digits.f k1 ((rd_T42 l0 x5_1).f1)).bind fun t155 => (if ((x4_1 ++ t151) ++ (⟨#[32]⟩ : ByteArray)).size + t155.size ≤ 9223372036854775807 then (if (((x4_1 ++ t151) ++ (⟨#[32]⟩ : ByteArray)) ++ t155).size + 1 ≤ 9223372036854775807 then (capstanref05_Text.l0 k1 l0 ((((x4_1 ++ t151) ++ (⟨#[32]⟩ : ByteArray)) ++ t155) ++ (⟨#[10]⟩ : ByteArray)) (wrap64 (x5_1 + 1))) else (none)) else (none))) else (none)) = some (r1, r2) := by rw [if_pos rfl] at H; exact H
        clear H
        have H := H1
        clear H1
        by_cases c11 : (x4_1 ++ t151).size + 1 ≤ 9223372036854775807
        ·
         rw [if_pos c11] at H
         have c11b0 := eq_true c11
         have c11b1 : decide ((x4_1 ++ t151).size + 1 ≤ 9223372036854775807) = true := decide_eq_true c11
         try have c11b2 : (9223372036854775807 < (x4_1 ++ t151).size + 1) = False := eq_false (Nat.not_lt.2 c11)
         try (have c11b3 := c11b2; simp only [ByteArray.size_append, show (⟨#[32]⟩ : ByteArray).size = 1 from rfl, show (⟨#[10]⟩ : ByteArray).size = 1 from rfl] at c11b3)
         replace H := Option.bind_eq_some_iff.mp H
         obtain ⟨t155, A120, H⟩ := H
         replace H : (if ((x4_1 ++ t151) ++ (⟨#[32]⟩ : ByteArray)).size + t155.size ≤ 9223372036854775807 then (if (((x4_1 ++ t151) ++ (⟨#[32]⟩ : ByteArray)) ++ t155).size + 1 ≤ 9223372036854775807 then (capstanref05_Text.l0 k1 l0 ((((x4_1 ++ t151) ++ (⟨#[32]⟩ : ByteArray)) ++ t155) ++ (⟨#[10]⟩ : ByteArray)) (wrap64 (x5_1 + 1))) else (none)) else (none)) = some (r1, r2) := H
         have A12 := Aside0.mk A120
         clear A120
         by_cases c13 : ((x4_1 ++ t151) ++ (⟨#[32]⟩ : ByteArray)).size + t155.size ≤ 9223372036854775807
         ·
          rw [if_pos c13] at H
          have c13b0 := eq_true c13
          have c13b1 : decide (((x4_1 ++ t151) ++ (⟨#[32]⟩ : ByteArray)).size + t155.size ≤ 9223372036854775807) = true := decide_eq_true c13
          try have c13b2 : (9223372036854775807 < ((x4_1 ++ t151) ++ (⟨#[32]⟩ : ByteArray)).size + t155.size) = False := eq_false (Nat.not_lt.2 c13)
          try (have c13b3 := c13b2; simp only [ByteArray.size_append, show (⟨#[32]⟩ : ByteArray).size = 1 from rfl, show (⟨#[10]⟩ : ByteArray).size = 1 from rfl] at c13b3)
          by_cases c14 : (((x4_1 ++ t151) ++ (⟨#[32]⟩ : ByteArray)) ++ t155).size + 1 ≤ 9223372036854775807
          ·
           rw [if_pos c14] at H
           have c14b0 := eq_true c14
           have c14b1 : decide ((((x4_1 ++ t151) ++ (⟨#[32]⟩ : ByteArray)) ++ t155).size + 1 ≤ 9223372036854775807) = true := decide_eq_true c14
           try have c14b2 : (9223372036854775807 < (((x4_1 ++ t151) ++ (⟨#[32]⟩ : ByteArray)) ++ t155).size + 1) = False := eq_false (Nat.not_lt.2 c14)
           try (have c14b3 := c14b2; simp only [ByteArray.size_append, show (⟨#[32]⟩ : ByteArray).size = 1 from rfl, show (⟨#[10]⟩ : ByteArray).size = 1 from rfl] at c14b3)
           have H' := Aside0.mk H
           clear H
           have p150 : 0 ≤ (x5_1 : Int) := of_decide_eq_true (by first | (with_reducible assumption) | assumption)
           have q150 : x5_1 < (l0.length : Int) := of_decide_eq_true (by first | (with_reducible assumption) | assumption)
           obtain ⟨ad150, e150, hx150_0, hx150_1, hx150_2⟩ := at_T42 HR0.out x5_1 p150 q150
           cases e150
           replace hx150_0 := (HB.out.cell (World.block_lt_of_cell? w _ hx150_0)).trans hx150_0
           replace hx150_1 := (HB.out.cell (World.block_lt_of_cell? w _ hx150_1)).trans hx150_1
           replace hx150_2 := (HB.out.cell (World.block_lt_of_cell? w _ hx150_2)).trans hx150_2
           replace p150 := eq_true p150
           replace q150 := eq_true q150
           go_wp2_with (first | ((with_reducible refine gate_callee (f := 38) rfl ?_); refine goesL_ (some 21) rfl rfl Tryd.func38 (by kernel_rfl) rfl #[.int .u8 ((rd_T42 l0 x5_1).f0)] rfl (by (try simp only [List.map_toArray, List.map_cons, List.map_nil]); first | done | rfl | (simp only [List.length_drop, List.length_take]; rfl)) ?_; (with_reducible refine (capstanref04_Name.calls ((rd_T42 l0 x5_1).f0) t151 _ A7.out).mono ?_); rintro e w' ⟨rfl, ⟨nd, rfl⟩⟩; refine ⟨_, rfl, ?_⟩; have p152 : 0 ≤ (x5_1 : Int) := of_decide_eq_true (by first | (with_reducible assumption) | assumption); have q152 : x5_1 < (l0.length : Int) := of_decide_eq_true (by first | (with_reducible assumption) | assumption); obtain ⟨ad152, e152, hx152_0, hx152_1, hx152_2⟩ := at_T42 HR0.out x5_1 p152 q152; obtain rfl : ad150 = ad152 := (by injection e152); replace hx152_0 := (HB.out.cell (World.block_lt_of_cell? w _ hx152_0)).trans hx152_0; replace hx152_1 := (HB.out.cell (World.block_lt_of_cell? w _ hx152_1)).trans hx152_1; replace hx152_2 := (HB.out.cell (World.block_lt_of_cell? w _ hx152_2)).trans hx152_2; replace p152 := eq_true p152; replace q152 := eq_true q152) | ((with_reducible refine gate_callee (f := 31) rfl ?_); refine goesL_ (some 28) rfl rfl Tryd.func31 (by kernel_rfl) rfl #[.int .u8 ((rd_T42 l0 x5_1).f0)] rfl (by (try simp only [List.map_toArray, List.map_cons, List.map_nil]); first | done | rfl | (simp only [List.length_drop, List.length_take]; rfl)) ?_; (with_reducible refine (capstanref05_Wide.calls k1 ((rd_T42 l0 x5_1).f0) true _ A9.out).mono ?_); rintro e w' ⟨rfl, ⟨nd, rfl⟩⟩; refine ⟨_, rfl, ?_⟩; have p154 : 0 ≤ (x5_1 : Int) := of_decide_eq_true (by first | (with_reducible assumption) | assumption); have q154 : x5_1 < (l0.length : Int) := of_decide_eq_true (by first | (with_reducible assumption) | assumption); obtain ⟨ad154, e154, hx154_0, hx154_1, hx154_2⟩ := at_T42 HR0.out x5_1 p154 q154; obtain rfl : ad150 = ad154 := (by injection e154); replace hx154_0 := (HB.out.cell (World.block_lt_of_cell? w _ hx154_0)).trans hx154_0; replace hx154_1 := (HB.out.cell (World.block_lt_of_cell? w _ hx154_1)).trans hx154_1; replace hx154_2 := (HB.out.cell (World.block_lt_of_cell? w _ hx154_2)).trans hx154_2; replace p154 := eq_true p154; replace q154 := eq_true q154) | ((with_reducible refine gate_callee (f := 39) rfl ?_); refine goesL_ (some 36) rfl rfl Tryd.func39 (by kernel_rfl) rfl #[.int .i64 ((rd_T42 l0 x5_1).f1)] rfl (by (try simp only [List.map_toArray, List.map_cons, List.map_nil]); first | done | rfl | (simp only [List.length_drop, List.length_take]; rfl)) ?_; (with_reducible refine (capstanref05_Digits.calls k1 ((rd_T42 l0 x5_1).f1) t155 _ A12.out).mono ?_); rintro e w15 ⟨rfl, hb⟩; refine ⟨_, rfl, ?_⟩; have n0_ := Aside0.mk (below_step (by repeat (first | (with_reducible first | exact HB.out | apply below_alloc | apply pw_below_drewN | apply below_drew1) | exact HB.out | exact ⟨HB.out.os, HB.out.tape, HB.out.output, HB.out.size, HB.out.block⟩)) hb); clear HB; have HB := n0_; clear n0_; (try clear hb); (try clear hb2); (try clear hk); (try clear hi)))
           go_roundg k1
           case measure => have := HK1.out; omega
           case rel => exact ⟨((((x4_1 ++ t151) ++ (⟨#[32]⟩ : ByteArray)) ++ t155) ++ (⟨#[10]⟩ : ByteArray)), (wrap64 (x5_1 + 1)), (by first | rfl | (simp; done) | (simp [*]; done)), (by first | rfl | (simp; done) | (simp [*]; done)), H', ⟨by have := HK1.out; omega⟩, ⟨by repeat (first | (with_reducible first | exact HB.out | apply below_alloc | apply pw_below_drewN | apply below_drew1) | exact HB.out | exact ⟨HB.out.os, HB.out.tape, HB.out.output, HB.out.size, HB.out.block⟩)⟩⟩
          ·
           rw [if_neg c14] at H
           exact absurd H (by simp)
         ·
          rw [if_neg c13] at H
          exact absurd H (by simp)
        ·
         rw [if_neg c11] at H
         exact absurd H (by simp)
       ·
        replace c10 := Bool.eq_false_iff.mpr c10
        subst c10
        have H1 : (if (x4_1 ++ t151).size + 1 ≤ 9223372036854775807 then (capstanref05_Text.l0 k1 l0 ((x4_1 ++ t151) ++ (⟨#[10]⟩ : ByteArray)) (wrap64 (x5_1 + 1))) else (none)) = some (r1, r2) := by rw [if_neg (show ¬ (false = true) by decide)] at H; exact H
        clear H
        have H := H1
        clear H1
        by_cases c16 : (x4_1 ++ t151).size + 1 ≤ 9223372036854775807
        ·
         rw [if_pos c16] at H
         have c16b0 := eq_true c16
         have c16b1 : decide ((x4_1 ++ t151).size + 1 ≤ 9223372036854775807) = true := decide_eq_true c16
         try have c16b2 : (9223372036854775807 < (x4_1 ++ t151).size + 1) = False := eq_false (Nat.not_lt.2 c16)
         try (have c16b3 := c16b2; simp only [ByteArray.size_append, show (⟨#[32]⟩ : ByteArray).size = 1 from rfl, show (⟨#[10]⟩ : ByteArray).size = 1 from rfl] at c16b3)
         have H' := Aside0.mk H
         clear H
         have p150 : 0 ≤ (x5_1 : Int) := of_decide_eq_true (by first | (with_reducible assumption) | assumption)
         have q150 : x5_1 < (l0.length : Int) := of_decide_eq_true (by first | (with_reducible assumption) | assumption)
         obtain ⟨ad150, e150, hx150_0, hx150_1, hx150_2⟩ := at_T42 HR0.out x5_1 p150 q150
         cases e150
         replace hx150_0 := (HB.out.cell (World.block_lt_of_cell? w _ hx150_0)).trans hx150_0
         replace hx150_1 := (HB.out.cell (World.block_lt_of_cell? w _ hx150_1)).trans hx150_1
         replace hx150_2 := (HB.out.cell (World.block_lt_of_cell? w _ hx150_2)).trans hx150_2
         replace p150 := eq_true p150
         replace q150 := eq_true q150
         go_wp2_with (first | ((with_reducible refine gate_callee (f := 38) rfl ?_); refine goesL_ (some 21) rfl rfl Tryd.func38 (by kernel_rfl) rfl #[.int .u8 ((rd_T42 l0 x5_1).f0)] rfl (by (try simp only [List.map_toArray, List.map_cons, List.map_nil]); first | done | rfl | (simp only [List.length_drop, List.length_take]; rfl)) ?_; (with_reducible refine (capstanref04_Name.calls ((rd_T42 l0 x5_1).f0) t151 _ A7.out).mono ?_); rintro e w' ⟨rfl, ⟨nd, rfl⟩⟩; refine ⟨_, rfl, ?_⟩; have p152 : 0 ≤ (x5_1 : Int) := of_decide_eq_true (by first | (with_reducible assumption) | assumption); have q152 : x5_1 < (l0.length : Int) := of_decide_eq_true (by first | (with_reducible assumption) | assumption); obtain ⟨ad152, e152, hx152_0, hx152_1, hx152_2⟩ := at_T42 HR0.out x5_1 p152 q152; obtain rfl : ad150 = ad152 := (by injection e152); replace hx152_0 := (HB.out.cell (World.block_lt_of_cell? w _ hx152_0)).trans hx152_0; replace hx152_1 := (HB.out.cell (World.block_lt_of_cell? w _ hx152_1)).trans hx152_1; replace hx152_2 := (HB.out.cell (World.block_lt_of_cell? w _ hx152_2)).trans hx152_2; replace p152 := eq_true p152; replace q152 := eq_true q152) | ((with_reducible refine gate_callee (f := 31) rfl ?_); refine goesL_ (some 28) rfl rfl Tryd.func31 (by kernel_rfl) rfl #[.int .u8 ((rd_T42 l0 x5_1).f0)] rfl (by (try simp only [List.map_toArray, List.map_cons, List.map_nil]); first | done | rfl | (simp only [List.length_drop, List.length_take]; rfl)) ?_; (with_reducible refine (capstanref05_Wide.calls k1 ((rd_T42 l0 x5_1).f0) false _ A9.out).mono ?_); rintro e w' ⟨rfl, ⟨nd, rfl⟩⟩; refine ⟨_, rfl, ?_⟩))
         go_roundg k1
         case measure => have := HK1.out; omega
         case rel => exact ⟨((x4_1 ++ t151) ++ (⟨#[10]⟩ : ByteArray)), (wrap64 (x5_1 + 1)), (by first | rfl | (simp; done) | (simp [*]; done)), (by first | rfl | (simp; done) | (simp [*]; done)), H', ⟨by have := HK1.out; omega⟩, ⟨by repeat (first | (with_reducible first | exact HB.out | apply below_alloc | apply pw_below_drewN | apply below_drew1) | exact HB.out | exact ⟨HB.out.os, HB.out.tape, HB.out.output, HB.out.size, HB.out.block⟩)⟩⟩
        ·
         rw [if_neg c16] at H
         exact absurd H (by simp)
      ·
       rw [if_neg c8] at H
       exact absurd H (by simp)
     ·
      rw [if_neg c6] at H
      exact absurd H (by simp)
    ·
     rw [if_neg c5] at H
     have c5b0 : decide (x5_1 < (l0.length : Int)) = false := decide_eq_false c5
     clear c5
     simp only [Option.some.injEq, Prod.mk.injEq] at H
     obtain ⟨rfl, rfl⟩ := H
     go_wp2
     go_ret2
     exact ⟨by first | rfl | (simp [errW_none, errW_some] <;> rfl) | (simp [*, errW_none, errW_some] <;> rfl), by repeat (first | (with_reducible first | exact HB.out | apply below_alloc | apply pw_below_drewN | apply below_drew1) | exact HB.out | exact ⟨HB.out.os, HB.out.tape, HB.out.output, HB.out.size, HB.out.block⟩)⟩
 ·
  replace c3 := Bool.eq_false_iff.mpr c3
  subst c3
  have H1 : (some ((⟨#[]⟩ : ByteArray), 40)) = some (r1, r2) := by rw [if_neg (show ¬ (false = true) by decide)] at H; exact H
  clear H
  have H := H1
  clear H1
  simp only [Option.some.injEq, Prod.mk.injEq] at H
  obtain ⟨rfl, rfl⟩ := H
  go_enter Tryd.func15, Tryd.ntmps15
  go_wp2_with (first | ((with_reducible refine gate_callee (f := 17) rfl ?_); refine goesL_ (some 7) rfl rfl Tryd.func17 (by kernel_rfl) rfl #[.slice A0 l0.length c0] rfl (by (try simp only [List.map_toArray, List.map_cons, List.map_nil]); first | done | rfl | (simp only [List.length_drop, List.length_take]; rfl)) ?_; (with_reducible refine (capstanref05_May.calls k _ _ l0 false _ ?side1 ?side2 A2.out).mono ?_); (case side1 => repeat (first | exact HR0.out | (with_reducible refine Kd.C_alloc ?_ _) | (with_reducible refine Kd.C_drewN ?_ _) | (with_reducible refine Kd.C_drew ?_))); (case side2 => exact HC0.out); rintro e w17 ⟨rfl, hb⟩; refine ⟨_, rfl, ?_⟩; have n0_ := Aside0.mk (below_step (by repeat (first | (with_reducible first | exact HB.out | apply below_alloc | apply pw_below_drewN | apply below_drew1) | exact HB.out | exact ⟨HB.out.os, HB.out.tape, HB.out.output, HB.out.size, HB.out.block⟩)) hb); clear HB; have HB := n0_; clear n0_; (try clear hb); (try clear hb2); (try clear hk); (try clear hi)))
  go_ret2
  exact ⟨by first | rfl | (simp [errW_none, errW_some] <;> rfl) | (simp [*, errW_none, errW_some] <;> rfl), by repeat (first | (with_reducible first | exact HB.out | apply below_alloc | apply pw_below_drewN | apply below_drew1) | exact HB.out | exact ⟨HB.out.os, HB.out.tape, HB.out.output, HB.out.size, HB.out.block⟩)⟩

end Go.Proofs.YtdfjjooejfgglaaDoor.Q
