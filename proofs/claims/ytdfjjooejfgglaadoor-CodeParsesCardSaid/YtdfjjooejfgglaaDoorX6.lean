/- Contracts of the functions of this seat (each: the call of the function does what the plain Lean function of the same name tells; the conditions stand in each statement). Written by a program of this session and by hand; checked by Lean. -/
import Derived.Test.YtdfjjooejfgglaaDoorX0
namespace Go.Proofs.YtdfjjooejfgglaaDoor.X
open Go.RowKit Go.Proofs.YtdfjjooejfgglaaDoorW.PrintWords Go.Proofs.YtdfjjooejfgglaaDoorW.PrintLast Go.Proofs.YtdfjjooejfgglaaDoorW.PrintMore
attribute [local go_sem] max2_int min2_int max_two min_two max_three min_three max_four min_four   -- for this text's walks alone
set_option linter.unusedVariables false
set_option linter.unusedSimpArgs false

/-! ### capstanref04_Name: function 38 -/
def capstanref04_Name.f (a0 : Int) : Option (ByteArray) := if a0 = 0 then (some (⟨#[110, 111, 112]⟩ : ByteArray)) else (if a0 = 1 then (some (⟨#[99, 111, 110, 115, 116]⟩ : ByteArray)) else (if a0 = 2 then (some (⟨#[103, 101, 116]⟩ : ByteArray)) else (if a0 = 3 then (some (⟨#[115, 101, 116]⟩ : ByteArray)) else (if a0 = 4 then (some (⟨#[108, 111, 97, 100]⟩ : ByteArray)) else (if a0 = 5 then (some (⟨#[115, 116, 111, 114, 101]⟩ : ByteArray)) else (if a0 = 6 then (some (⟨#[112, 111, 112]⟩ : ByteArray)) else (if a0 = 7 then (some (⟨#[100, 117, 112]⟩ : ByteArray)) else (if a0 = 8 then (some (⟨#[115, 119, 97, 112]⟩ : ByteArray)) else (if a0 = 9 then (some (⟨#[97, 100, 100]⟩ : ByteArray)) else (if a0 = 10 then (some (⟨#[115, 117, 98]⟩ : ByteArray)) else (if a0 = 11 then (some (⟨#[109, 117, 108]⟩ : ByteArray)) else (if a0 = 12 then (some (⟨#[100, 105, 118]⟩ : ByteArray)) else (if a0 = 13 then (some (⟨#[114, 101, 109]⟩ : ByteArray)) else (if a0 = 14 then (some (⟨#[108, 101, 115, 115]⟩ : ByteArray)) else (if a0 = 15 then (some (⟨#[115, 97, 109, 101]⟩ : ByteArray)) else (if a0 = 16 then (some (⟨#[112, 97, 105, 114]⟩ : ByteArray)) else (if a0 = 17 then (some (⟨#[114, 101]⟩ : ByteArray)) else (if a0 = 18 then (some (⟨#[105, 109]⟩ : ByteArray)) else (if a0 = 19 then (some (⟨#[112, 97, 100, 100]⟩ : ByteArray)) else (if a0 = 20 then (some (⟨#[112, 109, 117, 108]⟩ : ByteArray)) else (if a0 = 21 then (some (⟨#[99, 111, 110, 106]⟩ : ByteArray)) else (if a0 = 22 then (some (⟨#[110, 101, 119]⟩ : ByteArray)) else (if a0 = 23 then (some (⟨#[97, 116]⟩ : ByteArray)) else (if a0 = 24 then (some (⟨#[112, 117, 116]⟩ : ByteArray)) else (if a0 = 25 then (some (⟨#[108, 101, 110]⟩ : ByteArray)) else (if a0 = 26 then (some (⟨#[106, 117, 109, 112]⟩ : ByteArray)) else (if a0 = 27 then (some (⟨#[122, 101, 114, 111]⟩ : ByteArray)) else (if a0 = 28 then (some (⟨#[108, 111, 111, 112]⟩ : ByteArray)) else (if a0 = 29 then (some (⟨#[97, 103, 97, 105, 110]⟩ : ByteArray)) else (if a0 = 30 then (some (⟨#[99, 97, 108, 108]⟩ : ByteArray)) else (if a0 = 31 then (some (⟨#[114, 101, 116]⟩ : ByteArray)) else (if a0 = 32 then (some (⟨#[116, 114, 97, 112]⟩ : ByteArray)) else (some (⟨#[]⟩ : ByteArray))))))))))))))))))))))))))))))))))
set_option maxHeartbeats 8000000 in
set_option maxRecDepth 100000 in
theorem capstanref04_Name.calls (a0 : Int) (r : ByteArray) (w : World) (h : capstanref04_Name.f a0 = some r) :
  Calls Tryd.prog 38 #[.int .u8 a0] w fun e w' => e = .returned (.string r) ∧ Drawn0 w w' := by
 have H : (if a0 = 0 then (some (⟨#[110, 111, 112]⟩ : ByteArray)) else (if a0 = 1 then (some (⟨#[99, 111, 110, 115, 116]⟩ : ByteArray)) else (if a0 = 2 then (some (⟨#[103, 101, 116]⟩ : ByteArray)) else (if a0 = 3 then (some (⟨#[115, 101, 116]⟩ : ByteArray)) else (if a0 = 4 then (some (⟨#[108, 111, 97, 100]⟩ : ByteArray)) else (if a0 = 5 then (some (⟨#[115, 116, 111, 114, 101]⟩ : ByteArray)) else (if a0 = 6 then (some (⟨#[112, 111, 112]⟩ : ByteArray)) else (if a0 = 7 then (some (⟨#[100, 117, 112]⟩ : ByteArray)) else (if a0 = 8 then (some (⟨#[115, 119, 97, 112]⟩ : ByteArray)) else (if a0 = 9 then (some (⟨#[97, 100, 100]⟩ : ByteArray)) else (if a0 = 10 then (some (⟨#[115, 117, 98]⟩ : ByteArray)) else (if a0 = 11 then (some (⟨#[109, 117, 108]⟩ : ByteArray)) else (if a0 = 12 then (some (⟨#[100, 105, 118]⟩ : ByteArray)) else (if a0 = 13 then (some (⟨#[114, 101, 109]⟩ : ByteArray)) else (if a0 = 14 then (some (⟨#[108, 101, 115, 115]⟩ : ByteArray)) else (if a0 = 15 then (some (⟨#[115, 97, 109, 101]⟩ : ByteArray)) else (if a0 = 16 then (some (⟨#[112, 97, 105, 114]⟩ : ByteArray)) else (if a0 = 17 then (some (⟨#[114, 101]⟩ : ByteArray)) else (if a0 = 18 then (some (⟨#[105, 109]⟩ : ByteArray)) else (if a0 = 19 then (some (⟨#[112, 97, 100, 100]⟩ : ByteArray)) else (if a0 = 20 then (some (⟨#[112, 109, 117, 108]⟩ : ByteArray)) else (if a0 = 21 then (some (⟨#[99, 111, 110, 106]⟩ : ByteArray)) else (if a0 = 22 then (some (⟨#[110, 101, 119]⟩ : ByteArray)) else (if a0 = 23 then (some (⟨#[97, 116]⟩ : ByteArray)) else (if a0 = 24 then (some (⟨#[112, 117, 116]⟩ : ByteArray)) else (if a0 = 25 then (some (⟨#[108, 101, 110]⟩ : ByteArray)) else (if a0 = 26 then (some (⟨#[106, 117, 109, 112]⟩ : ByteArray)) else (if a0 = 27 then (some (⟨#[122, 101, 114, 111]⟩ : ByteArray)) else (if a0 = 28 then (some (⟨#[108, 111, 111, 112]⟩ : ByteArray)) else (if a0 = 29 then (some (⟨#[97, 103, 97, 105, 110]⟩ : ByteArray)) else (if a0 = 30 then (some (⟨#[99, 97, 108, 108]⟩ : ByteArray)) else (if a0 = 31 then (some (⟨#[114, 101, 116]⟩ : ByteArray)) else (if a0 = 32 then (some (⟨#[116, 114, 97, 112]⟩ : ByteArray)) else (some (⟨#[]⟩ : ByteArray))))))))))))))))))))))))))))))))))) = some r := h
 clear h
 by_cases c2 : a0 = 0
 ·
  rw [if_pos c2] at H
  have c2b0 : (a0 == 0) = true := beq_iff_eq.mpr c2
  have c2b1 : (a0 != 0) = false := bne_eq_false_iff_eq.mpr c2
  clear c2
  obtain rfl := Option.some.inj H
  go_enter Tryd.func38, Tryd.ntmps38
  go_wp2
  go_ret
  exact ⟨by first | rfl | (simp; done) | (simp [*]; done), by repeat (first | exact Drawn0.refl _ | apply Drawn0.step)⟩
 ·
  rw [if_neg c2] at H
  have c2b0 : (a0 == 0) = false := beq_eq_false_iff_ne.mpr c2
  have c2b1 : (a0 != 0) = true := bne_iff_ne.mpr c2
  by_cases c3 : a0 = 1
  ·
   rw [if_pos c3] at H
   have c3b0 : (a0 == 1) = true := beq_iff_eq.mpr c3
   have c3b1 : (a0 != 1) = false := bne_eq_false_iff_eq.mpr c3
   clear c3
   obtain rfl := Option.some.inj H
   go_enter Tryd.func38, Tryd.ntmps38
   go_wp2
   go_ret
   exact ⟨by first | rfl | (simp; done) | (simp [*]; done), by repeat (first | exact Drawn0.refl _ | apply Drawn0.step)⟩
  ·
   rw [if_neg c3] at H
   have c3b0 : (a0 == 1) = false := beq_eq_false_iff_ne.mpr c3
   have c3b1 : (a0 != 1) = true := bne_iff_ne.mpr c3
   by_cases c4 : a0 = 2
   ·
    rw [if_pos c4] at H
    have c4b0 : (a0 == 2) = true := beq_iff_eq.mpr c4
    have c4b1 : (a0 != 2) = false := bne_eq_false_iff_eq.mpr c4
    clear c4
    obtain rfl := Option.some.inj H
    go_enter Tryd.func38, Tryd.ntmps38
    go_wp2
    go_ret
    exact ⟨by first | rfl | (simp; done) | (simp [*]; done), by repeat (first | exact Drawn0.refl _ | apply Drawn0.step)⟩
   ·
    rw [if_neg c4] at H
    have c4b0 : (a0 == 2) = false := beq_eq_false_iff_ne.mpr c4
    have c4b1 : (a0 != 2) = true := bne_iff_ne.mpr c4
    by_cases c5 : a0 = 3
    ·
     rw [if_pos c5] at H
     have c5b0 : (a0 == 3) = true := beq_iff_eq.mpr c5
     have c5b1 : (a0 != 3) = false := bne_eq_false_iff_eq.mpr c5
     clear c5
     obtain rfl := Option.some.inj H
     go_enter Tryd.func38, Tryd.ntmps38
     go_wp2
     go_ret
     exact ⟨by first | rfl | (simp; done) | (simp [*]; done), by repeat (first | exact Drawn0.refl _ | apply Drawn0.step)⟩
    ·
     rw [if_neg c5] at H
     have c5b0 : (a0 == 3) = false := beq_eq_false_iff_ne.mpr c5
     have c5b1 : (a0 != 3) = true := bne_iff_ne.mpr c5
     by_cases c6 : a0 = 4
     ·
      rw [if_pos c6] at H
      have c6b0 : (a0 == 4) = true := beq_iff_eq.mpr c6
      have c6b1 : (a0 != 4) = false := bne_eq_false_iff_eq.mpr c6
      clear c6
      obtain rfl := Option.some.inj H
      go_enter Tryd.func38, Tryd.ntmps38
      go_wp2
      go_ret
      exact ⟨by first | rfl | (simp; done) | (simp [*]; done), by repeat (first | exact Drawn0.refl _ | apply Drawn0.step)⟩
     ·
      rw [if_neg c6] at H
      have c6b0 : (a0 == 4) = false := beq_eq_false_iff_ne.mpr c6
      have c6b1 : (a0 != 4) = true := bne_iff_ne.mpr c6
      by_cases c7 : a0 = 5
      ·
       rw [if_pos c7] at H
       have c7b0 : (a0 == 5) = true := beq_iff_eq.mpr c7
       have c7b1 : (a0 != 5) = false := bne_eq_false_iff_eq.mpr c7
       clear c7
       obtain rfl := Option.some.inj H
       go_enter Tryd.func38, Tryd.ntmps38
       go_wp2
       go_ret
       exact ⟨by first | rfl | (simp; done) | (simp [*]; done), by repeat (first | exact Drawn0.refl _ | apply Drawn0.step)⟩
      ·
       rw [if_neg c7] at H
       have c7b0 : (a0 == 5) = false := beq_eq_false_iff_ne.mpr c7
       have c7b1 : (a0 != 5) = true := bne_iff_ne.mpr c7
       by_cases c8 : a0 = 6
       ·
        rw [if_pos c8] at H
        have c8b0 : (a0 == 6) = true := beq_iff_eq.mpr c8
        have c8b1 : (a0 != 6) = false := bne_eq_false_iff_eq.mpr c8
        clear c8
        obtain rfl := Option.some.inj H
        go_enter Tryd.func38, Tryd.ntmps38
        go_wp2
        go_ret
        exact ⟨by first | rfl | (simp; done) | (simp [*]; done), by repeat (first | exact Drawn0.refl _ | apply Drawn0.step)⟩
       ·
        rw [if_neg c8] at H
        have c8b0 : (a0 == 6) = false := beq_eq_false_iff_ne.mpr c8
        have c8b1 : (a0 != 6) = true := bne_iff_ne.mpr c8
        by_cases c9 : a0 = 7
        ·
         rw [if_pos c9] at H
         have c9b0 : (a0 == 7) = true := beq_iff_eq.mpr c9
         have c9b1 : (a0 != 7) = false := bne_eq_false_iff_eq.mpr c9
         clear c9
         obtain rfl := Option.some.inj H
         go_enter Tryd.func38, Tryd.ntmps38
         go_wp2
         go_ret
         exact ⟨by first | rfl | (simp; done) | (simp [*]; done), by repeat (first | exact Drawn0.refl _ | apply Drawn0.step)⟩
        ·
         rw [if_neg c9] at H
         have c9b0 : (a0 == 7) = false := beq_eq_false_iff_ne.mpr c9
         have c9b1 : (a0 != 7) = true := bne_iff_ne.mpr c9
         by_cases c10 : a0 = 8
         ·
          rw [if_pos c10] at H
          have c10b0 : (a0 == 8) = true := beq_iff_eq.mpr c10
          have c10b1 : (a0 != 8) = false := bne_eq_false_iff_eq.mpr c10
          clear c10
          obtain rfl := Option.some.inj H
          go_enter Tryd.func38, Tryd.ntmps38
          go_wp2
          go_ret
          exact ⟨by first | rfl | (simp; done) | (simp [*]; done), by repeat (first | exact Drawn0.refl _ | apply Drawn0.step)⟩
         ·
          rw [if_neg c10] at H
          have c10b0 : (a0 == 8) = false := beq_eq_false_iff_ne.mpr c10
          have c10b1 : (a0 != 8) = true := bne_iff_ne.mpr c10
          by_cases c11 : a0 = 9
          ·
           rw [if_pos c11] at H
           have c11b0 : (a0 == 9) = true := beq_iff_eq.mpr c11
           have c11b1 : (a0 != 9) = false := bne_eq_false_iff_eq.mpr c11
           clear c11
           obtain rfl := Option.some.inj H
           go_enter Tryd.func38, Tryd.ntmps38
           go_wp2
           go_ret
           exact ⟨by first | rfl | (simp; done) | (simp [*]; done), by repeat (first | exact Drawn0.refl _ | apply Drawn0.step)⟩
          ·
           rw [if_neg c11] at H
           have c11b0 : (a0 == 9) = false := beq_eq_false_iff_ne.mpr c11
           have c11b1 : (a0 != 9) = true := bne_iff_ne.mpr c11
           by_cases c12 : a0 = 10
           ·
            rw [if_pos c12] at H
            have c12b0 : (a0 == 10) = true := beq_iff_eq.mpr c12
            have c12b1 : (a0 != 10) = false := bne_eq_false_iff_eq.mpr c12
            clear c12
            obtain rfl := Option.some.inj H
            go_enter Tryd.func38, Tryd.ntmps38
            go_wp2
            go_ret
            exact ⟨by first | rfl | (simp; done) | (simp [*]; done), by repeat (first | exact Drawn0.refl _ | apply Drawn0.step)⟩
           ·
            rw [if_neg c12] at H
            have c12b0 : (a0 == 10) = false := beq_eq_false_iff_ne.mpr c12
            have c12b1 : (a0 != 10) = true := bne_iff_ne.mpr c12
            by_cases c13 : a0 = 11
            ·
             rw [if_pos c13] at H
             have c13b0 : (a0 == 11) = true := beq_iff_eq.mpr c13
             have c13b1 : (a0 != 11) = false := bne_eq_false_iff_eq.mpr c13
             clear c13
             obtain rfl := Option.some.inj H
             go_enter Tryd.func38, Tryd.ntmps38
             go_wp2
             go_ret
             exact ⟨by first | rfl | (simp; done) | (simp [*]; done), by repeat (first | exact Drawn0.refl _ | apply Drawn0.step)⟩
            ·
             rw [if_neg c13] at H
             have c13b0 : (a0 == 11) = false := beq_eq_false_iff_ne.mpr c13
             have c13b1 : (a0 != 11) = true := bne_iff_ne.mpr c13
             by_cases c14 : a0 = 12
             ·
              rw [if_pos c14] at H
              have c14b0 : (a0 == 12) = true := beq_iff_eq.mpr c14
              have c14b1 : (a0 != 12) = false := bne_eq_false_iff_eq.mpr c14
              clear c14
              obtain rfl := Option.some.inj H
              go_enter Tryd.func38, Tryd.ntmps38
              go_wp2
              go_ret
              exact ⟨by first | rfl | (simp; done) | (simp [*]; done), by repeat (first | exact Drawn0.refl _ | apply Drawn0.step)⟩
             ·
              rw [if_neg c14] at H
              have c14b0 : (a0 == 12) = false := beq_eq_false_iff_ne.mpr c14
              have c14b1 : (a0 != 12) = true := bne_iff_ne.mpr c14
              by_cases c15 : a0 = 13
              ·
               rw [if_pos c15] at H
               have c15b0 : (a0 == 13) = true := beq_iff_eq.mpr c15
               have c15b1 : (a0 != 13) = false := bne_eq_false_iff_eq.mpr c15
               clear c15
               obtain rfl := Option.some.inj H
               go_enter Tryd.func38, Tryd.ntmps38
               go_wp2
               go_ret
               exact ⟨by first | rfl | (simp; done) | (simp [*]; done), by repeat (first | exact Drawn0.refl _ | apply Drawn0.step)⟩
              ·
               rw [if_neg c15] at H
               have c15b0 : (a0 == 13) = false := beq_eq_false_iff_ne.mpr c15
               have c15b1 : (a0 != 13) = true := bne_iff_ne.mpr c15
               by_cases c16 : a0 = 14
               ·
                rw [if_pos c16] at H
                have c16b0 : (a0 == 14) = true := beq_iff_eq.mpr c16
                have c16b1 : (a0 != 14) = false := bne_eq_false_iff_eq.mpr c16
                clear c16
                obtain rfl := Option.some.inj H
                go_enter Tryd.func38, Tryd.ntmps38
                go_wp2
                go_ret
                exact ⟨by first | rfl | (simp; done) | (simp [*]; done), by repeat (first | exact Drawn0.refl _ | apply Drawn0.step)⟩
               ·
                rw [if_neg c16] at H
                have c16b0 : (a0 == 14) = false := beq_eq_false_iff_ne.mpr c16
                have c16b1 : (a0 != 14) = true := bne_iff_ne.mpr c16
                by_cases c17 : a0 = 15
                ·
                 rw [if_pos c17] at H
                 have c17b0 : (a0 == 15) = true := beq_iff_eq.mpr c17
                 have c17b1 : (a0 != 15) = false := bne_eq_false_iff_eq.mpr c17
                 clear c17
                 obtain rfl := Option.some.inj H
                 go_enter Tryd.func38, Tryd.ntmps38
                 go_wp2
                 go_ret
                 exact ⟨by first | rfl | (simp; done) | (simp [*]; done), by repeat (first | exact Drawn0.refl _ | apply Drawn0.step)⟩
                ·
                 rw [if_neg c17] at H
                 have c17b0 : (a0 == 15) = false := beq_eq_false_iff_ne.mpr c17
                 have c17b1 : (a0 != 15) = true := bne_iff_ne.mpr c17
                 by_cases c18 : a0 = 16
                 ·
                  rw [if_pos c18] at H
                  have c18b0 : (a0 == 16) = true := beq_iff_eq.mpr c18
                  have c18b1 : (a0 != 16) = false := bne_eq_false_iff_eq.mpr c18
                  clear c18
                  obtain rfl := Option.some.inj H
                  go_enter Tryd.func38, Tryd.ntmps38
                  go_wp2
                  go_ret
                  exact ⟨by first | rfl | (simp; done) | (simp [*]; done), by repeat (first | exact Drawn0.refl _ | apply Drawn0.step)⟩
                 ·
                  rw [if_neg c18] at H
                  have c18b0 : (a0 == 16) = false := beq_eq_false_iff_ne.mpr c18
                  have c18b1 : (a0 != 16) = true := bne_iff_ne.mpr c18
                  by_cases c19 : a0 = 17
                  ·
                   rw [if_pos c19] at H
                   have c19b0 : (a0 == 17) = true := beq_iff_eq.mpr c19
                   have c19b1 : (a0 != 17) = false := bne_eq_false_iff_eq.mpr c19
                   clear c19
                   obtain rfl := Option.some.inj H
                   go_enter Tryd.func38, Tryd.ntmps38
                   go_wp2
                   go_ret
                   exact ⟨by first | rfl | (simp; done) | (simp [*]; done), by repeat (first | exact Drawn0.refl _ | apply Drawn0.step)⟩
                  ·
                   rw [if_neg c19] at H
                   have c19b0 : (a0 == 17) = false := beq_eq_false_iff_ne.mpr c19
                   have c19b1 : (a0 != 17) = true := bne_iff_ne.mpr c19
                   by_cases c20 : a0 = 18
                   ·
                    rw [if_pos c20] at H
                    have c20b0 : (a0 == 18) = true := beq_iff_eq.mpr c20
                    have c20b1 : (a0 != 18) = false := bne_eq_false_iff_eq.mpr c20
                    clear c20
                    obtain rfl := Option.some.inj H
                    go_enter Tryd.func38, Tryd.ntmps38
                    go_wp2
                    go_ret
                    exact ⟨by first | rfl | (simp; done) | (simp [*]; done), by repeat (first | exact Drawn0.refl _ | apply Drawn0.step)⟩
                   ·
                    rw [if_neg c20] at H
                    have c20b0 : (a0 == 18) = false := beq_eq_false_iff_ne.mpr c20
                    have c20b1 : (a0 != 18) = true := bne_iff_ne.mpr c20
                    by_cases c21 : a0 = 19
                    ·
                     rw [if_pos c21] at H
                     have c21b0 : (a0 == 19) = true := beq_iff_eq.mpr c21
                     have c21b1 : (a0 != 19) = false := bne_eq_false_iff_eq.mpr c21
                     clear c21
                     obtain rfl := Option.some.inj H
                     go_enter Tryd.func38, Tryd.ntmps38
                     go_wp2
                     go_ret
                     exact ⟨by first | rfl | (simp; done) | (simp [*]; done), by repeat (first | exact Drawn0.refl _ | apply Drawn0.step)⟩
                    ·
                     rw [if_neg c21] at H
                     have c21b0 : (a0 == 19) = false := beq_eq_false_iff_ne.mpr c21
                     have c21b1 : (a0 != 19) = true := bne_iff_ne.mpr c21
                     by_cases c22 : a0 = 20
                     ·
                      rw [if_pos c22] at H
                      have c22b0 : (a0 == 20) = true := beq_iff_eq.mpr c22
                      have c22b1 : (a0 != 20) = false := bne_eq_false_iff_eq.mpr c22
                      clear c22
                      obtain rfl := Option.some.inj H
                      go_enter Tryd.func38, Tryd.ntmps38
                      go_wp2
                      go_ret
                      exact ⟨by first | rfl | (simp; done) | (simp [*]; done), by repeat (first | exact Drawn0.refl _ | apply Drawn0.step)⟩
                     ·
                      rw [if_neg c22] at H
                      have c22b0 : (a0 == 20) = false := beq_eq_false_iff_ne.mpr c22
                      have c22b1 : (a0 != 20) = true := bne_iff_ne.mpr c22
                      by_cases c23 : a0 = 21
                      ·
                       rw [if_pos c23] at H
                       have c23b0 : (a0 == 21) = true := beq_iff_eq.mpr c23
                       have c23b1 : (a0 != 21) = false := bne_eq_false_iff_eq.mpr c23
                       clear c23
                       obtain rfl := Option.some.inj H
                       go_enter Tryd.func38, Tryd.ntmps38
                       go_wp2
                       go_ret
                       exact ⟨by first | rfl | (simp; done) | (simp [*]; done), by repeat (first | exact Drawn0.refl _ | apply Drawn0.step)⟩
                      ·
                       rw [if_neg c23] at H
                       have c23b0 : (a0 == 21) = false := beq_eq_false_iff_ne.mpr c23
                       have c23b1 : (a0 != 21) = true := bne_iff_ne.mpr c23
                       by_cases c24 : a0 = 22
                       ·
                        rw [if_pos c24] at H
                        have c24b0 : (a0 == 22) = true := beq_iff_eq.mpr c24
                        have c24b1 : (a0 != 22) = false := bne_eq_false_iff_eq.mpr c24
                        clear c24
                        obtain rfl := Option.some.inj H
                        go_enter Tryd.func38, Tryd.ntmps38
                        go_wp2
                        go_ret
                        exact ⟨by first | rfl | (simp; done) | (simp [*]; done), by repeat (first | exact Drawn0.refl _ | apply Drawn0.step)⟩
                       ·
                        rw [if_neg c24] at H
                        have c24b0 : (a0 == 22) = false := beq_eq_false_iff_ne.mpr c24
                        have c24b1 : (a0 != 22) = true := bne_iff_ne.mpr c24
                        by_cases c25 : a0 = 23
                        ·
                         rw [if_pos c25] at H
                         have c25b0 : (a0 == 23) = true := beq_iff_eq.mpr c25
                         have c25b1 : (a0 != 23) = false := bne_eq_false_iff_eq.mpr c25
                         clear c25
                         obtain rfl := Option.some.inj H
                         go_enter Tryd.func38, Tryd.ntmps38
                         go_wp2
                         go_ret
                         exact ⟨by first | rfl | (simp; done) | (simp [*]; done), by repeat (first | exact Drawn0.refl _ | apply Drawn0.step)⟩
                        ·
                         rw [if_neg c25] at H
                         have c25b0 : (a0 == 23) = false := beq_eq_false_iff_ne.mpr c25
                         have c25b1 : (a0 != 23) = true := bne_iff_ne.mpr c25
                         by_cases c26 : a0 = 24
                         ·
                          rw [if_pos c26] at H
                          have c26b0 : (a0 == 24) = true := beq_iff_eq.mpr c26
                          have c26b1 : (a0 != 24) = false := bne_eq_false_iff_eq.mpr c26
                          clear c26
                          obtain rfl := Option.some.inj H
                          go_enter Tryd.func38, Tryd.ntmps38
                          go_wp2
                          go_ret
                          exact ⟨by first | rfl | (simp; done) | (simp [*]; done), by repeat (first | exact Drawn0.refl _ | apply Drawn0.step)⟩
                         ·
                          rw [if_neg c26] at H
                          have c26b0 : (a0 == 24) = false := beq_eq_false_iff_ne.mpr c26
                          have c26b1 : (a0 != 24) = true := bne_iff_ne.mpr c26
                          by_cases c27 : a0 = 25
                          ·
                           rw [if_pos c27] at H
                           have c27b0 : (a0 == 25) = true := beq_iff_eq.mpr c27
                           have c27b1 : (a0 != 25) = false := bne_eq_false_iff_eq.mpr c27
                           clear c27
                           obtain rfl := Option.some.inj H
                           go_enter Tryd.func38, Tryd.ntmps38
                           go_wp2
                           go_ret
                           exact ⟨by first | rfl | (simp; done) | (simp [*]; done), by repeat (first | exact Drawn0.refl _ | apply Drawn0.step)⟩
                          ·
                           rw [if_neg c27] at H
                           have c27b0 : (a0 == 25) = false := beq_eq_false_iff_ne.mpr c27
                           have c27b1 : (a0 != 25) = true := bne_iff_ne.mpr c27
                           by_cases c28 : a0 = 26
                           ·
                            rw [if_pos c28] at H
                            have c28b0 : (a0 == 26) = true := beq_iff_eq.mpr c28
                            have c28b1 : (a0 != 26) = false := bne_eq_false_iff_eq.mpr c28
                            clear c28
                            obtain rfl := Option.some.inj H
                            go_enter Tryd.func38, Tryd.ntmps38
                            go_wp2
                            go_ret
                            exact ⟨by first | rfl | (simp; done) | (simp [*]; done), by repeat (first | exact Drawn0.refl _ | apply Drawn0.step)⟩
                           ·
                            rw [if_neg c28] at H
                            have c28b0 : (a0 == 26) = false := beq_eq_false_iff_ne.mpr c28
                            have c28b1 : (a0 != 26) = true := bne_iff_ne.mpr c28
                            by_cases c29 : a0 = 27
                            ·
                             rw [if_pos c29] at H
                             have c29b0 : (a0 == 27) = true := beq_iff_eq.mpr c29
                             have c29b1 : (a0 != 27) = false := bne_eq_false_iff_eq.mpr c29
                             clear c29
                             obtain rfl := Option.some.inj H
                             go_enter Tryd.func38, Tryd.ntmps38
                             go_wp2
                             go_ret
                             exact ⟨by first | rfl | (simp; done) | (simp [*]; done), by repeat (first | exact Drawn0.refl _ | apply Drawn0.step)⟩
                            ·
                             rw [if_neg c29] at H
                             have c29b0 : (a0 == 27) = false := beq_eq_false_iff_ne.mpr c29
                             have c29b1 : (a0 != 27) = true := bne_iff_ne.mpr c29
                             by_cases c30 : a0 = 28
                             ·
                              rw [if_pos c30] at H
                              have c30b0 : (a0 == 28) = true := beq_iff_eq.mpr c30
                              have c30b1 : (a0 != 28) = false := bne_eq_false_iff_eq.mpr c30
                              clear c30
                              obtain rfl := Option.some.inj H
                              go_enter Tryd.func38, Tryd.ntmps38
                              go_wp2
                              go_ret
                              exact ⟨by first | rfl | (simp; done) | (simp [*]; done), by repeat (first | exact Drawn0.refl _ | apply Drawn0.step)⟩
                             ·
                              rw [if_neg c30] at H
                              have c30b0 : (a0 == 28) = false := beq_eq_false_iff_ne.mpr c30
                              have c30b1 : (a0 != 28) = true := bne_iff_ne.mpr c30
                              by_cases c31 : a0 = 29
                              ·
                               rw [if_pos c31] at H
                               have c31b0 : (a0 == 29) = true := beq_iff_eq.mpr c31
                               have c31b1 : (a0 != 29) = false := bne_eq_false_iff_eq.mpr c31
                               clear c31
                               obtain rfl := Option.some.inj H
                               go_enter Tryd.func38, Tryd.ntmps38
                               go_wp2
                               go_ret
                               exact ⟨by first | rfl | (simp; done) | (simp [*]; done), by repeat (first | exact Drawn0.refl _ | apply Drawn0.step)⟩
                              ·
                               rw [if_neg c31] at H
                               have c31b0 : (a0 == 29) = false := beq_eq_false_iff_ne.mpr c31
                               have c31b1 : (a0 != 29) = true := bne_iff_ne.mpr c31
                               by_cases c32 : a0 = 30
                               ·
                                rw [if_pos c32] at H
                                have c32b0 : (a0 == 30) = true := beq_iff_eq.mpr c32
                                have c32b1 : (a0 != 30) = false := bne_eq_false_iff_eq.mpr c32
                                clear c32
                                obtain rfl := Option.some.inj H
                                go_enter Tryd.func38, Tryd.ntmps38
                                go_wp2
                                go_ret
                                exact ⟨by first | rfl | (simp; done) | (simp [*]; done), by repeat (first | exact Drawn0.refl _ | apply Drawn0.step)⟩
                               ·
                                rw [if_neg c32] at H
                                have c32b0 : (a0 == 30) = false := beq_eq_false_iff_ne.mpr c32
                                have c32b1 : (a0 != 30) = true := bne_iff_ne.mpr c32
                                by_cases c33 : a0 = 31
                                ·
                                 rw [if_pos c33] at H
                                 have c33b0 : (a0 == 31) = true := beq_iff_eq.mpr c33
                                 have c33b1 : (a0 != 31) = false := bne_eq_false_iff_eq.mpr c33
                                 clear c33
                                 obtain rfl := Option.some.inj H
                                 go_enter Tryd.func38, Tryd.ntmps38
                                 go_wp2
                                 go_ret
                                 exact ⟨by first | rfl | (simp; done) | (simp [*]; done), by repeat (first | exact Drawn0.refl _ | apply Drawn0.step)⟩
                                ·
                                 rw [if_neg c33] at H
                                 have c33b0 : (a0 == 31) = false := beq_eq_false_iff_ne.mpr c33
                                 have c33b1 : (a0 != 31) = true := bne_iff_ne.mpr c33
                                 by_cases c34 : a0 = 32
                                 ·
                                  rw [if_pos c34] at H
                                  have c34b0 : (a0 == 32) = true := beq_iff_eq.mpr c34
                                  have c34b1 : (a0 != 32) = false := bne_eq_false_iff_eq.mpr c34
                                  clear c34
                                  obtain rfl := Option.some.inj H
                                  go_enter Tryd.func38, Tryd.ntmps38
                                  go_wp2
                                  go_ret
                                  exact ⟨by first | rfl | (simp; done) | (simp [*]; done), by repeat (first | exact Drawn0.refl _ | apply Drawn0.step)⟩
                                 ·
                                  rw [if_neg c34] at H
                                  have c34b0 : (a0 == 32) = false := beq_eq_false_iff_ne.mpr c34
                                  have c34b1 : (a0 != 32) = true := bne_iff_ne.mpr c34
                                  obtain rfl := Option.some.inj H
                                  go_enter Tryd.func38, Tryd.ntmps38
                                  go_wp2
                                  go_ret
                                  exact ⟨by first | rfl | (simp; done) | (simp [*]; done), by repeat (first | exact Drawn0.refl _ | apply Drawn0.step)⟩

/-! ### capstanref04_Parse: function 65 -/
def capstanref04_Parse.l0 : Nat → ByteArray → Int → Option (Int × Bool)
 | 0, _, _ => none
 | k + 1, x0, x4 => if x4 < 33 then ((capstanref04_Name.f x4).bind fun t124 => (if t124.toList = x0.toList then (some (x4, true)) else (capstanref04_Parse.l0 k x0 ((x4 + 1) % 256)))) else (some (0, false))
def capstanref04_Parse.f (k : Nat) (a0 : ByteArray) : Option (Int × Bool) := capstanref04_Parse.l0 k a0 0
theorem capstanref04_Parse.mono_l : ∀ k, (∀ y0 y1, LeO (capstanref04_Parse.l0 k y0 y1) (capstanref04_Parse.l0 (k + 1) y0 y1))
 | 0 => fun _ _ r h => by simp [capstanref04_Parse.l0] at h
 | k + 1 => by
  have ih0 := capstanref04_Parse.mono_l k
  ·
   intro y0 y1
   unfold capstanref04_Parse.l0
   repeat' first
   | (with_reducible exact ih0 _ _)
   | (with_reducible exact LeO.refl _)
   | (with_reducible exact LeO.none _)
   | (with_reducible refine LeO.ite ?_ ?_)
   | (with_reducible refine LeO.bind ?_ (fun _ => ?_))
   | exact ih0 _ _
   | exact LeO.none _
   | refine LeO.ite ?_ ?_
   | refine LeO.bind ?_ (fun _ => ?_)
theorem capstanref04_Parse.mono : ∀ a0 k, LeO (capstanref04_Parse.f k a0) (capstanref04_Parse.f (k + 1) a0) := by
 intro a0 k
 have ih0 := capstanref04_Parse.mono_l k
 unfold capstanref04_Parse.f
 repeat' first
   | (with_reducible exact ih0 _ _)
   | (with_reducible exact LeO.refl _)
   | (with_reducible exact LeO.none _)
   | (with_reducible refine LeO.ite ?_ ?_)
   | (with_reducible refine LeO.bind ?_ (fun _ => ?_))
   | exact ih0 _ _
   | exact LeO.none _
   | refine LeO.ite ?_ ?_
   | refine LeO.bind ?_ (fun _ => ?_)
set_option maxHeartbeats 8000000 in
set_option maxRecDepth 100000 in
theorem capstanref04_Parse.calls (k : Nat) (a0 : ByteArray) (r1 : Int) (r2 : Bool) (w : World) (h : capstanref04_Parse.f k a0 = some (r1, r2)) :
  Calls Tryd.prog 65 #[.string a0] w fun e w' => e = .returned (.tuple #[.int .u8 r1, .bool r2]) ∧ Drawn0 w w' := by
 have H : (capstanref04_Parse.l0 k a0 0) = some (r1, r2) := h
 clear h
 have H' := Aside0.mk H
 clear H
 go_enter Tryd.func65, Tryd.ntmps65
 go_wp2
 go_loopg [4] k (fun kq v4 w' => ∃ (x4_1 : Int), v4 = .int .u8 x4_1 ∧ Aside0 (capstanref04_Parse.l0 kq a0 x4_1 = some (r1, r2)) ∧ Aside0 (kq ≤ k) ∧ Drawn0 w w')
 case atStart => exact ⟨(0), (by first | rfl | (simp; done) | (simp [*]; done)), H', ⟨Nat.le_refl _⟩, by repeat (first | exact Drawn0.refl _ | apply Drawn0.step)⟩
 case round =>
  clear H'
  obtain ⟨x4_1, rfl, HA, HK1, ⟨m1, rfl⟩⟩ := hrel
  cases gk with
  | zero => exact absurd HA.out (by simp [capstanref04_Parse.l0])
  | succ k1 =>
   have H := HA.out
   clear HA
   simp only [capstanref04_Parse.l0] at H
   by_cases c2 : x4_1 < 33
   ·
    rw [if_pos c2] at H
    have c2b0 : decide (x4_1 < 33) = true := decide_eq_true c2
    clear c2
    replace H := Option.bind_eq_some_iff.mp H
    obtain ⟨t124, A30, H⟩ := H
    replace H : (if t124.toList = a0.toList then (some (x4_1, true)) else (capstanref04_Parse.l0 k1 a0 ((x4_1 + 1) % 256))) = some (r1, r2) := H
    have A3 := Aside0.mk A30
    clear A30
    by_cases c4 : t124.toList = a0.toList
    ·
     rw [if_pos c4] at H
     have c4b0 : (t124.toList == a0.toList) = true := beq_iff_eq.mpr c4
     have c4b1 : (t124.toList != a0.toList) = false := bne_eq_false_iff_eq.mpr c4
     clear c4
     simp only [Option.some.injEq, Prod.mk.injEq] at H
     obtain ⟨rfl, rfl⟩ := H
     go_wp2_with (first | ((with_reducible refine gate_callee (f := 38) rfl ?_); refine goesL_ (some 10) rfl rfl Tryd.func38 (by kernel_rfl) rfl #[.int .u8 x4_1] rfl (by (try simp only [List.map_toArray, List.map_cons, List.map_nil]); first | done | rfl | (simp only [List.length_drop, List.length_take]; rfl)) ?_; (with_reducible refine (capstanref04_Name.calls x4_1 t124 _ A3.out).mono ?_); rintro e w' ⟨rfl, ⟨nd, rfl⟩⟩; refine ⟨_, rfl, ?_⟩))
     go_ret2
     exact ⟨by first | rfl | (simp; done) | (simp [*]; done), by repeat (first | exact Drawn0.refl _ | apply Drawn0.step)⟩
    ·
     rw [if_neg c4] at H
     have c4b0 : (t124.toList == a0.toList) = false := beq_eq_false_iff_ne.mpr c4
     have c4b1 : (t124.toList != a0.toList) = true := bne_iff_ne.mpr c4
     have H' := Aside0.mk H
     clear H
     go_wp2_with (first | ((with_reducible refine gate_callee (f := 38) rfl ?_); refine goesL_ (some 10) rfl rfl Tryd.func38 (by kernel_rfl) rfl #[.int .u8 x4_1] rfl (by (try simp only [List.map_toArray, List.map_cons, List.map_nil]); first | done | rfl | (simp only [List.length_drop, List.length_take]; rfl)) ?_; (with_reducible refine (capstanref04_Name.calls x4_1 t124 _ A3.out).mono ?_); rintro e w' ⟨rfl, ⟨nd, rfl⟩⟩; refine ⟨_, rfl, ?_⟩))
     go_roundg k1
     case measure => have := HK1.out; omega
     case rel => exact ⟨((x4_1 + 1) % 256), (by first | rfl | (simp; done) | (simp [*]; done)), H', ⟨by have := HK1.out; omega⟩, by repeat (first | exact Drawn0.refl _ | apply Drawn0.step)⟩
   ·
    rw [if_neg c2] at H
    have c2b0 : decide (x4_1 < 33) = false := decide_eq_false c2
    clear c2
    simp only [Option.some.injEq, Prod.mk.injEq] at H
    obtain ⟨rfl, rfl⟩ := H
    go_wp2
    go_ret2
    exact ⟨by first | rfl | (simp; done) | (simp [*]; done), by repeat (first | exact Drawn0.refl _ | apply Drawn0.step)⟩

/-! ### capstanref05_Digits: function 39 -/
def capstanref05_Digits.f : Nat → Int → Option (ByteArray)
 | 0, _ => none
 | k + 1, a0 => (some (([(48 + ((Int.tmod a0 10) % 256)) % 256] : List Int) : List Int)).bind fun y125 => (if a0 < 10 then (some (strOfNums y125)) else ((capstanref05_Digits.f k (wrap64 (Int.tdiv a0 10))).bind fun t128 => (if t128.size + (strOfNums y125).size ≤ 9223372036854775807 then (some (t128 ++ (strOfNums y125))) else (none))))
theorem capstanref05_Digits.mono_l : ∀ k, (∀ y0, LeO (capstanref05_Digits.f k y0) (capstanref05_Digits.f (k + 1) y0))
 | 0 => fun _ r h => by simp [capstanref05_Digits.f] at h
 | k + 1 => by
  have ih0 := capstanref05_Digits.mono_l k
  ·
   intro y0
   unfold capstanref05_Digits.f
   repeat' first
   | (with_reducible exact ih0 _)
   | (with_reducible exact LeO.refl _)
   | (with_reducible exact LeO.none _)
   | (with_reducible refine LeO.ite ?_ ?_)
   | (with_reducible refine LeO.bind ?_ (fun _ => ?_))
   | exact ih0 _
   | exact LeO.none _
   | refine LeO.ite ?_ ?_
   | refine LeO.bind ?_ (fun _ => ?_)
theorem capstanref05_Digits.mono : ∀ a0 k, LeO (capstanref05_Digits.f k a0) (capstanref05_Digits.f (k + 1) a0) := by
 intro a0 k
 have ih0 := capstanref05_Digits.mono_l k
 exact ih0 a0
set_option maxHeartbeats 8000000 in
set_option maxRecDepth 100000 in
theorem capstanref05_Digits.calls (k : Nat) : ∀ (a0 : Int) (r : ByteArray) (w : World) (h : capstanref05_Digits.f k a0 = some r),
  Calls Tryd.prog 39 #[.int .i64 a0] w fun e w' => e = .returned (.string r) ∧ Below w.heap.size w w' := by
 induction k using Nat.strongRecOn with
 | _ k ih =>
 intro a0 r w h
 cases k with
 | zero => exact absurd h (by simp [capstanref05_Digits.f])
 | succ k =>
 simp only [capstanref05_Digits.f] at h
 have HB := Aside0.mk (Below.refl w.heap.size w)
 have H : ((some (([(48 + ((Int.tmod a0 10) % 256)) % 256] : List Int) : List Int)).bind fun y125 => (if a0 < 10 then (some (strOfNums y125)) else ((capstanref05_Digits.f k (wrap64 (Int.tdiv a0 10))).bind fun t128 => (if t128.size + (strOfNums y125).size ≤ 9223372036854775807 then (some (t128 ++ (strOfNums y125))) else (none))))) = some r := h
 clear h
 obtain ⟨y125, hy125⟩ : ∃ y_ : List Int, y_ = (([(48 + ((Int.tmod a0 10) % 256)) % 256] : List Int)) := ⟨_, rfl⟩
 replace H : (if a0 < 10 then (some (strOfNums y125)) else ((capstanref05_Digits.f k (wrap64 (Int.tdiv a0 10))).bind fun t128 => (if t128.size + (strOfNums y125).size ≤ 9223372036854775807 then (some (t128 ++ (strOfNums y125))) else (none)))) = some r := by first | (rw [hy125]; with_reducible exact H) | (have H2_ := (Option.bind_some _ _).symm.trans H; rw [hy125]; with_reducible exact H2_) | (have H2_ := (Option.bind_some _ _).symm.trans H; with_reducible exact H2_) | with_reducible exact H | (rw [hy125]; exact H) | exact H
 have Ny125 := Aside0.mk hy125
 clear hy125
 by_cases c2 : a0 < 10
 ·
  rw [if_pos c2] at H
  have c2b0 : decide (a0 < 10) = true := decide_eq_true c2
  clear c2
  obtain rfl := Option.some.inj H
  go_enter Tryd.func39, Tryd.ntmps39
  go_wp2_with (first | ((with_reducible refine gate_dst (N := 8) rfl ?_); refine Kd.R_lit (Kd.int .u8) _ 5 ?hg (N := 8) ?hd (xs := ([(48 + ((Int.tmod a0 10) % 256)) % 256] : List Int)) (inner := [.int .u8 ((48 + ((Int.tmod a0 10) % 256)) % 256)]) (ok := fun _ => True) (okp := fun _ => True) ?hr ?hp (fun _ hk => hk) trivial (Below.refl _ _) (Nat.le_refl _) (by simp) ?_; (case hd => rfl); (case hg => rfl); (case hr => first | (go_simp; done) | (go_simp; rfl)); (case hp => exact (Reps.one (show Kd.M (Kd.int .u8) _ _ _ ((48 + ((Int.tmod a0 10) % 256)) % 256) [.int .u8 ((48 + ((Int.tmod a0 10) % 256)) % 256)] from rfl) (Reps.none _ _))); intro v126 w3 ho4 hb hg_ hnew_; clear hg_ hnew_; (first | rw [← Ny125.out] at ho4 | (simp only [Int.reduceToNat] at ho4; rw [← Ny125.out] at ho4)); have n0_ := Aside0.mk (Kd.R_lower ho4 (below_size (by repeat (first | (with_reducible first | exact HB.out | apply below_alloc | apply pw_below_drewN | apply below_drew1) | exact HB.out | exact ⟨HB.out.os, HB.out.tape, HB.out.output, HB.out.size, HB.out.block⟩)))); have n1_ := Aside0.mk (below_step (by repeat (first | (with_reducible first | exact HB.out | apply below_alloc | apply pw_below_drewN | apply below_drew1) | exact HB.out | exact ⟨HB.out.os, HB.out.tape, HB.out.output, HB.out.size, HB.out.block⟩)) hb); clear HB; have HO127 := n0_; have HB := n1_; clear n0_ n1_; clear hb ho4; have hcv5 := own_string (P := Tryd.prog) Tryd.underlying22 Tryd.underlying5 Tryd.underlying9 (Kd.own_of_R HO127.out); (try have hcv6 := fun n_ : Nat => own_string (P := Tryd.prog) Tryd.underlying22 Tryd.underlying5 Tryd.underlying9 (Kd.own_of_R (Kd.R_drewN HO127.out n_)))))
  go_ret
  exact ⟨by first | rfl | (simp [errW_none, errW_some] <;> rfl) | (simp [*, errW_none, errW_some] <;> rfl), by repeat (first | (with_reducible first | exact HB.out | apply below_alloc | apply pw_below_drewN | apply below_drew1) | exact HB.out | exact ⟨HB.out.os, HB.out.tape, HB.out.output, HB.out.size, HB.out.block⟩)⟩
 ·
  rw [if_neg c2] at H
  have c2b0 : decide (a0 < 10) = false := decide_eq_false c2
  clear c2
  replace H := Option.bind_eq_some_iff.mp H
  obtain ⟨t128, A70, H⟩ := H
  replace H : (if t128.size + (strOfNums y125).size ≤ 9223372036854775807 then (some (t128 ++ (strOfNums y125))) else (none)) = some r := H
  have A7 := Aside0.mk A70
  clear A70
  by_cases c8 : t128.size + (strOfNums y125).size ≤ 9223372036854775807
  ·
   rw [if_pos c8] at H
   have c8b0 := eq_true c8
   have c8b1 : decide (t128.size + (strOfNums y125).size ≤ 9223372036854775807) = true := decide_eq_true c8
   try have c8b2 : (9223372036854775807 < t128.size + (strOfNums y125).size) = False := eq_false (Nat.not_lt.2 c8)
   obtain rfl := Option.some.inj H
   go_enter Tryd.func39, Tryd.ntmps39
   go_wp2_with (first | ((with_reducible refine gate_dst (N := 8) rfl ?_); refine Kd.R_lit (Kd.int .u8) _ 5 ?hg (N := 8) ?hd (xs := ([(48 + ((Int.tmod a0 10) % 256)) % 256] : List Int)) (inner := [.int .u8 ((48 + ((Int.tmod a0 10) % 256)) % 256)]) (ok := fun _ => True) (okp := fun _ => True) ?hr ?hp (fun _ hk => hk) trivial (Below.refl _ _) (Nat.le_refl _) (by simp) ?_; (case hd => rfl); (case hg => rfl); (case hr => first | (go_simp; done) | (go_simp; rfl)); (case hp => exact (Reps.one (show Kd.M (Kd.int .u8) _ _ _ ((48 + ((Int.tmod a0 10) % 256)) % 256) [.int .u8 ((48 + ((Int.tmod a0 10) % 256)) % 256)] from rfl) (Reps.none _ _))); intro v126 w9 ho10 hb hg_ hnew_; clear hg_ hnew_; (first | rw [← Ny125.out] at ho10 | (simp only [Int.reduceToNat] at ho10; rw [← Ny125.out] at ho10)); have n0_ := Aside0.mk (Kd.R_lower ho10 (below_size (by repeat (first | (with_reducible first | exact HB.out | apply below_alloc | apply pw_below_drewN | apply below_drew1) | exact HB.out | exact ⟨HB.out.os, HB.out.tape, HB.out.output, HB.out.size, HB.out.block⟩)))); have n1_ := Aside0.mk (below_step (by repeat (first | (with_reducible first | exact HB.out | apply below_alloc | apply pw_below_drewN | apply below_drew1) | exact HB.out | exact ⟨HB.out.os, HB.out.tape, HB.out.output, HB.out.size, HB.out.block⟩)) hb); clear HB; have HO127 := n0_; have HB := n1_; clear n0_ n1_; clear hb ho10; have hcv11 := own_string (P := Tryd.prog) Tryd.underlying22 Tryd.underlying5 Tryd.underlying9 (Kd.own_of_R HO127.out); (try have hcv12 := fun n_ : Nat => own_string (P := Tryd.prog) Tryd.underlying22 Tryd.underlying5 Tryd.underlying9 (Kd.own_of_R (Kd.R_drewN HO127.out n_)))) | ((with_reducible refine gate_callee (f := 39) rfl ?_); refine goesL_ (some 15) rfl rfl Tryd.func39 (by kernel_rfl) rfl #[.int .i64 (wrap64 (Int.tdiv a0 10))] rfl (by (try simp only [List.map_toArray, List.map_cons, List.map_nil]); first | done | rfl | (simp only [List.length_drop, List.length_take]; rfl)) ?_; (with_reducible refine (ih k (by omega) (wrap64 (Int.tdiv a0 10)) t128 _ A7.out).mono ?_); rintro e w13 ⟨rfl, hb⟩; refine ⟨_, rfl, ?_⟩; have n0_ := Aside0.mk (Kd.R_below (by (with_reducible repeat (first | apply Kd.R_alloc | apply Kd.R_drewN | apply Kd.R_drew)); first | exact HO127.out | exact Kd.R_mono (HO127.out) (fun _ h_ => h_.2)) hb); have n1_ := Aside0.mk (below_step (by repeat (first | (with_reducible first | exact HB.out | apply below_alloc | apply pw_below_drewN | apply below_drew1) | exact HB.out | exact ⟨HB.out.os, HB.out.tape, HB.out.output, HB.out.size, HB.out.block⟩)) hb); clear HO127; clear HB; have HO127 := n0_; have HB := n1_; clear n0_ n1_; (try clear hb); (try clear hb2); (try clear hk); (try clear hi)))
   go_ret
   exact ⟨by first | rfl | (simp [errW_none, errW_some] <;> rfl) | (simp [*, errW_none, errW_some] <;> rfl), by repeat (first | (with_reducible first | exact HB.out | apply below_alloc | apply pw_below_drewN | apply below_drew1) | exact HB.out | exact ⟨HB.out.os, HB.out.tape, HB.out.output, HB.out.size, HB.out.block⟩)⟩
  ·
   rw [if_neg c8] at H
   exact absurd H (by simp)

end Go.Proofs.YtdfjjooejfgglaaDoor.X
