/- Contracts of the functions of this seat (each: the call of the function does what the plain Lean function of the same name tells; the conditions stand in each statement). Written by a program of this session and by hand; checked by Lean. -/
import Derived.Test.YtahkaekiandchaaR0
namespace Go.Proofs.Ytahkaekiandchaa.R
open Go.RowKit Go.Proofs.YtahkaekiandchaaW.PrintWords Go.Proofs.YtahkaekiandchaaW.PrintLast Go.Proofs.YtahkaekiandchaaW.PrintMore
attribute [local go_sem] max2_int min2_int max_two min_two max_three min_three max_four min_four   -- for this text's walks alone
set_option linter.unusedVariables false
set_option linter.unusedSimpArgs false

/-! ### capstanref04_shape: function 7 -/
mutual
def capstanref04_shape.j0 : Nat → Int → Bool → Option (ByteArray × ByteArray)
  | 0, _, _ => none
  | k + 1, x4, x5 => if x5 = true then (some ((⟨#[]⟩ : ByteArray), (⟨#[]⟩ : ByteArray))) else (if x4 = 9 then (capstanref04_shape.j1 k x4 (x4 == 9)) else (if x4 = 10 then (capstanref04_shape.j1 k x4 (x4 == 10)) else (if x4 = 11 then (capstanref04_shape.j1 k x4 (x4 == 11)) else (if x4 = 12 then (capstanref04_shape.j1 k x4 (x4 == 12)) else (if x4 = 13 then (capstanref04_shape.j1 k x4 (x4 == 13)) else (if x4 = 14 then (capstanref04_shape.j1 k x4 (x4 == 14)) else (capstanref04_shape.j1 k x4 (x4 == 15))))))))
def capstanref04_shape.j1 : Nat → Int → Bool → Option (ByteArray × ByteArray)
  | 0, _, _ => none
  | k + 1, x4, x11 => if x11 = true then (some ((⟨#[110, 110]⟩ : ByteArray), (⟨#[110]⟩ : ByteArray))) else (if x4 = 16 then (some ((⟨#[110, 110]⟩ : ByteArray), (⟨#[112]⟩ : ByteArray))) else (if x4 = 17 then (capstanref04_shape.j2 k x4 (x4 == 17)) else (capstanref04_shape.j2 k x4 (x4 == 18))))
def capstanref04_shape.j2 : Nat → Int → Bool → Option (ByteArray × ByteArray)
  | 0, _, _ => none
  | k + 1, x4, x21 => if x21 = true then (some ((⟨#[112]⟩ : ByteArray), (⟨#[110]⟩ : ByteArray))) else (if x4 = 19 then (capstanref04_shape.j3 k x4 (x4 == 19)) else (capstanref04_shape.j3 k x4 (x4 == 20)))
def capstanref04_shape.j3 : Nat → Int → Bool → Option (ByteArray × ByteArray)
  | 0, _, _ => none
  | k + 1, x4, x24 => if x24 = true then (some ((⟨#[112, 112]⟩ : ByteArray), (⟨#[112]⟩ : ByteArray))) else (if x4 = 21 then (some ((⟨#[112]⟩ : ByteArray), (⟨#[112]⟩ : ByteArray))) else (if x4 = 22 then (some ((⟨#[110]⟩ : ByteArray), (⟨#[114]⟩ : ByteArray))) else (if x4 = 23 then (some ((⟨#[114, 110]⟩ : ByteArray), (⟨#[110]⟩ : ByteArray))) else (if x4 = 24 then (some ((⟨#[114, 110, 110]⟩ : ByteArray), (⟨#[]⟩ : ByteArray))) else (if x4 = 25 then (some ((⟨#[114]⟩ : ByteArray), (⟨#[110]⟩ : ByteArray))) else (if x4 = 27 then (some ((⟨#[110]⟩ : ByteArray), (⟨#[]⟩ : ByteArray))) else (if x4 = 6 then (some ((⟨#[46]⟩ : ByteArray), (⟨#[]⟩ : ByteArray))) else (some ((⟨#[63]⟩ : ByteArray), (⟨#[63]⟩ : ByteArray))))))))))
end
def capstanref04_shape.f (k : Nat) (a0 : Int) : Option (ByteArray × ByteArray) := if a0 = 0 then (capstanref04_shape.j0 k a0 (a0 == 0)) else (if a0 = 26 then (capstanref04_shape.j0 k a0 (a0 == 26)) else (if a0 = 28 then (capstanref04_shape.j0 k a0 (a0 == 28)) else (if a0 = 29 then (capstanref04_shape.j0 k a0 (a0 == 29)) else (capstanref04_shape.j0 k a0 (a0 == 32)))))
theorem capstanref04_shape.mono_l : ∀ k, (∀ y0 y1, LeO (capstanref04_shape.j0 k y0 y1) (capstanref04_shape.j0 (k + 1) y0 y1)) ∧ (∀ y0 y1, LeO (capstanref04_shape.j1 k y0 y1) (capstanref04_shape.j1 (k + 1) y0 y1)) ∧ (∀ y0 y1, LeO (capstanref04_shape.j2 k y0 y1) (capstanref04_shape.j2 (k + 1) y0 y1)) ∧ (∀ y0 y1, LeO (capstanref04_shape.j3 k y0 y1) (capstanref04_shape.j3 (k + 1) y0 y1))
  | 0 => ⟨fun _ _ r h => by simp [capstanref04_shape.j0] at h, fun _ _ r h => by simp [capstanref04_shape.j1] at h, fun _ _ r h => by simp [capstanref04_shape.j2] at h, fun _ _ r h => by simp [capstanref04_shape.j3] at h⟩
  | k + 1 => by
    obtain ⟨ih0, ih1, ih2, ih3⟩ := capstanref04_shape.mono_l k
    refine ⟨?_, ?_, ?_, ?_⟩
    · intro y0 y1
      unfold capstanref04_shape.j0
      repeat' first
      | (with_reducible exact ih0 _ _)
      | (with_reducible exact ih1 _ _)
      | (with_reducible exact ih2 _ _)
      | (with_reducible exact ih3 _ _)
      | (with_reducible exact LeO.refl _)
      | (with_reducible exact LeO.none _)
      | (with_reducible refine LeO.ite ?_ ?_)
      | (with_reducible refine LeO.bind ?_ (fun _ => ?_))
      | exact ih0 _ _
      | exact ih1 _ _
      | exact ih2 _ _
      | exact ih3 _ _
      | exact LeO.none _
      | refine LeO.ite ?_ ?_
      | refine LeO.bind ?_ (fun _ => ?_)
    · intro y0 y1
      unfold capstanref04_shape.j1
      repeat' first
      | (with_reducible exact ih0 _ _)
      | (with_reducible exact ih1 _ _)
      | (with_reducible exact ih2 _ _)
      | (with_reducible exact ih3 _ _)
      | (with_reducible exact LeO.refl _)
      | (with_reducible exact LeO.none _)
      | (with_reducible refine LeO.ite ?_ ?_)
      | (with_reducible refine LeO.bind ?_ (fun _ => ?_))
      | exact ih0 _ _
      | exact ih1 _ _
      | exact ih2 _ _
      | exact ih3 _ _
      | exact LeO.none _
      | refine LeO.ite ?_ ?_
      | refine LeO.bind ?_ (fun _ => ?_)
    · intro y0 y1
      unfold capstanref04_shape.j2
      repeat' first
      | (with_reducible exact ih0 _ _)
      | (with_reducible exact ih1 _ _)
      | (with_reducible exact ih2 _ _)
      | (with_reducible exact ih3 _ _)
      | (with_reducible exact LeO.refl _)
      | (with_reducible exact LeO.none _)
      | (with_reducible refine LeO.ite ?_ ?_)
      | (with_reducible refine LeO.bind ?_ (fun _ => ?_))
      | exact ih0 _ _
      | exact ih1 _ _
      | exact ih2 _ _
      | exact ih3 _ _
      | exact LeO.none _
      | refine LeO.ite ?_ ?_
      | refine LeO.bind ?_ (fun _ => ?_)
    · intro y0 y1
      unfold capstanref04_shape.j3
      repeat' first
      | (with_reducible exact ih0 _ _)
      | (with_reducible exact ih1 _ _)
      | (with_reducible exact ih2 _ _)
      | (with_reducible exact ih3 _ _)
      | (with_reducible exact LeO.refl _)
      | (with_reducible exact LeO.none _)
      | (with_reducible refine LeO.ite ?_ ?_)
      | (with_reducible refine LeO.bind ?_ (fun _ => ?_))
      | exact ih0 _ _
      | exact ih1 _ _
      | exact ih2 _ _
      | exact ih3 _ _
      | exact LeO.none _
      | refine LeO.ite ?_ ?_
      | refine LeO.bind ?_ (fun _ => ?_)
theorem capstanref04_shape.mono : ∀ a0 k, LeO (capstanref04_shape.f k a0) (capstanref04_shape.f (k + 1) a0) := by
  intro a0 k
  obtain ⟨ih0, ih1, ih2, ih3⟩ := capstanref04_shape.mono_l k
  unfold capstanref04_shape.f
  repeat' first
      | (with_reducible exact ih0 _ _)
      | (with_reducible exact ih1 _ _)
      | (with_reducible exact ih2 _ _)
      | (with_reducible exact ih3 _ _)
      | (with_reducible exact LeO.refl _)
      | (with_reducible exact LeO.none _)
      | (with_reducible refine LeO.ite ?_ ?_)
      | (with_reducible refine LeO.bind ?_ (fun _ => ?_))
      | exact ih0 _ _
      | exact ih1 _ _
      | exact ih2 _ _
      | exact ih3 _ _
      | exact LeO.none _
      | refine LeO.ite ?_ ?_
      | refine LeO.bind ?_ (fun _ => ?_)
set_option maxHeartbeats 8000000 in
set_option maxRecDepth 100000 in
theorem capstanref04_shape.calls (k : Nat) (a0 : Int) (r1 : ByteArray) (r2 : ByteArray) (w : World) (h : capstanref04_shape.f k a0 = some (r1, r2)) :
    Calls Try.prog 7 #[.int .u8 a0] w fun e w' => e = .returned (.tuple #[.string r1, .string r2]) ∧ Drawn0 w w' := by
  have H : (if a0 = 0 then (capstanref04_shape.j0 k a0 (a0 == 0)) else (if a0 = 26 then (capstanref04_shape.j0 k a0 (a0 == 26)) else (if a0 = 28 then (capstanref04_shape.j0 k a0 (a0 == 28)) else (if a0 = 29 then (capstanref04_shape.j0 k a0 (a0 == 29)) else (capstanref04_shape.j0 k a0 (a0 == 32)))))) = some (r1, r2) := h
  clear h
  have HC2 := Aside0.mk H
  clear H
  go_enter Try.func7, Try.ntmps7
  go_upto_if 5 with (fail)
  go_cut [5] (fun v5 wc => ∃ (kq : Nat) (x5_1 : Bool), v5 = .bool x5_1 ∧ Aside0 (capstanref04_shape.j0 kq a0 x5_1 = some (r1, r2)) ∧ Aside0 (kq ≤ k) ∧ Drawn0 w wc)
  case first =>
    have H := HC2.out
    clear HC2
    by_cases c3 : a0 = 0
    · rw [if_pos c3] at H
      have c3b0 : (a0 == 0) = true := beq_iff_eq.mpr c3
      have c3b1 : (a0 != 0) = false := bne_eq_false_iff_eq.mpr c3
      clear c3
      (first | rw [c3b0] | (simp only [i64_w, i32_w]; rw [c3b0]) | skip)
      have H' := Aside0.mk H
      clear H
      go_wp2
      go_meet
      case rel => exact ⟨_, ((a0 == 0)), (by first | rfl | (simp; done) | (simp [*]; done)), H', ⟨by first | omega | exact Nat.le_refl _⟩, by repeat (first | exact Drawn0.refl _ | apply Drawn0.step)⟩
    · rw [if_neg c3] at H
      have c3b0 : (a0 == 0) = false := beq_eq_false_iff_ne.mpr c3
      have c3b1 : (a0 != 0) = true := bne_iff_ne.mpr c3
      (first | rw [c3b0] | (simp only [i64_w, i32_w]; rw [c3b0]) | skip)
      by_cases c4 : a0 = 26
      · rw [if_pos c4] at H
        have c4b0 : (a0 == 26) = true := beq_iff_eq.mpr c4
        have c4b1 : (a0 != 26) = false := bne_eq_false_iff_eq.mpr c4
        clear c4
        have H' := Aside0.mk H
        clear H
        go_wp2
        go_meet
        case rel => exact ⟨_, ((a0 == 26)), (by first | rfl | (simp; done) | (simp [*]; done)), H', ⟨by first | omega | exact Nat.le_refl _⟩, by repeat (first | exact Drawn0.refl _ | apply Drawn0.step)⟩
      · rw [if_neg c4] at H
        have c4b0 : (a0 == 26) = false := beq_eq_false_iff_ne.mpr c4
        have c4b1 : (a0 != 26) = true := bne_iff_ne.mpr c4
        by_cases c5 : a0 = 28
        · rw [if_pos c5] at H
          have c5b0 : (a0 == 28) = true := beq_iff_eq.mpr c5
          have c5b1 : (a0 != 28) = false := bne_eq_false_iff_eq.mpr c5
          clear c5
          have H' := Aside0.mk H
          clear H
          go_wp2
          go_meet
          case rel => exact ⟨_, ((a0 == 28)), (by first | rfl | (simp; done) | (simp [*]; done)), H', ⟨by first | omega | exact Nat.le_refl _⟩, by repeat (first | exact Drawn0.refl _ | apply Drawn0.step)⟩
        · rw [if_neg c5] at H
          have c5b0 : (a0 == 28) = false := beq_eq_false_iff_ne.mpr c5
          have c5b1 : (a0 != 28) = true := bne_iff_ne.mpr c5
          by_cases c6 : a0 = 29
          · rw [if_pos c6] at H
            have c6b0 : (a0 == 29) = true := beq_iff_eq.mpr c6
            have c6b1 : (a0 != 29) = false := bne_eq_false_iff_eq.mpr c6
            clear c6
            have H' := Aside0.mk H
            clear H
            go_wp2
            go_meet
            case rel => exact ⟨_, ((a0 == 29)), (by first | rfl | (simp; done) | (simp [*]; done)), H', ⟨by first | omega | exact Nat.le_refl _⟩, by repeat (first | exact Drawn0.refl _ | apply Drawn0.step)⟩
          · rw [if_neg c6] at H
            have c6b0 : (a0 == 29) = false := beq_eq_false_iff_ne.mpr c6
            have c6b1 : (a0 != 29) = true := bne_iff_ne.mpr c6
            have H' := Aside0.mk H
            clear H
            go_wp2
            go_meet
            case rel => exact ⟨_, ((a0 == 32)), (by first | rfl | (simp; done) | (simp [*]; done)), H', ⟨by first | omega | exact Nat.le_refl _⟩, by repeat (first | exact Drawn0.refl _ | apply Drawn0.step)⟩
  case rest =>
    clear HC2
    try clear p2
    try clear c3
    try clear c3b0
    try clear c3b1
    try clear c4
    try clear c4b0
    try clear c4b1
    try clear c5
    try clear c5b0
    try clear c5b1
    try clear c6
    try clear c6b0
    try clear c6b1
    obtain ⟨kq, x5_1, rfl, HA, HJ1, ⟨mc1, rfl⟩⟩ := hcut
    cases kq with
    | zero => exact absurd HA.out (by simp [capstanref04_shape.j0])
    | succ kj1 =>
      have H := HA.out
      clear HA
      simp only [capstanref04_shape.j0] at H
      by_cases c7 : x5_1 = true
      · subst c7
        have H1 : (some ((⟨#[]⟩ : ByteArray), (⟨#[]⟩ : ByteArray))) = some (r1, r2) := by rw [if_pos rfl] at H; exact H
        clear H
        have H := H1
        clear H1
        simp only [Option.some.injEq, Prod.mk.injEq] at H
        obtain ⟨rfl, rfl⟩ := H
        go_wp2
        go_ret2
        exact ⟨by first | rfl | (simp; done) | (simp [*]; done), by repeat (first | exact Drawn0.refl _ | apply Drawn0.step)⟩
      · replace c7 := Bool.eq_false_iff.mpr c7
        subst c7
        have H1 : (if a0 = 9 then (capstanref04_shape.j1 kj1 a0 (a0 == 9)) else (if a0 = 10 then (capstanref04_shape.j1 kj1 a0 (a0 == 10)) else (if a0 = 11 then (capstanref04_shape.j1 kj1 a0 (a0 == 11)) else (if a0 = 12 then (capstanref04_shape.j1 kj1 a0 (a0 == 12)) else (if a0 = 13 then (capstanref04_shape.j1 kj1 a0 (a0 == 13)) else (if a0 = 14 then (capstanref04_shape.j1 kj1 a0 (a0 == 14)) else (capstanref04_shape.j1 kj1 a0 (a0 == 15)))))))) = some (r1, r2) := by rw [if_neg (show ¬ (false = true) by decide)] at H; exact H
        clear H
        have H := H1
        clear H1
        have HC8 := Aside0.mk H
        clear H
        go_upto_if 11 with (fail)
        go_cut [11] (fun v11 wc => ∃ (kq : Nat) (x11_7 : Bool), v11 = .bool x11_7 ∧ Aside0 (capstanref04_shape.j1 kq a0 x11_7 = some (r1, r2)) ∧ Aside0 (kq ≤ kj1) ∧ Drawn0 w wc)
        case first =>
          have H := HC8.out
          clear HC8
          by_cases c9 : a0 = 9
          · rw [if_pos c9] at H
            have c9b0 : (a0 == 9) = true := beq_iff_eq.mpr c9
            have c9b1 : (a0 != 9) = false := bne_eq_false_iff_eq.mpr c9
            clear c9
            (first | rw [c9b0] | (simp only [i64_w, i32_w]; rw [c9b0]) | skip)
            have H' := Aside0.mk H
            clear H
            go_wp2
            go_meet
            case rel => exact ⟨_, ((a0 == 9)), (by first | rfl | (simp; done) | (simp [*]; done)), H', ⟨by have := HJ1.out; first | omega | exact Nat.le_refl _⟩, by repeat (first | exact Drawn0.refl _ | apply Drawn0.step)⟩
          · rw [if_neg c9] at H
            have c9b0 : (a0 == 9) = false := beq_eq_false_iff_ne.mpr c9
            have c9b1 : (a0 != 9) = true := bne_iff_ne.mpr c9
            (first | rw [c9b0] | (simp only [i64_w, i32_w]; rw [c9b0]) | skip)
            by_cases c10 : a0 = 10
            · rw [if_pos c10] at H
              have c10b0 : (a0 == 10) = true := beq_iff_eq.mpr c10
              have c10b1 : (a0 != 10) = false := bne_eq_false_iff_eq.mpr c10
              clear c10
              have H' := Aside0.mk H
              clear H
              go_wp2
              go_meet
              case rel => exact ⟨_, ((a0 == 10)), (by first | rfl | (simp; done) | (simp [*]; done)), H', ⟨by have := HJ1.out; first | omega | exact Nat.le_refl _⟩, by repeat (first | exact Drawn0.refl _ | apply Drawn0.step)⟩
            · rw [if_neg c10] at H
              have c10b0 : (a0 == 10) = false := beq_eq_false_iff_ne.mpr c10
              have c10b1 : (a0 != 10) = true := bne_iff_ne.mpr c10
              by_cases c11 : a0 = 11
              · rw [if_pos c11] at H
                have c11b0 : (a0 == 11) = true := beq_iff_eq.mpr c11
                have c11b1 : (a0 != 11) = false := bne_eq_false_iff_eq.mpr c11
                clear c11
                have H' := Aside0.mk H
                clear H
                go_wp2
                go_meet
                case rel => exact ⟨_, ((a0 == 11)), (by first | rfl | (simp; done) | (simp [*]; done)), H', ⟨by have := HJ1.out; first | omega | exact Nat.le_refl _⟩, by repeat (first | exact Drawn0.refl _ | apply Drawn0.step)⟩
              · rw [if_neg c11] at H
                have c11b0 : (a0 == 11) = false := beq_eq_false_iff_ne.mpr c11
                have c11b1 : (a0 != 11) = true := bne_iff_ne.mpr c11
                by_cases c12 : a0 = 12
                · rw [if_pos c12] at H
                  have c12b0 : (a0 == 12) = true := beq_iff_eq.mpr c12
                  have c12b1 : (a0 != 12) = false := bne_eq_false_iff_eq.mpr c12
                  clear c12
                  have H' := Aside0.mk H
                  clear H
                  go_wp2
                  go_meet
                  case rel => exact ⟨_, ((a0 == 12)), (by first | rfl | (simp; done) | (simp [*]; done)), H', ⟨by have := HJ1.out; first | omega | exact Nat.le_refl _⟩, by repeat (first | exact Drawn0.refl _ | apply Drawn0.step)⟩
                · rw [if_neg c12] at H
                  have c12b0 : (a0 == 12) = false := beq_eq_false_iff_ne.mpr c12
                  have c12b1 : (a0 != 12) = true := bne_iff_ne.mpr c12
                  by_cases c13 : a0 = 13
                  · rw [if_pos c13] at H
                    have c13b0 : (a0 == 13) = true := beq_iff_eq.mpr c13
                    have c13b1 : (a0 != 13) = false := bne_eq_false_iff_eq.mpr c13
                    clear c13
                    have H' := Aside0.mk H
                    clear H
                    go_wp2
                    go_meet
                    case rel => exact ⟨_, ((a0 == 13)), (by first | rfl | (simp; done) | (simp [*]; done)), H', ⟨by have := HJ1.out; first | omega | exact Nat.le_refl _⟩, by repeat (first | exact Drawn0.refl _ | apply Drawn0.step)⟩
                  · rw [if_neg c13] at H
                    have c13b0 : (a0 == 13) = false := beq_eq_false_iff_ne.mpr c13
                    have c13b1 : (a0 != 13) = true := bne_iff_ne.mpr c13
                    by_cases c14 : a0 = 14
                    · rw [if_pos c14] at H
                      have c14b0 : (a0 == 14) = true := beq_iff_eq.mpr c14
                      have c14b1 : (a0 != 14) = false := bne_eq_false_iff_eq.mpr c14
                      clear c14
                      have H' := Aside0.mk H
                      clear H
                      go_wp2
                      go_meet
                      case rel => exact ⟨_, ((a0 == 14)), (by first | rfl | (simp; done) | (simp [*]; done)), H', ⟨by have := HJ1.out; first | omega | exact Nat.le_refl _⟩, by repeat (first | exact Drawn0.refl _ | apply Drawn0.step)⟩
                    · rw [if_neg c14] at H
                      have c14b0 : (a0 == 14) = false := beq_eq_false_iff_ne.mpr c14
                      have c14b1 : (a0 != 14) = true := bne_iff_ne.mpr c14
                      have H' := Aside0.mk H
                      clear H
                      go_wp2
                      go_meet
                      case rel => exact ⟨_, ((a0 == 15)), (by first | rfl | (simp; done) | (simp [*]; done)), H', ⟨by have := HJ1.out; first | omega | exact Nat.le_refl _⟩, by repeat (first | exact Drawn0.refl _ | apply Drawn0.step)⟩
        case rest =>
          clear HC8
          try clear c1
          try clear p2
          try clear c3
          try clear c3b0
          try clear c3b1
          try clear c4
          try clear c4b0
          try clear c4b1
          try clear c5
          try clear c5b0
          try clear c5b1
          try clear c6
          try clear c6b0
          try clear c6b1
          try clear c7
          try clear c9
          try clear c9b0
          try clear c9b1
          try clear c10
          try clear c10b0
          try clear c10b1
          try clear c11
          try clear c11b0
          try clear c11b1
          try clear c12
          try clear c12b0
          try clear c12b1
          try clear c13
          try clear c13b0
          try clear c13b1
          try clear c14
          try clear c14b0
          try clear c14b1
          try clear p2
          obtain ⟨kq, x11_7, rfl, HA, HJ7, ⟨mc7, rfl⟩⟩ := hcut
          cases kq with
          | zero => exact absurd HA.out (by simp [capstanref04_shape.j1])
          | succ kj7 =>
            have H := HA.out
            clear HA
            simp only [capstanref04_shape.j1] at H
            by_cases c15 : x11_7 = true
            · subst c15
              have H1 : (some ((⟨#[110, 110]⟩ : ByteArray), (⟨#[110]⟩ : ByteArray))) = some (r1, r2) := by rw [if_pos rfl] at H; exact H
              clear H
              have H := H1
              clear H1
              simp only [Option.some.injEq, Prod.mk.injEq] at H
              obtain ⟨rfl, rfl⟩ := H
              go_wp2
              go_ret2
              exact ⟨by first | rfl | (simp; done) | (simp [*]; done), by repeat (first | exact Drawn0.refl _ | apply Drawn0.step)⟩
            · replace c15 := Bool.eq_false_iff.mpr c15
              subst c15
              have H1 : (if a0 = 16 then (some ((⟨#[110, 110]⟩ : ByteArray), (⟨#[112]⟩ : ByteArray))) else (if a0 = 17 then (capstanref04_shape.j2 kj7 a0 (a0 == 17)) else (capstanref04_shape.j2 kj7 a0 (a0 == 18)))) = some (r1, r2) := by rw [if_neg (show ¬ (false = true) by decide)] at H; exact H
              clear H
              have H := H1
              clear H1
              by_cases c16 : a0 = 16
              · rw [if_pos c16] at H
                have c16b0 : (a0 == 16) = true := beq_iff_eq.mpr c16
                have c16b1 : (a0 != 16) = false := bne_eq_false_iff_eq.mpr c16
                clear c16
                simp only [Option.some.injEq, Prod.mk.injEq] at H
                obtain ⟨rfl, rfl⟩ := H
                go_wp2
                go_ret2
                exact ⟨by first | rfl | (simp; done) | (simp [*]; done), by repeat (first | exact Drawn0.refl _ | apply Drawn0.step)⟩
              · rw [if_neg c16] at H
                have c16b0 : (a0 == 16) = false := beq_eq_false_iff_ne.mpr c16
                have c16b1 : (a0 != 16) = true := bne_iff_ne.mpr c16
                have HC17 := Aside0.mk H
                clear H
                go_upto_if 21 with (fail)
                go_cut [21] (fun v21 wc => ∃ (kq : Nat) (x21_16 : Bool), v21 = .bool x21_16 ∧ Aside0 (capstanref04_shape.j2 kq a0 x21_16 = some (r1, r2)) ∧ Aside0 (kq ≤ kj7) ∧ Drawn0 w wc)
                case first =>
                  have H := HC17.out
                  clear HC17
                  by_cases c18 : a0 = 17
                  · rw [if_pos c18] at H
                    have c18b0 : (a0 == 17) = true := beq_iff_eq.mpr c18
                    have c18b1 : (a0 != 17) = false := bne_eq_false_iff_eq.mpr c18
                    clear c18
                    (first | rw [c18b0] | (simp only [i64_w, i32_w]; rw [c18b0]) | skip)
                    have H' := Aside0.mk H
                    clear H
                    go_wp2
                    go_meet
                    case rel => exact ⟨_, ((a0 == 17)), (by first | rfl | (simp; done) | (simp [*]; done)), H', ⟨by have := HJ1.out; have := HJ7.out; first | omega | exact Nat.le_refl _⟩, by repeat (first | exact Drawn0.refl _ | apply Drawn0.step)⟩
                  · rw [if_neg c18] at H
                    have c18b0 : (a0 == 17) = false := beq_eq_false_iff_ne.mpr c18
                    have c18b1 : (a0 != 17) = true := bne_iff_ne.mpr c18
                    (first | rw [c18b0] | (simp only [i64_w, i32_w]; rw [c18b0]) | skip)
                    have H' := Aside0.mk H
                    clear H
                    go_wp2
                    go_meet
                    case rel => exact ⟨_, ((a0 == 18)), (by first | rfl | (simp; done) | (simp [*]; done)), H', ⟨by have := HJ1.out; have := HJ7.out; first | omega | exact Nat.le_refl _⟩, by repeat (first | exact Drawn0.refl _ | apply Drawn0.step)⟩
                case rest =>
                  clear HC17
                  try clear c1
                  try clear p2
                  try clear c3
                  try clear c3b0
                  try clear c3b1
                  try clear c4
                  try clear c4b0
                  try clear c4b1
                  try clear c5
                  try clear c5b0
                  try clear c5b1
                  try clear c6
                  try clear c6b0
                  try clear c6b1
                  try clear c7
                  try clear c9
                  try clear c9b0
                  try clear c9b1
                  try clear c10
                  try clear c10b0
                  try clear c10b1
                  try clear c11
                  try clear c11b0
                  try clear c11b1
                  try clear c12
                  try clear c12b0
                  try clear c12b1
                  try clear c13
                  try clear c13b0
                  try clear c13b1
                  try clear c14
                  try clear c14b0
                  try clear c14b1
                  try clear c15
                  try clear c16
                  try clear c16b0
                  try clear c16b1
                  try clear c18
                  try clear c18b0
                  try clear c18b1
                  try clear p2
                  obtain ⟨kq, x21_16, rfl, HA, HJ16, ⟨mc16, rfl⟩⟩ := hcut
                  cases kq with
                  | zero => exact absurd HA.out (by simp [capstanref04_shape.j2])
                  | succ kj16 =>
                    have H := HA.out
                    clear HA
                    simp only [capstanref04_shape.j2] at H
                    by_cases c19 : x21_16 = true
                    · subst c19
                      have H1 : (some ((⟨#[112]⟩ : ByteArray), (⟨#[110]⟩ : ByteArray))) = some (r1, r2) := by rw [if_pos rfl] at H; exact H
                      clear H
                      have H := H1
                      clear H1
                      simp only [Option.some.injEq, Prod.mk.injEq] at H
                      obtain ⟨rfl, rfl⟩ := H
                      go_wp2
                      go_ret2
                      exact ⟨by first | rfl | (simp; done) | (simp [*]; done), by repeat (first | exact Drawn0.refl _ | apply Drawn0.step)⟩
                    · replace c19 := Bool.eq_false_iff.mpr c19
                      subst c19
                      have H1 : (if a0 = 19 then (capstanref04_shape.j3 kj16 a0 (a0 == 19)) else (capstanref04_shape.j3 kj16 a0 (a0 == 20))) = some (r1, r2) := by rw [if_neg (show ¬ (false = true) by decide)] at H; exact H
                      clear H
                      have H := H1
                      clear H1
                      have HC20 := Aside0.mk H
                      clear H
                      go_upto_if 24 with (fail)
                      go_cut [24] (fun v24 wc => ∃ (kq : Nat) (x24_19 : Bool), v24 = .bool x24_19 ∧ Aside0 (capstanref04_shape.j3 kq a0 x24_19 = some (r1, r2)) ∧ Aside0 (kq ≤ kj16) ∧ Drawn0 w wc)
                      case first =>
                        have H := HC20.out
                        clear HC20
                        by_cases c21 : a0 = 19
                        · rw [if_pos c21] at H
                          have c21b0 : (a0 == 19) = true := beq_iff_eq.mpr c21
                          have c21b1 : (a0 != 19) = false := bne_eq_false_iff_eq.mpr c21
                          clear c21
                          (first | rw [c21b0] | (simp only [i64_w, i32_w]; rw [c21b0]) | skip)
                          have H' := Aside0.mk H
                          clear H
                          go_wp2
                          go_meet
                          case rel => exact ⟨_, ((a0 == 19)), (by first | rfl | (simp; done) | (simp [*]; done)), H', ⟨by have := HJ1.out; have := HJ7.out; have := HJ16.out; first | omega | exact Nat.le_refl _⟩, by repeat (first | exact Drawn0.refl _ | apply Drawn0.step)⟩
                        · rw [if_neg c21] at H
                          have c21b0 : (a0 == 19) = false := beq_eq_false_iff_ne.mpr c21
                          have c21b1 : (a0 != 19) = true := bne_iff_ne.mpr c21
                          (first | rw [c21b0] | (simp only [i64_w, i32_w]; rw [c21b0]) | skip)
                          have H' := Aside0.mk H
                          clear H
                          go_wp2
                          go_meet
                          case rel => exact ⟨_, ((a0 == 20)), (by first | rfl | (simp; done) | (simp [*]; done)), H', ⟨by have := HJ1.out; have := HJ7.out; have := HJ16.out; first | omega | exact Nat.le_refl _⟩, by repeat (first | exact Drawn0.refl _ | apply Drawn0.step)⟩
                      case rest =>
                        clear HC20
                        try clear c1
                        try clear c2
                        try clear p2
                        try clear c3
                        try clear c3b0
                        try clear c3b1
                        try clear c4
                        try clear c4b0
                        try clear c4b1
                        try clear c5
                        try clear c5b0
                        try clear c5b1
                        try clear c6
                        try clear c6b0
                        try clear c6b1
                        try clear c7
                        try clear c9
                        try clear c9b0
                        try clear c9b1
                        try clear c10
                        try clear c10b0
                        try clear c10b1
                        try clear c11
                        try clear c11b0
                        try clear c11b1
                        try clear c12
                        try clear c12b0
                        try clear c12b1
                        try clear c13
                        try clear c13b0
                        try clear c13b1
                        try clear c14
                        try clear c14b0
                        try clear c14b1
                        try clear c15
                        try clear c16
                        try clear c16b0
                        try clear c16b1
                        try clear c18
                        try clear c18b0
                        try clear c18b1
                        try clear c19
                        try clear c21
                        try clear c21b0
                        try clear c21b1
                        try clear p2
                        obtain ⟨kq, x24_19, rfl, HA, HJ19, ⟨mc19, rfl⟩⟩ := hcut
                        cases kq with
                        | zero => exact absurd HA.out (by simp [capstanref04_shape.j3])
                        | succ kj19 =>
                          have H := HA.out
                          clear HA
                          simp only [capstanref04_shape.j3] at H
                          by_cases c22 : x24_19 = true
                          · subst c22
                            have H1 : (some ((⟨#[112, 112]⟩ : ByteArray), (⟨#[112]⟩ : ByteArray))) = some (r1, r2) := by rw [if_pos rfl] at H; exact H
                            clear H
                            have H := H1
                            clear H1
                            simp only [Option.some.injEq, Prod.mk.injEq] at H
                            obtain ⟨rfl, rfl⟩ := H
                            go_wp2
                            go_ret2
                            exact ⟨by first | rfl | (simp; done) | (simp [*]; done), by repeat (first | exact Drawn0.refl _ | apply Drawn0.step)⟩
                          · replace c22 := Bool.eq_false_iff.mpr c22
                            subst c22
                            have H1 : (if a0 = 21 then (some ((⟨#[112]⟩ : ByteArray), (⟨#[112]⟩ : ByteArray))) else (if a0 = 22 then (some ((⟨#[110]⟩ : ByteArray), (⟨#[114]⟩ : ByteArray))) else (if a0 = 23 then (some ((⟨#[114, 110]⟩ : ByteArray), (⟨#[110]⟩ : ByteArray))) else (if a0 = 24 then (some ((⟨#[114, 110, 110]⟩ : ByteArray), (⟨#[]⟩ : ByteArray))) else (if a0 = 25 then (some ((⟨#[114]⟩ : ByteArray), (⟨#[110]⟩ : ByteArray))) else (if a0 = 27 then (some ((⟨#[110]⟩ : ByteArray), (⟨#[]⟩ : ByteArray))) else (if a0 = 6 then (some ((⟨#[46]⟩ : ByteArray), (⟨#[]⟩ : ByteArray))) else (some ((⟨#[63]⟩ : ByteArray), (⟨#[63]⟩ : ByteArray)))))))))) = some (r1, r2) := by rw [if_neg (show ¬ (false = true) by decide)] at H; exact H
                            clear H
                            have H := H1
                            clear H1
                            by_cases c23 : a0 = 21
                            · rw [if_pos c23] at H
                              have c23b0 : (a0 == 21) = true := beq_iff_eq.mpr c23
                              have c23b1 : (a0 != 21) = false := bne_eq_false_iff_eq.mpr c23
                              clear c23
                              simp only [Option.some.injEq, Prod.mk.injEq] at H
                              obtain ⟨rfl, rfl⟩ := H
                              go_wp2
                              go_ret2
                              exact ⟨by first | rfl | (simp; done) | (simp [*]; done), by repeat (first | exact Drawn0.refl _ | apply Drawn0.step)⟩
                            · rw [if_neg c23] at H
                              have c23b0 : (a0 == 21) = false := beq_eq_false_iff_ne.mpr c23
                              have c23b1 : (a0 != 21) = true := bne_iff_ne.mpr c23
                              by_cases c24 : a0 = 22
                              · rw [if_pos c24] at H
                                have c24b0 : (a0 == 22) = true := beq_iff_eq.mpr c24
                                have c24b1 : (a0 != 22) = false := bne_eq_false_iff_eq.mpr c24
                                clear c24
                                simp only [Option.some.injEq, Prod.mk.injEq] at H
                                obtain ⟨rfl, rfl⟩ := H
                                go_wp2
                                go_ret2
                                exact ⟨by first | rfl | (simp; done) | (simp [*]; done), by repeat (first | exact Drawn0.refl _ | apply Drawn0.step)⟩
                              · rw [if_neg c24] at H
                                have c24b0 : (a0 == 22) = false := beq_eq_false_iff_ne.mpr c24
                                have c24b1 : (a0 != 22) = true := bne_iff_ne.mpr c24
                                by_cases c25 : a0 = 23
                                · rw [if_pos c25] at H
                                  have c25b0 : (a0 == 23) = true := beq_iff_eq.mpr c25
                                  have c25b1 : (a0 != 23) = false := bne_eq_false_iff_eq.mpr c25
                                  clear c25
                                  simp only [Option.some.injEq, Prod.mk.injEq] at H
                                  obtain ⟨rfl, rfl⟩ := H
                                  go_wp2
                                  go_ret2
                                  exact ⟨by first | rfl | (simp; done) | (simp [*]; done), by repeat (first | exact Drawn0.refl _ | apply Drawn0.step)⟩
                                · rw [if_neg c25] at H
                                  have c25b0 : (a0 == 23) = false := beq_eq_false_iff_ne.mpr c25
                                  have c25b1 : (a0 != 23) = true := bne_iff_ne.mpr c25
                                  by_cases c26 : a0 = 24
                                  · rw [if_pos c26] at H
                                    have c26b0 : (a0 == 24) = true := beq_iff_eq.mpr c26
                                    have c26b1 : (a0 != 24) = false := bne_eq_false_iff_eq.mpr c26
                                    clear c26
                                    simp only [Option.some.injEq, Prod.mk.injEq] at H
                                    obtain ⟨rfl, rfl⟩ := H
                                    go_wp2
                                    go_ret2
                                    exact ⟨by first | rfl | (simp; done) | (simp [*]; done), by repeat (first | exact Drawn0.refl _ | apply Drawn0.step)⟩
                                  · rw [if_neg c26] at H
                                    have c26b0 : (a0 == 24) = false := beq_eq_false_iff_ne.mpr c26
                                    have c26b1 : (a0 != 24) = true := bne_iff_ne.mpr c26
                                    by_cases c27 : a0 = 25
                                    · rw [if_pos c27] at H
                                      have c27b0 : (a0 == 25) = true := beq_iff_eq.mpr c27
                                      have c27b1 : (a0 != 25) = false := bne_eq_false_iff_eq.mpr c27
                                      clear c27
                                      simp only [Option.some.injEq, Prod.mk.injEq] at H
                                      obtain ⟨rfl, rfl⟩ := H
                                      go_wp2
                                      go_ret2
                                      exact ⟨by first | rfl | (simp; done) | (simp [*]; done), by repeat (first | exact Drawn0.refl _ | apply Drawn0.step)⟩
                                    · rw [if_neg c27] at H
                                      have c27b0 : (a0 == 25) = false := beq_eq_false_iff_ne.mpr c27
                                      have c27b1 : (a0 != 25) = true := bne_iff_ne.mpr c27
                                      by_cases c28 : a0 = 27
                                      · rw [if_pos c28] at H
                                        have c28b0 : (a0 == 27) = true := beq_iff_eq.mpr c28
                                        have c28b1 : (a0 != 27) = false := bne_eq_false_iff_eq.mpr c28
                                        clear c28
                                        simp only [Option.some.injEq, Prod.mk.injEq] at H
                                        obtain ⟨rfl, rfl⟩ := H
                                        go_wp2
                                        go_ret2
                                        exact ⟨by first | rfl | (simp; done) | (simp [*]; done), by repeat (first | exact Drawn0.refl _ | apply Drawn0.step)⟩
                                      · rw [if_neg c28] at H
                                        have c28b0 : (a0 == 27) = false := beq_eq_false_iff_ne.mpr c28
                                        have c28b1 : (a0 != 27) = true := bne_iff_ne.mpr c28
                                        by_cases c29 : a0 = 6
                                        · rw [if_pos c29] at H
                                          have c29b0 : (a0 == 6) = true := beq_iff_eq.mpr c29
                                          have c29b1 : (a0 != 6) = false := bne_eq_false_iff_eq.mpr c29
                                          clear c29
                                          simp only [Option.some.injEq, Prod.mk.injEq] at H
                                          obtain ⟨rfl, rfl⟩ := H
                                          go_wp2
                                          go_ret2
                                          exact ⟨by first | rfl | (simp; done) | (simp [*]; done), by repeat (first | exact Drawn0.refl _ | apply Drawn0.step)⟩
                                        · rw [if_neg c29] at H
                                          have c29b0 : (a0 == 6) = false := beq_eq_false_iff_ne.mpr c29
                                          have c29b1 : (a0 != 6) = true := bne_iff_ne.mpr c29
                                          simp only [Option.some.injEq, Prod.mk.injEq] at H
                                          obtain ⟨rfl, rfl⟩ := H
                                          go_wp2
                                          go_ret2
                                          exact ⟨by first | rfl | (simp; done) | (simp [*]; done), by repeat (first | exact Drawn0.refl _ | apply Drawn0.step)⟩

end Go.Proofs.Ytahkaekiandchaa.R
