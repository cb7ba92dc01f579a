/- Contracts of the functions of this seat (each: the call of the function does what the plain Lean function of the same name tells; the conditions stand in each statement). Written by a program of this session and by hand; checked by Lean. -/
import Derived.Test.YtahkaekiandchaaDoorQ0
namespace Go.Proofs.YtahkaekiandchaaDoor.Q
open Go.RowKit Go.Proofs.YtahkaekiandchaaDoorW.PrintWords Go.Proofs.YtahkaekiandchaaDoorW.PrintLast Go.Proofs.YtahkaekiandchaaDoorW.PrintMore
attribute [local go_sem] max2_int min2_int max_two min_two max_three min_three max_four min_four   -- for this text's walks alone
set_option linter.unusedVariables false
set_option linter.unusedSimpArgs false

/-! ### slices_Index_string_string: function 24 -/
def slices_Index_string_string.l0 : Nat → List ByteArray → ByteArray → Int → Int → Option (Int)
  | 0, _, _, _, _ => none
  | k + 1, x0, x1, x7, x8 => if x8 < x7 then (if 0 ≤ x8 then (if x8 < (x0.length : Int) then (if x1.toList = (rdOf ByteArray.empty x0 x8).toList then (some x8) else (slices_Index_string_string.l0 k x0 x1 x7 (wrap64 (x8 + 1)))) else (none)) else (none)) else (some (-1))
def slices_Index_string_string.f (k : Nat) (l0 : List ByteArray) (a1 : ByteArray) : Option (Int) := slices_Index_string_string.l0 k l0 a1 (l0.length : Int) 0
theorem slices_Index_string_string.mono_l : ∀ k, (∀ y0 y1 y2 y3, LeO (slices_Index_string_string.l0 k y0 y1 y2 y3) (slices_Index_string_string.l0 (k + 1) y0 y1 y2 y3))
  | 0 => fun _ _ _ _ r h => by simp [slices_Index_string_string.l0] at h
  | k + 1 => by
    have ih0 := slices_Index_string_string.mono_l k
    · intro y0 y1 y2 y3
      unfold slices_Index_string_string.l0
      repeat' first
      | (with_reducible exact ih0 _ _ _ _)
      | (with_reducible exact LeO.refl _)
      | (with_reducible exact LeO.none _)
      | (with_reducible refine LeO.ite ?_ ?_)
      | (with_reducible refine LeO.bind ?_ (fun _ => ?_))
      | exact ih0 _ _ _ _
      | exact LeO.none _
      | refine LeO.ite ?_ ?_
      | refine LeO.bind ?_ (fun _ => ?_)
theorem slices_Index_string_string.mono : ∀ a0 a1 k, LeO (slices_Index_string_string.f k a0 a1) (slices_Index_string_string.f (k + 1) a0 a1) := by
  intro a0 a1 k
  have ih0 := slices_Index_string_string.mono_l k
  unfold slices_Index_string_string.f
  repeat' first
      | (with_reducible exact ih0 _ _ _ _)
      | (with_reducible exact LeO.refl _)
      | (with_reducible exact LeO.none _)
      | (with_reducible refine LeO.ite ?_ ?_)
      | (with_reducible refine LeO.bind ?_ (fun _ => ?_))
      | exact ih0 _ _ _ _
      | exact LeO.none _
      | refine LeO.ite ?_ ?_
      | refine LeO.bind ?_ (fun _ => ?_)
set_option maxHeartbeats 8000000 in
set_option maxRecDepth 100000 in
theorem slices_Index_string_string.calls (k : Nat) (A0 : Option Addr) (c0 : Nat) (l0 : List ByteArray) (a1 : ByteArray) (r : Int) (w : World) (hr0 : Kd.C Kd.string w A0 l0.length l0) (hc0 : l0.length ≤ c0) (h : slices_Index_string_string.f k l0 a1 = some r) :
    Calls Tryd.prog 24 #[.slice A0 l0.length c0, .string a1] w fun e w' => e = .returned (.int .i64 r) ∧ Drawn0 w w' := by
  have HR0 := Aside0.mk hr0
  have HC0 := Aside0.mk hc0
  clear hr0 hc0
  have H : (slices_Index_string_string.l0 k l0 a1 (l0.length : Int) 0) = some r := h
  clear h
  have H' := Aside0.mk H
  clear H
  go_enter Tryd.func24, Tryd.ntmps24
  go_wp2
  go_loopg [8] k (fun kq v8 w' => ∃ (x8_1 : Int), v8 = .int .i64 x8_1 ∧ Aside0 (slices_Index_string_string.l0 kq l0 a1 (l0.length : Int) x8_1 = some r) ∧ Aside0 (kq ≤ k) ∧ Drawn0 w w')
  case atStart => exact ⟨(0), (by first | rfl | (simp; done) | (simp [*]; done)), H', ⟨Nat.le_refl _⟩, by repeat (first | exact Drawn0.refl _ | apply Drawn0.step)⟩
  case round =>
    clear H'
    try clear c2
    try clear p2
    obtain ⟨x8_1, rfl, HA, HK1, ⟨m1, rfl⟩⟩ := hrel
    cases gk with
    | zero => exact absurd HA.out (by simp [slices_Index_string_string.l0])
    | succ k1 =>
      have H := HA.out
      clear HA
      simp only [slices_Index_string_string.l0] at H
      by_cases c3 : x8_1 < (l0.length : Int)
      · rw [if_pos c3] at H
        have c3b0 : decide (x8_1 < (l0.length : Int)) = true := decide_eq_true c3
        clear c3
        by_cases c4 : 0 ≤ x8_1
        · rw [if_pos c4] at H
          have c4b0 : decide (0 ≤ x8_1) = true := decide_eq_true c4
          clear c4
          by_cases c5 : x8_1 < (l0.length : Int)
          · rw [if_pos c5] at H
            have c5b0 : decide (x8_1 < (l0.length : Int)) = true := decide_eq_true c5
            clear c5
            by_cases c6 : a1.toList = (rdOf ByteArray.empty l0 x8_1).toList
            · rw [if_pos c6] at H
              have c6b0 : (a1.toList == (rdOf ByteArray.empty l0 x8_1).toList) = true := beq_iff_eq.mpr c6
              have c6b1 : (a1.toList != (rdOf ByteArray.empty l0 x8_1).toList) = false := bne_eq_false_iff_eq.mpr c6
              clear c6
              obtain rfl := Option.some.inj H
              have p101 : 0 ≤ (x8_1 : Int) := of_decide_eq_true (by first | (with_reducible assumption) | assumption)
              have q101 : x8_1 < (l0.length : Int) := of_decide_eq_true (by first | (with_reducible assumption) | assumption)
              obtain ⟨ad101, e101, hx101_0⟩ := Kd.at_string HR0.out x8_1 p101 q101
              cases e101
              replace p101 := eq_true p101
              replace q101 := eq_true q101
              go_wp2
              go_ret
              exact ⟨by first | rfl | (simp; done) | (simp [*]; done), by repeat (first | exact Drawn0.refl _ | apply Drawn0.step)⟩
            · rw [if_neg c6] at H
              have c6b0 : (a1.toList == (rdOf ByteArray.empty l0 x8_1).toList) = false := beq_eq_false_iff_ne.mpr c6
              have c6b1 : (a1.toList != (rdOf ByteArray.empty l0 x8_1).toList) = true := bne_iff_ne.mpr c6
              have H' := Aside0.mk H
              clear H
              have p101 : 0 ≤ (x8_1 : Int) := of_decide_eq_true (by first | (with_reducible assumption) | assumption)
              have q101 : x8_1 < (l0.length : Int) := of_decide_eq_true (by first | (with_reducible assumption) | assumption)
              obtain ⟨ad101, e101, hx101_0⟩ := Kd.at_string HR0.out x8_1 p101 q101
              cases e101
              replace p101 := eq_true p101
              replace q101 := eq_true q101
              go_wp2
              go_roundg k1
              case measure => have := HK1.out; omega
              case rel => exact ⟨(wrap64 (x8_1 + 1)), (by first | rfl | (simp; done) | (simp [*]; done)), H', ⟨by have := HK1.out; omega⟩, by repeat (first | exact Drawn0.refl _ | apply Drawn0.step)⟩
          · rw [if_neg c5] at H
            exact absurd H (by simp)
        · rw [if_neg c4] at H
          exact absurd H (by simp)
      · rw [if_neg c3] at H
        have c3b0 : decide (x8_1 < (l0.length : Int)) = false := decide_eq_false c3
        clear c3
        obtain rfl := Option.some.inj H
        go_wp2
        go_ret
        exact ⟨by first | rfl | (simp; done) | (simp [*]; done), by repeat (first | exact Drawn0.refl _ | apply Drawn0.step)⟩

/-! ### op_Parse: function 8 -/
def op_Parse.f (k : Nat) (a0 : ByteArray) : Option (Int × Bool) := (slices_Index_string_string.f k gl0 a0).bind fun i => if i < 0 then some (0, false) else if i < 33 then some (i, true) else none
theorem op_Parse.mono : ∀ a0 k, LeO (op_Parse.f k a0) (op_Parse.f (k + 1) a0) := by
  intro a0 k
  unfold op_Parse.f
  exact LeO.bind (slices_Index_string_string.mono _ _ _) fun i => LeO.refl _
set_option maxHeartbeats 8000000 in
set_option maxRecDepth 100000 in
theorem op_Parse.calls (k : Nat) (a0 : ByteArray) (r1 : Int) (r2 : Bool) (w : World) (hG : Gl w) (h : op_Parse.f k a0 = some (r1, r2)) :
    Calls Tryd.prog 8 #[.string a0] w fun e w' => e = .returned (.tuple #[.int .u8 r1, .bool r2]) ∧ Drawn0 w w' := by
  have HR := Aside0.mk hG.g0
  clear hG
  simp only [op_Parse.f] at h
  obtain ⟨i, hi, h⟩ := Option.bind_eq_some_iff.mp h
  have HI := Aside0.mk hi
  clear hi
  by_cases c : i < 0
  · rw [if_pos c, Option.some.injEq, Prod.mk.injEq] at h
    obtain ⟨rfl, rfl⟩ := h
    have hd : decide (0 ≤ i) = false := by simp; omega
    go_enter Tryd.func8, Tryd.ntmps8
    go_wp2_with (first | (go_at_call 24; (refine (slices_Index_string_string.calls k (some ⟨0, 0, none⟩) 33 gl0 a0 i _ HR.out (by decide) HI.out).mono ?_); rintro e w' ⟨rfl, ⟨nd, rfl⟩⟩))
    go_ret2
    exact ⟨rfl, ⟨nd, rfl⟩⟩
  · rw [if_neg c] at h
    have h33 : i < 33 := by
      by_cases c2 : i < 33
      · exact c2
      · rw [if_neg c2] at h; cases h
    rw [if_pos h33, Option.some.injEq, Prod.mk.injEq] at h
    obtain ⟨rfl, rfl⟩ := h
    have hd : decide (0 ≤ i) = true := by simp; omega
    have hm : i % 256 = i := by omega
    go_enter Tryd.func8, Tryd.ntmps8
    go_wp2_with (first | (go_at_call 24; (refine (slices_Index_string_string.calls k (some ⟨0, 0, none⟩) 33 gl0 a0 i _ HR.out (by decide) HI.out).mono ?_); rintro e w' ⟨rfl, ⟨nd, rfl⟩⟩))
    go_ret2
    exact ⟨by simp [hd, hm], ⟨nd, rfl⟩⟩

/-! ### capstanref04_Name: function 15 -/
def capstanref04_Name.f (a0 : Int) : Option (ByteArray) := if a0 = 0 then (some (⟨#[110, 111, 112]⟩ : ByteArray)) else (if a0 = 1 then (some (⟨#[99, 111, 110, 115, 116]⟩ : ByteArray)) else (if a0 = 2 then (some (⟨#[103, 101, 116]⟩ : ByteArray)) else (if a0 = 3 then (some (⟨#[115, 101, 116]⟩ : ByteArray)) else (if a0 = 4 then (some (⟨#[108, 111, 97, 100]⟩ : ByteArray)) else (if a0 = 5 then (some (⟨#[115, 116, 111, 114, 101]⟩ : ByteArray)) else (if a0 = 6 then (some (⟨#[112, 111, 112]⟩ : ByteArray)) else (if a0 = 7 then (some (⟨#[100, 117, 112]⟩ : ByteArray)) else (if a0 = 8 then (some (⟨#[115, 119, 97, 112]⟩ : ByteArray)) else (if a0 = 9 then (some (⟨#[97, 100, 100]⟩ : ByteArray)) else (if a0 = 10 then (some (⟨#[115, 117, 98]⟩ : ByteArray)) else (if a0 = 11 then (some (⟨#[109, 117, 108]⟩ : ByteArray)) else (if a0 = 12 then (some (⟨#[100, 105, 118]⟩ : ByteArray)) else (if a0 = 13 then (some (⟨#[114, 101, 109]⟩ : ByteArray)) else (if a0 = 14 then (some (⟨#[108, 101, 115, 115]⟩ : ByteArray)) else (if a0 = 15 then (some (⟨#[115, 97, 109, 101]⟩ : ByteArray)) else (if a0 = 16 then (some (⟨#[112, 97, 105, 114]⟩ : ByteArray)) else (if a0 = 17 then (some (⟨#[114, 101]⟩ : ByteArray)) else (if a0 = 18 then (some (⟨#[105, 109]⟩ : ByteArray)) else (if a0 = 19 then (some (⟨#[112, 97, 100, 100]⟩ : ByteArray)) else (if a0 = 20 then (some (⟨#[112, 109, 117, 108]⟩ : ByteArray)) else (if a0 = 21 then (some (⟨#[99, 111, 110, 106]⟩ : ByteArray)) else (if a0 = 22 then (some (⟨#[110, 101, 119]⟩ : ByteArray)) else (if a0 = 23 then (some (⟨#[97, 116]⟩ : ByteArray)) else (if a0 = 24 then (some (⟨#[112, 117, 116]⟩ : ByteArray)) else (if a0 = 25 then (some (⟨#[108, 101, 110]⟩ : ByteArray)) else (if a0 = 26 then (some (⟨#[106, 117, 109, 112]⟩ : ByteArray)) else (if a0 = 27 then (some (⟨#[122, 101, 114, 111]⟩ : ByteArray)) else (if a0 = 28 then (some (⟨#[108, 111, 111, 112]⟩ : ByteArray)) else (if a0 = 29 then (some (⟨#[97, 103, 97, 105, 110]⟩ : ByteArray)) else (if a0 = 30 then (some (⟨#[99, 97, 108, 108]⟩ : ByteArray)) else (if a0 = 31 then (some (⟨#[114, 101, 116]⟩ : ByteArray)) else (if a0 = 32 then (some (⟨#[116, 114, 97, 112]⟩ : ByteArray)) else (some (⟨#[]⟩ : ByteArray))))))))))))))))))))))))))))))))))
set_option maxHeartbeats 8000000 in
set_option maxRecDepth 100000 in
theorem capstanref04_Name.calls (a0 : Int) (r : ByteArray) (w : World) (h : capstanref04_Name.f a0 = some r) :
    Calls Tryd.prog 15 #[.int .u8 a0] w fun e w' => e = .returned (.string r) ∧ Drawn0 w w' := by
  have H : (if a0 = 0 then (some (⟨#[110, 111, 112]⟩ : ByteArray)) else (if a0 = 1 then (some (⟨#[99, 111, 110, 115, 116]⟩ : ByteArray)) else (if a0 = 2 then (some (⟨#[103, 101, 116]⟩ : ByteArray)) else (if a0 = 3 then (some (⟨#[115, 101, 116]⟩ : ByteArray)) else (if a0 = 4 then (some (⟨#[108, 111, 97, 100]⟩ : ByteArray)) else (if a0 = 5 then (some (⟨#[115, 116, 111, 114, 101]⟩ : ByteArray)) else (if a0 = 6 then (some (⟨#[112, 111, 112]⟩ : ByteArray)) else (if a0 = 7 then (some (⟨#[100, 117, 112]⟩ : ByteArray)) else (if a0 = 8 then (some (⟨#[115, 119, 97, 112]⟩ : ByteArray)) else (if a0 = 9 then (some (⟨#[97, 100, 100]⟩ : ByteArray)) else (if a0 = 10 then (some (⟨#[115, 117, 98]⟩ : ByteArray)) else (if a0 = 11 then (some (⟨#[109, 117, 108]⟩ : ByteArray)) else (if a0 = 12 then (some (⟨#[100, 105, 118]⟩ : ByteArray)) else (if a0 = 13 then (some (⟨#[114, 101, 109]⟩ : ByteArray)) else (if a0 = 14 then (some (⟨#[108, 101, 115, 115]⟩ : ByteArray)) else (if a0 = 15 then (some (⟨#[115, 97, 109, 101]⟩ : ByteArray)) else (if a0 = 16 then (some (⟨#[112, 97, 105, 114]⟩ : ByteArray)) else (if a0 = 17 then (some (⟨#[114, 101]⟩ : ByteArray)) else (if a0 = 18 then (some (⟨#[105, 109]⟩ : ByteArray)) else (if a0 = 19 then (some (⟨#[112, 97, 100, 100]⟩ : ByteArray)) else (if a0 = 20 then (some (⟨#[112, 109, 117, 108]⟩ : ByteArray)) else (if a0 = 21 then (some (⟨#[99, 111, 110, 106]⟩ : ByteArray)) else (if a0 = 22 then (some (⟨#[110, 101, 119]⟩ : ByteArray)) else (if a0 = 23 then (some (⟨#[97, 116]⟩ : ByteArray)) else (if a0 = 24 then (some (⟨#[112, 117, 116]⟩ : ByteArray)) else (if a0 = 25 then (some (⟨#[108, 101, 110]⟩ : ByteArray)) else (if a0 = 26 then (some (⟨#[106, 117, 109, 112]⟩ : ByteArray)) else (if a0 = 27 then (some (⟨#[122, 101, 114, 111]⟩ : ByteArray)) else (if a0 = 28 then (some (⟨#[108, 111, 111, 112]⟩ : ByteArray)) else (if a0 = 29 then (some (⟨#[97, 103, 97, 105, 110]⟩ : ByteArray)) else (if a0 = 30 then (some (⟨#[99, 97, 108, 108]⟩ : ByteArray)) else (if a0 = 31 then (some (⟨#[114, 101, 116]⟩ : ByteArray)) else (if a0 = 32 then (some (⟨#[116, 114, 97, 112]⟩ : ByteArray)) else (some (⟨#[]⟩ : ByteArray))))))))))))))))))))))))))))))))))) = some r := h
  clear h
  by_cases c2 : a0 = 0
  · rw [if_pos c2] at H
    have c2b0 : (a0 == 0) = true := beq_iff_eq.mpr c2
    have c2b1 : (a0 != 0) = false := bne_eq_false_iff_eq.mpr c2
    clear c2
    obtain rfl := Option.some.inj H
    go_enter Tryd.func15, Tryd.ntmps15
    go_wp2
    go_ret
    exact ⟨by first | rfl | (simp; done) | (simp [*]; done), by repeat (first | exact Drawn0.refl _ | apply Drawn0.step)⟩
  · rw [if_neg c2] at H
    have c2b0 : (a0 == 0) = false := beq_eq_false_iff_ne.mpr c2
    have c2b1 : (a0 != 0) = true := bne_iff_ne.mpr c2
    by_cases c3 : a0 = 1
    · rw [if_pos c3] at H
      have c3b0 : (a0 == 1) = true := beq_iff_eq.mpr c3
      have c3b1 : (a0 != 1) = false := bne_eq_false_iff_eq.mpr c3
      clear c3
      obtain rfl := Option.some.inj H
      go_enter Tryd.func15, Tryd.ntmps15
      go_wp2
      go_ret
      exact ⟨by first | rfl | (simp; done) | (simp [*]; done), by repeat (first | exact Drawn0.refl _ | apply Drawn0.step)⟩
    · rw [if_neg c3] at H
      have c3b0 : (a0 == 1) = false := beq_eq_false_iff_ne.mpr c3
      have c3b1 : (a0 != 1) = true := bne_iff_ne.mpr c3
      by_cases c4 : a0 = 2
      · rw [if_pos c4] at H
        have c4b0 : (a0 == 2) = true := beq_iff_eq.mpr c4
        have c4b1 : (a0 != 2) = false := bne_eq_false_iff_eq.mpr c4
        clear c4
        obtain rfl := Option.some.inj H
        go_enter Tryd.func15, Tryd.ntmps15
        go_wp2
        go_ret
        exact ⟨by first | rfl | (simp; done) | (simp [*]; done), by repeat (first | exact Drawn0.refl _ | apply Drawn0.step)⟩
      · rw [if_neg c4] at H
        have c4b0 : (a0 == 2) = false := beq_eq_false_iff_ne.mpr c4
        have c4b1 : (a0 != 2) = true := bne_iff_ne.mpr c4
        by_cases c5 : a0 = 3
        · rw [if_pos c5] at H
          have c5b0 : (a0 == 3) = true := beq_iff_eq.mpr c5
          have c5b1 : (a0 != 3) = false := bne_eq_false_iff_eq.mpr c5
          clear c5
          obtain rfl := Option.some.inj H
          go_enter Tryd.func15, Tryd.ntmps15
          go_wp2
          go_ret
          exact ⟨by first | rfl | (simp; done) | (simp [*]; done), by repeat (first | exact Drawn0.refl _ | apply Drawn0.step)⟩
        · rw [if_neg c5] at H
          have c5b0 : (a0 == 3) = false := beq_eq_false_iff_ne.mpr c5
          have c5b1 : (a0 != 3) = true := bne_iff_ne.mpr c5
          by_cases c6 : a0 = 4
          · rw [if_pos c6] at H
            have c6b0 : (a0 == 4) = true := beq_iff_eq.mpr c6
            have c6b1 : (a0 != 4) = false := bne_eq_false_iff_eq.mpr c6
            clear c6
            obtain rfl := Option.some.inj H
            go_enter Tryd.func15, Tryd.ntmps15
            go_wp2
            go_ret
            exact ⟨by first | rfl | (simp; done) | (simp [*]; done), by repeat (first | exact Drawn0.refl _ | apply Drawn0.step)⟩
          · rw [if_neg c6] at H
            have c6b0 : (a0 == 4) = false := beq_eq_false_iff_ne.mpr c6
            have c6b1 : (a0 != 4) = true := bne_iff_ne.mpr c6
            by_cases c7 : a0 = 5
            · rw [if_pos c7] at H
              have c7b0 : (a0 == 5) = true := beq_iff_eq.mpr c7
              have c7b1 : (a0 != 5) = false := bne_eq_false_iff_eq.mpr c7
              clear c7
              obtain rfl := Option.some.inj H
              go_enter Tryd.func15, Tryd.ntmps15
              go_wp2
              go_ret
              exact ⟨by first | rfl | (simp; done) | (simp [*]; done), by repeat (first | exact Drawn0.refl _ | apply Drawn0.step)⟩
            · rw [if_neg c7] at H
              have c7b0 : (a0 == 5) = false := beq_eq_false_iff_ne.mpr c7
              have c7b1 : (a0 != 5) = true := bne_iff_ne.mpr c7
              by_cases c8 : a0 = 6
              · rw [if_pos c8] at H
                have c8b0 : (a0 == 6) = true := beq_iff_eq.mpr c8
                have c8b1 : (a0 != 6) = false := bne_eq_false_iff_eq.mpr c8
                clear c8
                obtain rfl := Option.some.inj H
                go_enter Tryd.func15, Tryd.ntmps15
                go_wp2
                go_ret
                exact ⟨by first | rfl | (simp; done) | (simp [*]; done), by repeat (first | exact Drawn0.refl _ | apply Drawn0.step)⟩
              · rw [if_neg c8] at H
                have c8b0 : (a0 == 6) = false := beq_eq_false_iff_ne.mpr c8
                have c8b1 : (a0 != 6) = true := bne_iff_ne.mpr c8
                by_cases c9 : a0 = 7
                · rw [if_pos c9] at H
                  have c9b0 : (a0 == 7) = true := beq_iff_eq.mpr c9
                  have c9b1 : (a0 != 7) = false := bne_eq_false_iff_eq.mpr c9
                  clear c9
                  obtain rfl := Option.some.inj H
                  go_enter Tryd.func15, Tryd.ntmps15
                  go_wp2
                  go_ret
                  exact ⟨by first | rfl | (simp; done) | (simp [*]; done), by repeat (first | exact Drawn0.refl _ | apply Drawn0.step)⟩
                · rw [if_neg c9] at H
                  have c9b0 : (a0 == 7) = false := beq_eq_false_iff_ne.mpr c9
                  have c9b1 : (a0 != 7) = true := bne_iff_ne.mpr c9
                  by_cases c10 : a0 = 8
                  · rw [if_pos c10] at H
                    have c10b0 : (a0 == 8) = true := beq_iff_eq.mpr c10
                    have c10b1 : (a0 != 8) = false := bne_eq_false_iff_eq.mpr c10
                    clear c10
                    obtain rfl := Option.some.inj H
                    go_enter Tryd.func15, Tryd.ntmps15
                    go_wp2
                    go_ret
                    exact ⟨by first | rfl | (simp; done) | (simp [*]; done), by repeat (first | exact Drawn0.refl _ | apply Drawn0.step)⟩
                  · rw [if_neg c10] at H
                    have c10b0 : (a0 == 8) = false := beq_eq_false_iff_ne.mpr c10
                    have c10b1 : (a0 != 8) = true := bne_iff_ne.mpr c10
                    by_cases c11 : a0 = 9
                    · rw [if_pos c11] at H
                      have c11b0 : (a0 == 9) = true := beq_iff_eq.mpr c11
                      have c11b1 : (a0 != 9) = false := bne_eq_false_iff_eq.mpr c11
                      clear c11
                      obtain rfl := Option.some.inj H
                      go_enter Tryd.func15, Tryd.ntmps15
                      go_wp2
                      go_ret
                      exact ⟨by first | rfl | (simp; done) | (simp [*]; done), by repeat (first | exact Drawn0.refl _ | apply Drawn0.step)⟩
                    · rw [if_neg c11] at H
                      have c11b0 : (a0 == 9) = false := beq_eq_false_iff_ne.mpr c11
                      have c11b1 : (a0 != 9) = true := bne_iff_ne.mpr c11
                      by_cases c12 : a0 = 10
                      · rw [if_pos c12] at H
                        have c12b0 : (a0 == 10) = true := beq_iff_eq.mpr c12
                        have c12b1 : (a0 != 10) = false := bne_eq_false_iff_eq.mpr c12
                        clear c12
                        obtain rfl := Option.some.inj H
                        go_enter Tryd.func15, Tryd.ntmps15
                        go_wp2
                        go_ret
                        exact ⟨by first | rfl | (simp; done) | (simp [*]; done), by repeat (first | exact Drawn0.refl _ | apply Drawn0.step)⟩
                      · rw [if_neg c12] at H
                        have c12b0 : (a0 == 10) = false := beq_eq_false_iff_ne.mpr c12
                        have c12b1 : (a0 != 10) = true := bne_iff_ne.mpr c12
                        by_cases c13 : a0 = 11
                        · rw [if_pos c13] at H
                          have c13b0 : (a0 == 11) = true := beq_iff_eq.mpr c13
                          have c13b1 : (a0 != 11) = false := bne_eq_false_iff_eq.mpr c13
                          clear c13
                          obtain rfl := Option.some.inj H
                          go_enter Tryd.func15, Tryd.ntmps15
                          go_wp2
                          go_ret
                          exact ⟨by first | rfl | (simp; done) | (simp [*]; done), by repeat (first | exact Drawn0.refl _ | apply Drawn0.step)⟩
                        · rw [if_neg c13] at H
                          have c13b0 : (a0 == 11) = false := beq_eq_false_iff_ne.mpr c13
                          have c13b1 : (a0 != 11) = true := bne_iff_ne.mpr c13
                          by_cases c14 : a0 = 12
                          · rw [if_pos c14] at H
                            have c14b0 : (a0 == 12) = true := beq_iff_eq.mpr c14
                            have c14b1 : (a0 != 12) = false := bne_eq_false_iff_eq.mpr c14
                            clear c14
                            obtain rfl := Option.some.inj H
                            go_enter Tryd.func15, Tryd.ntmps15
                            go_wp2
                            go_ret
                            exact ⟨by first | rfl | (simp; done) | (simp [*]; done), by repeat (first | exact Drawn0.refl _ | apply Drawn0.step)⟩
                          · rw [if_neg c14] at H
                            have c14b0 : (a0 == 12) = false := beq_eq_false_iff_ne.mpr c14
                            have c14b1 : (a0 != 12) = true := bne_iff_ne.mpr c14
                            by_cases c15 : a0 = 13
                            · rw [if_pos c15] at H
                              have c15b0 : (a0 == 13) = true := beq_iff_eq.mpr c15
                              have c15b1 : (a0 != 13) = false := bne_eq_false_iff_eq.mpr c15
                              clear c15
                              obtain rfl := Option.some.inj H
                              go_enter Tryd.func15, Tryd.ntmps15
                              go_wp2
                              go_ret
                              exact ⟨by first | rfl | (simp; done) | (simp [*]; done), by repeat (first | exact Drawn0.refl _ | apply Drawn0.step)⟩
                            · rw [if_neg c15] at H
                              have c15b0 : (a0 == 13) = false := beq_eq_false_iff_ne.mpr c15
                              have c15b1 : (a0 != 13) = true := bne_iff_ne.mpr c15
                              by_cases c16 : a0 = 14
                              · rw [if_pos c16] at H
                                have c16b0 : (a0 == 14) = true := beq_iff_eq.mpr c16
                                have c16b1 : (a0 != 14) = false := bne_eq_false_iff_eq.mpr c16
                                clear c16
                                obtain rfl := Option.some.inj H
                                go_enter Tryd.func15, Tryd.ntmps15
                                go_wp2
                                go_ret
                                exact ⟨by first | rfl | (simp; done) | (simp [*]; done), by repeat (first | exact Drawn0.refl _ | apply Drawn0.step)⟩
                              · rw [if_neg c16] at H
                                have c16b0 : (a0 == 14) = false := beq_eq_false_iff_ne.mpr c16
                                have c16b1 : (a0 != 14) = true := bne_iff_ne.mpr c16
                                by_cases c17 : a0 = 15
                                · rw [if_pos c17] at H
                                  have c17b0 : (a0 == 15) = true := beq_iff_eq.mpr c17
                                  have c17b1 : (a0 != 15) = false := bne_eq_false_iff_eq.mpr c17
                                  clear c17
                                  obtain rfl := Option.some.inj H
                                  go_enter Tryd.func15, Tryd.ntmps15
                                  go_wp2
                                  go_ret
                                  exact ⟨by first | rfl | (simp; done) | (simp [*]; done), by repeat (first | exact Drawn0.refl _ | apply Drawn0.step)⟩
                                · rw [if_neg c17] at H
                                  have c17b0 : (a0 == 15) = false := beq_eq_false_iff_ne.mpr c17
                                  have c17b1 : (a0 != 15) = true := bne_iff_ne.mpr c17
                                  by_cases c18 : a0 = 16
                                  · rw [if_pos c18] at H
                                    have c18b0 : (a0 == 16) = true := beq_iff_eq.mpr c18
                                    have c18b1 : (a0 != 16) = false := bne_eq_false_iff_eq.mpr c18
                                    clear c18
                                    obtain rfl := Option.some.inj H
                                    go_enter Tryd.func15, Tryd.ntmps15
                                    go_wp2
                                    go_ret
                                    exact ⟨by first | rfl | (simp; done) | (simp [*]; done), by repeat (first | exact Drawn0.refl _ | apply Drawn0.step)⟩
                                  · rw [if_neg c18] at H
                                    have c18b0 : (a0 == 16) = false := beq_eq_false_iff_ne.mpr c18
                                    have c18b1 : (a0 != 16) = true := bne_iff_ne.mpr c18
                                    by_cases c19 : a0 = 17
                                    · rw [if_pos c19] at H
                                      have c19b0 : (a0 == 17) = true := beq_iff_eq.mpr c19
                                      have c19b1 : (a0 != 17) = false := bne_eq_false_iff_eq.mpr c19
                                      clear c19
                                      obtain rfl := Option.some.inj H
                                      go_enter Tryd.func15, Tryd.ntmps15
                                      go_wp2
                                      go_ret
                                      exact ⟨by first | rfl | (simp; done) | (simp [*]; done), by repeat (first | exact Drawn0.refl _ | apply Drawn0.step)⟩
                                    · rw [if_neg c19] at H
                                      have c19b0 : (a0 == 17) = false := beq_eq_false_iff_ne.mpr c19
                                      have c19b1 : (a0 != 17) = true := bne_iff_ne.mpr c19
                                      by_cases c20 : a0 = 18
                                      · rw [if_pos c20] at H
                                        have c20b0 : (a0 == 18) = true := beq_iff_eq.mpr c20
                                        have c20b1 : (a0 != 18) = false := bne_eq_false_iff_eq.mpr c20
                                        clear c20
                                        obtain rfl := Option.some.inj H
                                        go_enter Tryd.func15, Tryd.ntmps15
                                        go_wp2
                                        go_ret
                                        exact ⟨by first | rfl | (simp; done) | (simp [*]; done), by repeat (first | exact Drawn0.refl _ | apply Drawn0.step)⟩
                                      · rw [if_neg c20] at H
                                        have c20b0 : (a0 == 18) = false := beq_eq_false_iff_ne.mpr c20
                                        have c20b1 : (a0 != 18) = true := bne_iff_ne.mpr c20
                                        by_cases c21 : a0 = 19
                                        · rw [if_pos c21] at H
                                          have c21b0 : (a0 == 19) = true := beq_iff_eq.mpr c21
                                          have c21b1 : (a0 != 19) = false := bne_eq_false_iff_eq.mpr c21
                                          clear c21
                                          obtain rfl := Option.some.inj H
                                          go_enter Tryd.func15, Tryd.ntmps15
                                          go_wp2
                                          go_ret
                                          exact ⟨by first | rfl | (simp; done) | (simp [*]; done), by repeat (first | exact Drawn0.refl _ | apply Drawn0.step)⟩
                                        · rw [if_neg c21] at H
                                          have c21b0 : (a0 == 19) = false := beq_eq_false_iff_ne.mpr c21
                                          have c21b1 : (a0 != 19) = true := bne_iff_ne.mpr c21
                                          by_cases c22 : a0 = 20
                                          · rw [if_pos c22] at H
                                            have c22b0 : (a0 == 20) = true := beq_iff_eq.mpr c22
                                            have c22b1 : (a0 != 20) = false := bne_eq_false_iff_eq.mpr c22
                                            clear c22
                                            obtain rfl := Option.some.inj H
                                            go_enter Tryd.func15, Tryd.ntmps15
                                            go_wp2
                                            go_ret
                                            exact ⟨by first | rfl | (simp; done) | (simp [*]; done), by repeat (first | exact Drawn0.refl _ | apply Drawn0.step)⟩
                                          · rw [if_neg c22] at H
                                            have c22b0 : (a0 == 20) = false := beq_eq_false_iff_ne.mpr c22
                                            have c22b1 : (a0 != 20) = true := bne_iff_ne.mpr c22
                                            by_cases c23 : a0 = 21
                                            · rw [if_pos c23] at H
                                              have c23b0 : (a0 == 21) = true := beq_iff_eq.mpr c23
                                              have c23b1 : (a0 != 21) = false := bne_eq_false_iff_eq.mpr c23
                                              clear c23
                                              obtain rfl := Option.some.inj H
                                              go_enter Tryd.func15, Tryd.ntmps15
                                              go_wp2
                                              go_ret
                                              exact ⟨by first | rfl | (simp; done) | (simp [*]; done), by repeat (first | exact Drawn0.refl _ | apply Drawn0.step)⟩
                                            · rw [if_neg c23] at H
                                              have c23b0 : (a0 == 21) = false := beq_eq_false_iff_ne.mpr c23
                                              have c23b1 : (a0 != 21) = true := bne_iff_ne.mpr c23
                                              by_cases c24 : a0 = 22
                                              · rw [if_pos c24] at H
                                                have c24b0 : (a0 == 22) = true := beq_iff_eq.mpr c24
                                                have c24b1 : (a0 != 22) = false := bne_eq_false_iff_eq.mpr c24
                                                clear c24
                                                obtain rfl := Option.some.inj H
                                                go_enter Tryd.func15, Tryd.ntmps15
                                                go_wp2
                                                go_ret
                                                exact ⟨by first | rfl | (simp; done) | (simp [*]; done), by repeat (first | exact Drawn0.refl _ | apply Drawn0.step)⟩
                                              · rw [if_neg c24] at H
                                                have c24b0 : (a0 == 22) = false := beq_eq_false_iff_ne.mpr c24
                                                have c24b1 : (a0 != 22) = true := bne_iff_ne.mpr c24
                                                by_cases c25 : a0 = 23
                                                · rw [if_pos c25] at H
                                                  have c25b0 : (a0 == 23) = true := beq_iff_eq.mpr c25
                                                  have c25b1 : (a0 != 23) = false := bne_eq_false_iff_eq.mpr c25
                                                  clear c25
                                                  obtain rfl := Option.some.inj H
                                                  go_enter Tryd.func15, Tryd.ntmps15
                                                  go_wp2
                                                  go_ret
                                                  exact ⟨by first | rfl | (simp; done) | (simp [*]; done), by repeat (first | exact Drawn0.refl _ | apply Drawn0.step)⟩
                                                · rw [if_neg c25] at H
                                                  have c25b0 : (a0 == 23) = false := beq_eq_false_iff_ne.mpr c25
                                                  have c25b1 : (a0 != 23) = true := bne_iff_ne.mpr c25
                                                  by_cases c26 : a0 = 24
                                                  · rw [if_pos c26] at H
                                                    have c26b0 : (a0 == 24) = true := beq_iff_eq.mpr c26
                                                    have c26b1 : (a0 != 24) = false := bne_eq_false_iff_eq.mpr c26
                                                    clear c26
                                                    obtain rfl := Option.some.inj H
                                                    go_enter Tryd.func15, Tryd.ntmps15
                                                    go_wp2
                                                    go_ret
                                                    exact ⟨by first | rfl | (simp; done) | (simp [*]; done), by repeat (first | exact Drawn0.refl _ | apply Drawn0.step)⟩
                                                  · rw [if_neg c26] at H
                                                    have c26b0 : (a0 == 24) = false := beq_eq_false_iff_ne.mpr c26
                                                    have c26b1 : (a0 != 24) = true := bne_iff_ne.mpr c26
                                                    by_cases c27 : a0 = 25
                                                    · rw [if_pos c27] at H
                                                      have c27b0 : (a0 == 25) = true := beq_iff_eq.mpr c27
                                                      have c27b1 : (a0 != 25) = false := bne_eq_false_iff_eq.mpr c27
                                                      clear c27
                                                      obtain rfl := Option.some.inj H
                                                      go_enter Tryd.func15, Tryd.ntmps15
                                                      go_wp2
                                                      go_ret
                                                      exact ⟨by first | rfl | (simp; done) | (simp [*]; done), by repeat (first | exact Drawn0.refl _ | apply Drawn0.step)⟩
                                                    · rw [if_neg c27] at H
                                                      have c27b0 : (a0 == 25) = false := beq_eq_false_iff_ne.mpr c27
                                                      have c27b1 : (a0 != 25) = true := bne_iff_ne.mpr c27
                                                      by_cases c28 : a0 = 26
                                                      · rw [if_pos c28] at H
                                                        have c28b0 : (a0 == 26) = true := beq_iff_eq.mpr c28
                                                        have c28b1 : (a0 != 26) = false := bne_eq_false_iff_eq.mpr c28
                                                        clear c28
                                                        obtain rfl := Option.some.inj H
                                                        go_enter Tryd.func15, Tryd.ntmps15
                                                        go_wp2
                                                        go_ret
                                                        exact ⟨by first | rfl | (simp; done) | (simp [*]; done), by repeat (first | exact Drawn0.refl _ | apply Drawn0.step)⟩
                                                      · rw [if_neg c28] at H
                                                        have c28b0 : (a0 == 26) = false := beq_eq_false_iff_ne.mpr c28
                                                        have c28b1 : (a0 != 26) = true := bne_iff_ne.mpr c28
                                                        by_cases c29 : a0 = 27
                                                        · rw [if_pos c29] at H
                                                          have c29b0 : (a0 == 27) = true := beq_iff_eq.mpr c29
                                                          have c29b1 : (a0 != 27) = false := bne_eq_false_iff_eq.mpr c29
                                                          clear c29
                                                          obtain rfl := Option.some.inj H
                                                          go_enter Tryd.func15, Tryd.ntmps15
                                                          go_wp2
                                                          go_ret
                                                          exact ⟨by first | rfl | (simp; done) | (simp [*]; done), by repeat (first | exact Drawn0.refl _ | apply Drawn0.step)⟩
                                                        · rw [if_neg c29] at H
                                                          have c29b0 : (a0 == 27) = false := beq_eq_false_iff_ne.mpr c29
                                                          have c29b1 : (a0 != 27) = true := bne_iff_ne.mpr c29
                                                          by_cases c30 : a0 = 28
                                                          · rw [if_pos c30] at H
                                                            have c30b0 : (a0 == 28) = true := beq_iff_eq.mpr c30
                                                            have c30b1 : (a0 != 28) = false := bne_eq_false_iff_eq.mpr c30
                                                            clear c30
                                                            obtain rfl := Option.some.inj H
                                                            go_enter Tryd.func15, Tryd.ntmps15
                                                            go_wp2
                                                            go_ret
                                                            exact ⟨by first | rfl | (simp; done) | (simp [*]; done), by repeat (first | exact Drawn0.refl _ | apply Drawn0.step)⟩
                                                          · rw [if_neg c30] at H
                                                            have c30b0 : (a0 == 28) = false := beq_eq_false_iff_ne.mpr c30
                                                            have c30b1 : (a0 != 28) = true := bne_iff_ne.mpr c30
                                                            by_cases c31 : a0 = 29
                                                            · rw [if_pos c31] at H
                                                              have c31b0 : (a0 == 29) = true := beq_iff_eq.mpr c31
                                                              have c31b1 : (a0 != 29) = false := bne_eq_false_iff_eq.mpr c31
                                                              clear c31
                                                              obtain rfl := Option.some.inj H
                                                              go_enter Tryd.func15, Tryd.ntmps15
                                                              go_wp2
                                                              go_ret
                                                              exact ⟨by first | rfl | (simp; done) | (simp [*]; done), by repeat (first | exact Drawn0.refl _ | apply Drawn0.step)⟩
                                                            · rw [if_neg c31] at H
                                                              have c31b0 : (a0 == 29) = false := beq_eq_false_iff_ne.mpr c31
                                                              have c31b1 : (a0 != 29) = true := bne_iff_ne.mpr c31
                                                              by_cases c32 : a0 = 30
                                                              · rw [if_pos c32] at H
                                                                have c32b0 : (a0 == 30) = true := beq_iff_eq.mpr c32
                                                                have c32b1 : (a0 != 30) = false := bne_eq_false_iff_eq.mpr c32
                                                                clear c32
                                                                obtain rfl := Option.some.inj H
                                                                go_enter Tryd.func15, Tryd.ntmps15
                                                                go_wp2
                                                                go_ret
                                                                exact ⟨by first | rfl | (simp; done) | (simp [*]; done), by repeat (first | exact Drawn0.refl _ | apply Drawn0.step)⟩
                                                              · rw [if_neg c32] at H
                                                                have c32b0 : (a0 == 30) = false := beq_eq_false_iff_ne.mpr c32
                                                                have c32b1 : (a0 != 30) = true := bne_iff_ne.mpr c32
                                                                by_cases c33 : a0 = 31
                                                                · rw [if_pos c33] at H
                                                                  have c33b0 : (a0 == 31) = true := beq_iff_eq.mpr c33
                                                                  have c33b1 : (a0 != 31) = false := bne_eq_false_iff_eq.mpr c33
                                                                  clear c33
                                                                  obtain rfl := Option.some.inj H
                                                                  go_enter Tryd.func15, Tryd.ntmps15
                                                                  go_wp2
                                                                  go_ret
                                                                  exact ⟨by first | rfl | (simp; done) | (simp [*]; done), by repeat (first | exact Drawn0.refl _ | apply Drawn0.step)⟩
                                                                · rw [if_neg c33] at H
                                                                  have c33b0 : (a0 == 31) = false := beq_eq_false_iff_ne.mpr c33
                                                                  have c33b1 : (a0 != 31) = true := bne_iff_ne.mpr c33
                                                                  by_cases c34 : a0 = 32
                                                                  · rw [if_pos c34] at H
                                                                    have c34b0 : (a0 == 32) = true := beq_iff_eq.mpr c34
                                                                    have c34b1 : (a0 != 32) = false := bne_eq_false_iff_eq.mpr c34
                                                                    clear c34
                                                                    obtain rfl := Option.some.inj H
                                                                    go_enter Tryd.func15, Tryd.ntmps15
                                                                    go_wp2
                                                                    go_ret
                                                                    exact ⟨by first | rfl | (simp; done) | (simp [*]; done), by repeat (first | exact Drawn0.refl _ | apply Drawn0.step)⟩
                                                                  · rw [if_neg c34] at H
                                                                    have c34b0 : (a0 == 32) = false := beq_eq_false_iff_ne.mpr c34
                                                                    have c34b1 : (a0 != 32) = true := bne_iff_ne.mpr c34
                                                                    obtain rfl := Option.some.inj H
                                                                    go_enter Tryd.func15, Tryd.ntmps15
                                                                    go_wp2
                                                                    go_ret
                                                                    exact ⟨by first | rfl | (simp; done) | (simp [*]; done), by repeat (first | exact Drawn0.refl _ | apply Drawn0.step)⟩

/-! ### capstanref04_Parse: function 9 -/
def capstanref04_Parse.l0 : Nat → ByteArray → Int → Option (Int × Bool)
  | 0, _, _ => none
  | k + 1, x0, x4 => if x4 < 33 then ((capstanref04_Name.f x4).bind fun t102 => (if t102.toList = x0.toList then (some (x4, true)) else (capstanref04_Parse.l0 k x0 ((x4 + 1) % 256)))) else (some (0, false))
def capstanref04_Parse.f (k : Nat) (a0 : ByteArray) : Option (Int × Bool) := capstanref04_Parse.l0 k a0 0
theorem capstanref04_Parse.mono_l : ∀ k, (∀ y0 y1, LeO (capstanref04_Parse.l0 k y0 y1) (capstanref04_Parse.l0 (k + 1) y0 y1))
  | 0 => fun _ _ r h => by simp [capstanref04_Parse.l0] at h
  | k + 1 => by
    have ih0 := capstanref04_Parse.mono_l k
    · intro y0 y1
      unfold capstanref04_Parse.l0
      repeat' first
      | (with_reducible exact ih0 _ _)
      | (with_reducible exact LeO.refl _)
      | (with_reducible exact LeO.none _)
      | (with_reducible refine LeO.ite ?_ ?_)
      | (with_reducible refine LeO.bind ?_ (fun _ => ?_))
      | exact ih0 _ _
      | exact LeO.none _
      | refine LeO.ite ?_ ?_
      | refine LeO.bind ?_ (fun _ => ?_)
theorem capstanref04_Parse.mono : ∀ a0 k, LeO (capstanref04_Parse.f k a0) (capstanref04_Parse.f (k + 1) a0) := by
  intro a0 k
  have ih0 := capstanref04_Parse.mono_l k
  unfold capstanref04_Parse.f
  repeat' first
      | (with_reducible exact ih0 _ _)
      | (with_reducible exact LeO.refl _)
      | (with_reducible exact LeO.none _)
      | (with_reducible refine LeO.ite ?_ ?_)
      | (with_reducible refine LeO.bind ?_ (fun _ => ?_))
      | exact ih0 _ _
      | exact LeO.none _
      | refine LeO.ite ?_ ?_
      | refine LeO.bind ?_ (fun _ => ?_)
set_option maxHeartbeats 8000000 in
set_option maxRecDepth 100000 in
theorem capstanref04_Parse.calls (k : Nat) (a0 : ByteArray) (r1 : Int) (r2 : Bool) (w : World) (h : capstanref04_Parse.f k a0 = some (r1, r2)) :
    Calls Tryd.prog 9 #[.string a0] w fun e w' => e = .returned (.tuple #[.int .u8 r1, .bool r2]) ∧ Drawn0 w w' := by
  have H : (capstanref04_Parse.l0 k a0 0) = some (r1, r2) := h
  clear h
  have H' := Aside0.mk H
  clear H
  go_enter Tryd.func9, Tryd.ntmps9
  go_wp2
  go_loopg [4] k (fun kq v4 w' => ∃ (x4_1 : Int), v4 = .int .u8 x4_1 ∧ Aside0 (capstanref04_Parse.l0 kq a0 x4_1 = some (r1, r2)) ∧ Aside0 (kq ≤ k) ∧ Drawn0 w w')
  case atStart => exact ⟨(0), (by first | rfl | (simp; done) | (simp [*]; done)), H', ⟨Nat.le_refl _⟩, by repeat (first | exact Drawn0.refl _ | apply Drawn0.step)⟩
  case round =>
    clear H'
    obtain ⟨x4_1, rfl, HA, HK1, ⟨m1, rfl⟩⟩ := hrel
    cases gk with
    | zero => exact absurd HA.out (by simp [capstanref04_Parse.l0])
    | succ k1 =>
      have H := HA.out
      clear HA
      simp only [capstanref04_Parse.l0] at H
      by_cases c2 : x4_1 < 33
      · rw [if_pos c2] at H
        have c2b0 : decide (x4_1 < 33) = true := decide_eq_true c2
        clear c2
        replace H := Option.bind_eq_some_iff.mp H
        obtain ⟨t102, A30, H⟩ := H
        replace H : (if t102.toList = a0.toList then (some (x4_1, true)) else (capstanref04_Parse.l0 k1 a0 ((x4_1 + 1) % 256))) = some (r1, r2) := H
        have A3 := Aside0.mk A30
        clear A30
        by_cases c4 : t102.toList = a0.toList
        · rw [if_pos c4] at H
          have c4b0 : (t102.toList == a0.toList) = true := beq_iff_eq.mpr c4
          have c4b1 : (t102.toList != a0.toList) = false := bne_eq_false_iff_eq.mpr c4
          clear c4
          simp only [Option.some.injEq, Prod.mk.injEq] at H
          obtain ⟨rfl, rfl⟩ := H
          go_wp2_with (first | ((with_reducible refine gate_callee (f := 15) rfl ?_); refine goesL_ (some 10) rfl rfl Tryd.func15 (by kernel_rfl) rfl #[.int .u8 x4_1] rfl (by (try simp only [List.map_toArray, List.map_cons, List.map_nil]); first | done | rfl | (simp only [List.length_drop, List.length_take]; rfl)) ?_; (with_reducible refine (capstanref04_Name.calls x4_1 t102 _ A3.out).mono ?_); rintro e w' ⟨rfl, ⟨nd, rfl⟩⟩; refine ⟨_, rfl, ?_⟩))
          go_ret2
          exact ⟨by first | rfl | (simp; done) | (simp [*]; done), by repeat (first | exact Drawn0.refl _ | apply Drawn0.step)⟩
        · rw [if_neg c4] at H
          have c4b0 : (t102.toList == a0.toList) = false := beq_eq_false_iff_ne.mpr c4
          have c4b1 : (t102.toList != a0.toList) = true := bne_iff_ne.mpr c4
          have H' := Aside0.mk H
          clear H
          go_wp2_with (first | ((with_reducible refine gate_callee (f := 15) rfl ?_); refine goesL_ (some 10) rfl rfl Tryd.func15 (by kernel_rfl) rfl #[.int .u8 x4_1] rfl (by (try simp only [List.map_toArray, List.map_cons, List.map_nil]); first | done | rfl | (simp only [List.length_drop, List.length_take]; rfl)) ?_; (with_reducible refine (capstanref04_Name.calls x4_1 t102 _ A3.out).mono ?_); rintro e w' ⟨rfl, ⟨nd, rfl⟩⟩; refine ⟨_, rfl, ?_⟩))
          go_roundg k1
          case measure => have := HK1.out; omega
          case rel => exact ⟨((x4_1 + 1) % 256), (by first | rfl | (simp; done) | (simp [*]; done)), H', ⟨by have := HK1.out; omega⟩, by repeat (first | exact Drawn0.refl _ | apply Drawn0.step)⟩
      · rw [if_neg c2] at H
        have c2b0 : decide (x4_1 < 33) = false := decide_eq_false c2
        clear c2
        simp only [Option.some.injEq, Prod.mk.injEq] at H
        obtain ⟨rfl, rfl⟩ := H
        go_wp2
        go_ret2
        exact ⟨by first | rfl | (simp; done) | (simp [*]; done), by repeat (first | exact Drawn0.refl _ | apply Drawn0.step)⟩

/-! ### capstanlaw04_OpParses: function 3 -/
def capstanlaw04_OpParses.f (k : Nat) (a0 : ByteArray) : Option (Bool) := if (a0.size : Int) > 100 then (some true) else ((op_Parse.f k a0).bind fun bt103 => ((capstanref04_Parse.f k a0).bind fun bt105 => (if bt103.1 = bt105.1 then (some (bt103.2 == bt105.2)) else (none))))
theorem capstanlaw04_OpParses.mono : ∀ a0 k, LeO (capstanlaw04_OpParses.f k a0) (capstanlaw04_OpParses.f (k + 1) a0) := by
  intro a0 k
  unfold capstanlaw04_OpParses.f
  repeat' first
      | (with_reducible exact capstanref04_Parse.mono _ _)
      | (with_reducible exact op_Parse.mono _ _)
      | (with_reducible exact LeO.refl _)
      | (with_reducible exact LeO.none _)
      | (with_reducible refine LeO.ite ?_ ?_)
      | (with_reducible refine LeO.bind ?_ (fun _ => ?_))
      | exact capstanref04_Parse.mono _ _
      | exact op_Parse.mono _ _
      | exact LeO.none _
      | refine LeO.ite ?_ ?_
      | refine LeO.bind ?_ (fun _ => ?_)
set_option maxHeartbeats 8000000 in
set_option maxRecDepth 100000 in
theorem capstanlaw04_OpParses.calls (k : Nat) (a0 : ByteArray) (r : Bool) (w : World) (hG : Gl w) (h : capstanlaw04_OpParses.f k a0 = some r) :
    Calls Tryd.prog 3 #[.string a0] w fun e w' => e = .returned (.bool r) ∧ Drawn0 w w' := by
  have HG := Aside0.mk hG
  clear hG
  have H : (if (a0.size : Int) > 100 then (some true) else ((op_Parse.f k a0).bind fun bt103 => ((capstanref04_Parse.f k a0).bind fun bt105 => (if bt103.1 = bt105.1 then (some (bt103.2 == bt105.2)) else (none))))) = some r := h
  clear h
  by_cases c2 : (a0.size : Int) > 100
  · rw [if_pos c2] at H
    have c2b0 : decide (100 < (a0.size : Int)) = true := decide_eq_true c2
    have c2b1 : decide (100 < a0.size) = true := decide_eq_true (by omega)
    clear c2
    obtain rfl := Option.some.inj H
    go_enter Tryd.func3, Tryd.ntmps3
    go_wp2
    go_ret
    exact ⟨by first | rfl | (simp; done) | (simp [*]; done), by repeat (first | exact Drawn0.refl _ | apply Drawn0.step)⟩
  · rw [if_neg c2] at H
    have c2b0 : decide (100 < (a0.size : Int)) = false := decide_eq_false c2
    have c2b1 : decide (100 < a0.size) = false := decide_eq_false (by omega)
    clear c2
    replace H := Option.bind_eq_some_iff.mp H
    obtain ⟨⟨t103, t104⟩, A30, H⟩ := H
    replace H : ((capstanref04_Parse.f k a0).bind fun bt105 => (if t103 = bt105.1 then (some (t104 == bt105.2)) else (none))) = some r := H
    have A3 := Aside0.mk A30
    clear A30
    replace H := Option.bind_eq_some_iff.mp H
    obtain ⟨⟨t105, t106⟩, A40, H⟩ := H
    replace H : (if t103 = t105 then (some (t104 == t106)) else (none)) = some r := H
    have A4 := Aside0.mk A40
    clear A40
    by_cases c5 : t103 = t105
    · rw [if_pos c5] at H
      have c5b0 : (t103 == t105) = true := beq_iff_eq.mpr c5
      have c5b1 : (t103 != t105) = false := bne_eq_false_iff_eq.mpr c5
      clear c5
      obtain rfl := Option.some.inj H
      go_enter Tryd.func3, Tryd.ntmps3
      go_wp2_with (first | ((with_reducible refine gate_callee (f := 8) rfl ?_); refine goesL_ (some 12) rfl rfl Tryd.func8 (by kernel_rfl) rfl #[.string a0] rfl (by (try simp only [List.map_toArray, List.map_cons, List.map_nil]); first | done | rfl | (simp only [List.length_drop, List.length_take]; rfl)) ?_; (with_reducible refine (op_Parse.calls k a0 t103 t104 _ ?side1 A3.out).mono ?_); (case side1 => first | exact HG.out | ((repeat (first | exact HG.out | exact Gl.below HG.out HB.out | (with_reducible refine Gl.alloc ?_ _) | (with_reducible refine Gl.drewN ?_ _) | (with_reducible refine Gl.drew ?_))); done) | exact Gl.below HG.out (by repeat (first | (with_reducible first | exact HB.out | apply below_alloc | apply pw_below_drewN | apply below_drew1) | exact HB.out | exact ⟨HB.out.os, HB.out.tape, HB.out.output, HB.out.size, HB.out.block⟩))); rintro e w' ⟨rfl, ⟨nd, rfl⟩⟩; refine ⟨_, rfl, ?_⟩) | ((with_reducible refine gate_callee (f := 9) rfl ?_); refine goesL_ (some 17) rfl rfl Tryd.func9 (by kernel_rfl) rfl #[.string a0] rfl (by (try simp only [List.map_toArray, List.map_cons, List.map_nil]); first | done | rfl | (simp only [List.length_drop, List.length_take]; rfl)) ?_; (with_reducible refine (capstanref04_Parse.calls k a0 t105 t106 _ A4.out).mono ?_); rintro e w' ⟨rfl, ⟨nd, rfl⟩⟩; refine ⟨_, rfl, ?_⟩))
      go_ret
      exact ⟨by first | rfl | (simp; done) | (simp [*]; done), by repeat (first | exact Drawn0.refl _ | apply Drawn0.step)⟩
    · rw [if_neg c5] at H
      exact absurd H (by simp)

/-- THE ONE PURE STATEMENT of capstanlaw04_OpParses: yours. -/
def capstanlaw04_OpParses.Pure : Prop := ∀ (a0 : ByteArray), a0.size ≤ 140737488351232 → ∃ k, capstanlaw04_OpParses.f k a0 = some true
theorem capstanlaw04_OpParses.walk (P : capstanlaw04_OpParses.Pure) (a0 : ByteArray) (w : World) (hG : Gl w) (w0 : a0.size ≤ 140737488351232) :
    Calls Tryd.prog 3 #[.string a0] w fun e w' => e = .returned (.bool true) ∧ Below w.heap.size w w' := by
  obtain ⟨k, h⟩ := P a0 w0
  refine (capstanlaw04_OpParses.calls k a0 true w hG h).mono ?_
  rintro e w' ⟨rfl, hd⟩
  exact ⟨rfl, hd.below⟩

end Go.Proofs.YtahkaekiandchaaDoor.Q
