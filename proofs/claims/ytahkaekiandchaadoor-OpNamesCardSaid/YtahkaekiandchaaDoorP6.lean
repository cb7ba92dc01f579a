/- Contracts of the functions of this seat (each: the call of the function does what the plain Lean function of the same name tells; the conditions stand in each statement). Written by a program of this session and by hand; checked by Lean. -/
import Derived.Test.YtahkaekiandchaaDoorP0
import Derived.Test.YtahkaekiandchaaDoorP1
import Derived.Test.YtahkaekiandchaaDoorP2
import Derived.Test.YtahkaekiandchaaDoorP3
import Derived.Test.YtahkaekiandchaaDoorP4
import Derived.Test.YtahkaekiandchaaDoorP5
namespace Go.Proofs.YtahkaekiandchaaDoor.P
open Go.RowKit Go.Proofs.YtahkaekiandchaaDoorW.PrintWords Go.Proofs.YtahkaekiandchaaDoorW.PrintLast Go.Proofs.YtahkaekiandchaaDoorW.PrintMore
attribute [local go_sem] max2_int min2_int max_two min_two max_three min_three max_four min_four   -- for this text's walks alone
set_option linter.unusedVariables false
set_option linter.unusedSimpArgs false

/-! ### capstanlaw04_OpNames: function 7 -/
mutual
def capstanlaw04_OpNames.j0 : Nat → Int → Int → ByteArray → Option (Bool)
  | 0, _, _, _ => none
  | k + 1, x0, x1, x2 => (op_Known.f x0).bind fun t169 => (if t169 = true then ((op_Known.f x1).bind fun t170 => (if t170 = true then ((op_Name.f x0).bind fun t171 => ((op_Name.f x1).bind fun t172 => (capstanlaw04_OpNames.j1 k x2 ((t171.toList == t172.toList) != (x0 == x1))))) else (capstanlaw04_OpNames.j1 k x2 false))) else (capstanlaw04_OpNames.j1 k x2 false))
def capstanlaw04_OpNames.j1 : Nat → ByteArray → Bool → Option (Bool)
  | 0, _, _ => none
  | k + 1, x2, x68 => if x68 = true then (none) else ((op_Parse.f k x2).bind fun bt173 => (if bt173.2 = true then ((op_Known.f bt173.1).bind fun t175 => (if t175 = true then ((op_Name.f bt173.1).bind fun t176 => (if t176.toList = x2.toList then (some true) else (none))) else (none))) else (some (bt173.1 == 0))))
end
def capstanlaw04_OpNames.f (k : Nat) (a0 : Int) (a1 : Int) (a2 : ByteArray) : Option (Bool) := (capstanlaw04_awake.f k).bind fun t159 => (if t159 = true then (if (a2.size : Int) > 100 then (some true) else ((op_Known.f a0).bind fun t160 => (if t160 = true then ((op_Name.f a0).bind fun t161 => ((op_Parse.f k t161).bind fun bt162 => (if bt162.2 = true then (if bt162.1 = a0 then ((op_Name.f a0).bind fun t164 => (if t164.toList = ([] : List UInt8) then (none) else (capstanlaw04_OpNames.j0 k a0 a1 a2))) else (none)) else (none)))) else ((op_Name.f a0).bind fun t165 => (if t165.toList = ([] : List UInt8) then ((op_May.f k a0 0 0).bind fun t166 => (if t166 = true then (none) else ((op_Goes.f a0).bind fun t167 => (if t167 = true then (none) else ((op_Leads.f k a0).bind fun t168 => (if t168 = true then (none) else (capstanlaw04_OpNames.j0 k a0 a1 a2))))))) else (none)))))) else (none))
theorem capstanlaw04_OpNames.mono_l : ∀ k, (∀ y0 y1 y2, LeO (capstanlaw04_OpNames.j0 k y0 y1 y2) (capstanlaw04_OpNames.j0 (k + 1) y0 y1 y2)) ∧ (∀ y0 y1, LeO (capstanlaw04_OpNames.j1 k y0 y1) (capstanlaw04_OpNames.j1 (k + 1) y0 y1))
  | 0 => ⟨fun _ _ _ r h => by simp [capstanlaw04_OpNames.j0] at h, fun _ _ r h => by simp [capstanlaw04_OpNames.j1] at h⟩
  | k + 1 => by
    obtain ⟨ih0, ih1⟩ := capstanlaw04_OpNames.mono_l k
    refine ⟨?_, ?_⟩
    · intro y0 y1 y2
      unfold capstanlaw04_OpNames.j0
      repeat' first
      | (with_reducible exact ih0 _ _ _)
      | (with_reducible exact ih1 _ _)
      | (with_reducible exact capstanlaw04_awake.mono _)
      | (with_reducible exact op_Leads.mono _ _)
      | (with_reducible exact op_May.mono _ _ _ _)
      | (with_reducible exact op_Parse.mono _ _)
      | (with_reducible exact LeO.refl _)
      | (with_reducible exact LeO.none _)
      | (with_reducible refine LeO.ite ?_ ?_)
      | (with_reducible refine LeO.bind ?_ (fun _ => ?_))
      | exact ih0 _ _ _
      | exact ih1 _ _
      | exact capstanlaw04_awake.mono _
      | exact op_Leads.mono _ _
      | exact op_May.mono _ _ _ _
      | exact op_Parse.mono _ _
      | exact LeO.none _
      | refine LeO.ite ?_ ?_
      | refine LeO.bind ?_ (fun _ => ?_)
    · intro y0 y1
      unfold capstanlaw04_OpNames.j1
      repeat' first
      | (with_reducible exact ih0 _ _ _)
      | (with_reducible exact ih1 _ _)
      | (with_reducible exact capstanlaw04_awake.mono _)
      | (with_reducible exact op_Leads.mono _ _)
      | (with_reducible exact op_May.mono _ _ _ _)
      | (with_reducible exact op_Parse.mono _ _)
      | (with_reducible exact LeO.refl _)
      | (with_reducible exact LeO.none _)
      | (with_reducible refine LeO.ite ?_ ?_)
      | (with_reducible refine LeO.bind ?_ (fun _ => ?_))
      | exact ih0 _ _ _
      | exact ih1 _ _
      | exact capstanlaw04_awake.mono _
      | exact op_Leads.mono _ _
      | exact op_May.mono _ _ _ _
      | exact op_Parse.mono _ _
      | exact LeO.none _
      | refine LeO.ite ?_ ?_
      | refine LeO.bind ?_ (fun _ => ?_)
theorem capstanlaw04_OpNames.mono : ∀ a0 a1 a2 k, LeO (capstanlaw04_OpNames.f k a0 a1 a2) (capstanlaw04_OpNames.f (k + 1) a0 a1 a2) := by
  intro a0 a1 a2 k
  obtain ⟨ih0, ih1⟩ := capstanlaw04_OpNames.mono_l k
  unfold capstanlaw04_OpNames.f
  repeat' first
      | (with_reducible exact ih0 _ _ _)
      | (with_reducible exact ih1 _ _)
      | (with_reducible exact capstanlaw04_awake.mono _)
      | (with_reducible exact op_Leads.mono _ _)
      | (with_reducible exact op_May.mono _ _ _ _)
      | (with_reducible exact op_Parse.mono _ _)
      | (with_reducible exact LeO.refl _)
      | (with_reducible exact LeO.none _)
      | (with_reducible refine LeO.ite ?_ ?_)
      | (with_reducible refine LeO.bind ?_ (fun _ => ?_))
      | exact ih0 _ _ _
      | exact ih1 _ _
      | exact capstanlaw04_awake.mono _
      | exact op_Leads.mono _ _
      | exact op_May.mono _ _ _ _
      | exact op_Parse.mono _ _
      | exact LeO.none _
      | refine LeO.ite ?_ ?_
      | refine LeO.bind ?_ (fun _ => ?_)
set_option maxHeartbeats 8000000 in
set_option maxRecDepth 100000 in
theorem capstanlaw04_OpNames.calls (k : Nat) (a0 : Int) (a1 : Int) (a2 : ByteArray) (r : Bool) (w : World) (hG : Gl w) (h : capstanlaw04_OpNames.f k a0 a1 a2 = some r) :
    Calls Tryd.prog 7 #[.int .u8 a0, .int .u8 a1, .string a2] w fun e w' => e = .returned (.bool r) ∧ Below w.heap.size w w' := by
  have hu26 := Tryd.underlying26
  have HG := Aside0.mk hG
  clear hG
  have HB := Aside0.mk (Below.refl w.heap.size w)
  have H : ((capstanlaw04_awake.f k).bind fun t159 => (if t159 = true then (if (a2.size : Int) > 100 then (some true) else ((op_Known.f a0).bind fun t160 => (if t160 = true then ((op_Name.f a0).bind fun t161 => ((op_Parse.f k t161).bind fun bt162 => (if bt162.2 = true then (if bt162.1 = a0 then ((op_Name.f a0).bind fun t164 => (if t164.toList = ([] : List UInt8) then (none) else (capstanlaw04_OpNames.j0 k a0 a1 a2))) else (none)) else (none)))) else ((op_Name.f a0).bind fun t165 => (if t165.toList = ([] : List UInt8) then ((op_May.f k a0 0 0).bind fun t166 => (if t166 = true then (none) else ((op_Goes.f a0).bind fun t167 => (if t167 = true then (none) else ((op_Leads.f k a0).bind fun t168 => (if t168 = true then (none) else (capstanlaw04_OpNames.j0 k a0 a1 a2))))))) else (none)))))) else (none))) = some r := h
  clear h
  replace H := Option.bind_eq_some_iff.mp H
  obtain ⟨t159, A40, H⟩ := H
  replace H : (if t159 = true then (if (a2.size : Int) > 100 then (some true) else ((op_Known.f a0).bind fun t160 => (if t160 = true then ((op_Name.f a0).bind fun t161 => ((op_Parse.f k t161).bind fun bt162 => (if bt162.2 = true then (if bt162.1 = a0 then ((op_Name.f a0).bind fun t164 => (if t164.toList = ([] : List UInt8) then (none) else (capstanlaw04_OpNames.j0 k a0 a1 a2))) else (none)) else (none)))) else ((op_Name.f a0).bind fun t165 => (if t165.toList = ([] : List UInt8) then ((op_May.f k a0 0 0).bind fun t166 => (if t166 = true then (none) else ((op_Goes.f a0).bind fun t167 => (if t167 = true then (none) else ((op_Leads.f k a0).bind fun t168 => (if t168 = true then (none) else (capstanlaw04_OpNames.j0 k a0 a1 a2))))))) else (none)))))) else (none)) = some r := H
  have A4 := Aside0.mk A40
  clear A40
  by_cases c5 : t159 = true
  · subst c5
    have H1 : (if (a2.size : Int) > 100 then (some true) else ((op_Known.f a0).bind fun t160 => (if t160 = true then ((op_Name.f a0).bind fun t161 => ((op_Parse.f k t161).bind fun bt162 => (if bt162.2 = true then (if bt162.1 = a0 then ((op_Name.f a0).bind fun t164 => (if t164.toList = ([] : List UInt8) then (none) else (capstanlaw04_OpNames.j0 k a0 a1 a2))) else (none)) else (none)))) else ((op_Name.f a0).bind fun t165 => (if t165.toList = ([] : List UInt8) then ((op_May.f k a0 0 0).bind fun t166 => (if t166 = true then (none) else ((op_Goes.f a0).bind fun t167 => (if t167 = true then (none) else ((op_Leads.f k a0).bind fun t168 => (if t168 = true then (none) else (capstanlaw04_OpNames.j0 k a0 a1 a2))))))) else (none)))))) = some r := by rw [if_pos rfl] at H; exact H
    clear H
    have H := H1
    clear H1
    by_cases c6 : (a2.size : Int) > 100
    · rw [if_pos c6] at H
      have c6b0 : decide (100 < (a2.size : Int)) = true := decide_eq_true c6
      have c6b1 : decide (100 < a2.size) = true := decide_eq_true (by omega)
      clear c6
      obtain rfl := Option.some.inj H
      go_enter Tryd.func7, Tryd.ntmps7
      go_wp2_with (first | ((with_reducible refine gate_callee (f := 22) rfl ?_); refine goesL_ (some 11) rfl rfl Tryd.func22 (by kernel_rfl) rfl #[] rfl (by (try simp only [List.map_toArray, List.map_cons, List.map_nil]); first | done | rfl | (simp only [List.length_drop, List.length_take]; rfl)) ?_; (with_reducible refine (capstanlaw04_awake.calls k  true _ ?side1 A4.out).mono ?_); (case side1 => first | exact HG.out | ((repeat (first | exact HG.out | exact Gl.below HG.out HB.out | (with_reducible refine Gl.alloc ?_ _) | (with_reducible refine Gl.drewN ?_ _) | (with_reducible refine Gl.drew ?_))); done) | exact Gl.below HG.out (by repeat (first | (with_reducible first | exact HB.out | apply below_alloc | apply pw_below_drewN | apply below_drew1) | exact HB.out | exact ⟨HB.out.os, HB.out.tape, HB.out.output, HB.out.size, HB.out.block⟩))); rintro e w7 ⟨rfl, hb⟩; refine ⟨_, rfl, ?_⟩; have n0_ := Aside0.mk (below_step (by repeat (first | (with_reducible first | exact HB.out | apply below_alloc | apply pw_below_drewN | apply below_drew1) | exact HB.out | exact ⟨HB.out.os, HB.out.tape, HB.out.output, HB.out.size, HB.out.block⟩)) hb); clear HB; have HB := n0_; clear n0_; (try clear hb); (try clear hb2); (try clear hk); (try clear hi)))
      go_ret
      exact ⟨by first | rfl | (simp [errW_none, errW_some] <;> rfl) | (simp [*, errW_none, errW_some] <;> rfl), by repeat (first | (with_reducible first | exact HB.out | apply below_alloc | apply pw_below_drewN | apply below_drew1) | exact HB.out | exact ⟨HB.out.os, HB.out.tape, HB.out.output, HB.out.size, HB.out.block⟩)⟩
    · rw [if_neg c6] at H
      have c6b0 : decide (100 < (a2.size : Int)) = false := decide_eq_false c6
      have c6b1 : decide (100 < a2.size) = false := decide_eq_false (by omega)
      clear c6
      replace H := Option.bind_eq_some_iff.mp H
      obtain ⟨t160, A80, H⟩ := H
      replace H : (if t160 = true then ((op_Name.f a0).bind fun t161 => ((op_Parse.f k t161).bind fun bt162 => (if bt162.2 = true then (if bt162.1 = a0 then ((op_Name.f a0).bind fun t164 => (if t164.toList = ([] : List UInt8) then (none) else (capstanlaw04_OpNames.j0 k a0 a1 a2))) else (none)) else (none)))) else ((op_Name.f a0).bind fun t165 => (if t165.toList = ([] : List UInt8) then ((op_May.f k a0 0 0).bind fun t166 => (if t166 = true then (none) else ((op_Goes.f a0).bind fun t167 => (if t167 = true then (none) else ((op_Leads.f k a0).bind fun t168 => (if t168 = true then (none) else (capstanlaw04_OpNames.j0 k a0 a1 a2))))))) else (none)))) = some r := H
      have A8 := Aside0.mk A80
      clear A80
      have HC9 := Aside0.mk H
      clear H
      go_enter Tryd.func7, Tryd.ntmps7
      go_upto_if 17 with (first | ((with_reducible refine gate_callee (f := 22) rfl ?_); refine goesL_ (some 11) rfl rfl Tryd.func22 (by kernel_rfl) rfl #[] rfl (by (try simp only [List.map_toArray, List.map_cons, List.map_nil]); first | done | rfl | (simp only [List.length_drop, List.length_take]; rfl)) ?_; (with_reducible refine (capstanlaw04_awake.calls k  true _ ?side1 A4.out).mono ?_); (case side1 => first | exact HG.out | ((repeat (first | exact HG.out | exact Gl.below HG.out HB.out | (with_reducible refine Gl.alloc ?_ _) | (with_reducible refine Gl.drewN ?_ _) | (with_reducible refine Gl.drew ?_))); done) | exact Gl.below HG.out (by repeat (first | (with_reducible first | exact HB.out | apply below_alloc | apply pw_below_drewN | apply below_drew1) | exact HB.out | exact ⟨HB.out.os, HB.out.tape, HB.out.output, HB.out.size, HB.out.block⟩))); rintro e w10 ⟨rfl, hb⟩; refine ⟨_, rfl, ?_⟩; have n0_ := Aside0.mk (below_step (by repeat (first | (with_reducible first | exact HB.out | apply below_alloc | apply pw_below_drewN | apply below_drew1) | exact HB.out | exact ⟨HB.out.os, HB.out.tape, HB.out.output, HB.out.size, HB.out.block⟩)) hb); clear HB; have HB := n0_; clear n0_; (try clear hb); (try clear hb2); (try clear hk); (try clear hi)) | ((with_reducible refine gate_callee (f := 12) rfl ?_); refine goesL_ (some 17) rfl rfl Tryd.func12 (by kernel_rfl) rfl #[.int .u8 a0] rfl (by (try simp only [List.map_toArray, List.map_cons, List.map_nil]); first | done | rfl | (simp only [List.length_drop, List.length_take]; rfl)) ?_; (with_reducible refine (op_Known.calls a0 t160 _ A8.out).mono ?_); rintro e w' ⟨rfl, ⟨nd, rfl⟩⟩; refine ⟨_, rfl, ?_⟩))
      (try simp only [Act.put, List.setIfInBounds_toArray, List.set_cons_zero, List.set_cons_succ])
      go_cut [] (fun wc => ∃ (kq : Nat), Aside0 (capstanlaw04_OpNames.j0 kq a0 a1 a2 = some r) ∧ Aside0 (kq ≤ k) ∧ Aside0 (Below w.heap.size w wc))
      case first =>
        have H := HC9.out
        clear HC9
        by_cases c11 : t160 = true
        · subst c11
          have H1 : ((op_Name.f a0).bind fun t161 => ((op_Parse.f k t161).bind fun bt162 => (if bt162.2 = true then (if bt162.1 = a0 then ((op_Name.f a0).bind fun t164 => (if t164.toList = ([] : List UInt8) then (none) else (capstanlaw04_OpNames.j0 k a0 a1 a2))) else (none)) else (none)))) = some r := by rw [if_pos rfl] at H; exact H
          clear H
          have H := H1
          clear H1
          replace H := Option.bind_eq_some_iff.mp H
          obtain ⟨t161, A120, H⟩ := H
          replace H : ((op_Parse.f k t161).bind fun bt162 => (if bt162.2 = true then (if bt162.1 = a0 then ((op_Name.f a0).bind fun t164 => (if t164.toList = ([] : List UInt8) then (none) else (capstanlaw04_OpNames.j0 k a0 a1 a2))) else (none)) else (none))) = some r := H
          have A12 := Aside0.mk A120
          clear A120
          replace H := Option.bind_eq_some_iff.mp H
          obtain ⟨⟨t162, t163⟩, A130, H⟩ := H
          replace H : (if t163 = true then (if t162 = a0 then ((op_Name.f a0).bind fun t164 => (if t164.toList = ([] : List UInt8) then (none) else (capstanlaw04_OpNames.j0 k a0 a1 a2))) else (none)) else (none)) = some r := H
          have A13 := Aside0.mk A130
          clear A130
          by_cases c14 : t163 = true
          · subst c14
            have H1 : (if t162 = a0 then ((op_Name.f a0).bind fun t164 => (if t164.toList = ([] : List UInt8) then (none) else (capstanlaw04_OpNames.j0 k a0 a1 a2))) else (none)) = some r := by rw [if_pos rfl] at H; exact H
            clear H
            have H := H1
            clear H1
            by_cases c15 : t162 = a0
            · rw [if_pos c15] at H
              have c15b0 : (t162 == a0) = true := beq_iff_eq.mpr c15
              have c15b1 : (t162 != a0) = false := bne_eq_false_iff_eq.mpr c15
              clear c15
              (first | rw [c15b0] | (simp only [i64_w, i32_w]; rw [c15b0]) | skip)
              replace H := Option.bind_eq_some_iff.mp H
              obtain ⟨t164, A160, H⟩ := H
              replace H : (if t164.toList = ([] : List UInt8) then (none) else (capstanlaw04_OpNames.j0 k a0 a1 a2)) = some r := H
              have A16 := Aside0.mk A160
              clear A160
              by_cases c17 : t164.toList = ([] : List UInt8)
              · rw [if_pos c17] at H
                exact absurd H (by simp)
              · rw [if_neg c17] at H
                have c17b0 : (t164.toList == ([] : List UInt8)) = false := beq_eq_false_iff_ne.mpr c17
                have c17b1 : (t164.toList != ([] : List UInt8)) = true := bne_iff_ne.mpr c17
                have H' := Aside0.mk H
                clear H
                go_wp2_with (first | ((with_reducible refine gate_callee (f := 14) rfl ?_); refine goesL_ (some 20) rfl rfl Tryd.func14 (by kernel_rfl) rfl #[.int .u8 a0] rfl (by (try simp only [List.map_toArray, List.map_cons, List.map_nil]); first | done | rfl | (simp only [List.length_drop, List.length_take]; rfl)) ?_; (with_reducible refine (op_Name.calls a0 t161 _ ?side1 A12.out).mono ?_); (case side1 => first | exact HG.out | ((repeat (first | exact HG.out | exact Gl.below HG.out HB.out | (with_reducible refine Gl.alloc ?_ _) | (with_reducible refine Gl.drewN ?_ _) | (with_reducible refine Gl.drew ?_))); done) | exact Gl.below HG.out (by repeat (first | (with_reducible first | exact HB.out | apply below_alloc | apply pw_below_drewN | apply below_drew1) | exact HB.out | exact ⟨HB.out.os, HB.out.tape, HB.out.output, HB.out.size, HB.out.block⟩))); rintro e w' ⟨rfl, ⟨nd, rfl⟩⟩; refine ⟨_, rfl, ?_⟩) | ((with_reducible refine gate_callee (f := 8) rfl ?_); refine goesL_ (some 21) rfl rfl Tryd.func8 (by kernel_rfl) rfl #[.string t161] rfl (by (try simp only [List.map_toArray, List.map_cons, List.map_nil]); first | done | rfl | (simp only [List.length_drop, List.length_take]; rfl)) ?_; (with_reducible refine (op_Parse.calls k t161 t162 true _ ?side1 A13.out).mono ?_); (case side1 => first | exact HG.out | ((repeat (first | exact HG.out | exact Gl.below HG.out HB.out | (with_reducible refine Gl.alloc ?_ _) | (with_reducible refine Gl.drewN ?_ _) | (with_reducible refine Gl.drew ?_))); done) | exact Gl.below HG.out (by repeat (first | (with_reducible first | exact HB.out | apply below_alloc | apply pw_below_drewN | apply below_drew1) | exact HB.out | exact ⟨HB.out.os, HB.out.tape, HB.out.output, HB.out.size, HB.out.block⟩))); rintro e w' ⟨rfl, ⟨nd, rfl⟩⟩; refine ⟨_, rfl, ?_⟩) | (go_at_call 14; (with_reducible refine (op_Name.calls a0 t164 _ ?side1 A16.out).mono ?_); (case side1 => first | exact HG.out | ((repeat (first | exact HG.out | exact Gl.below HG.out HB.out | (with_reducible refine Gl.alloc ?_ _) | (with_reducible refine Gl.drewN ?_ _) | (with_reducible refine Gl.drew ?_))); done) | exact Gl.below HG.out (by repeat (first | (with_reducible first | exact HB.out | apply below_alloc | apply pw_below_drewN | apply below_drew1) | exact HB.out | exact ⟨HB.out.os, HB.out.tape, HB.out.output, HB.out.size, HB.out.block⟩))); rintro e w' ⟨rfl, ⟨nd, rfl⟩⟩))
                go_meet
                case rel => exact ⟨_, H', ⟨by first | omega | exact Nat.le_refl _⟩, ⟨by repeat (first | (with_reducible first | exact HB.out | apply below_alloc | apply pw_below_drewN | apply below_drew1) | exact HB.out | exact ⟨HB.out.os, HB.out.tape, HB.out.output, HB.out.size, HB.out.block⟩)⟩⟩
            · rw [if_neg c15] at H
              exact absurd H (by simp)
          · replace c14 := Bool.eq_false_iff.mpr c14
            subst c14
            have H1 : (none) = some r := by rw [if_neg (show ¬ (false = true) by decide)] at H; exact H
            clear H
            have H := H1
            clear H1
            exact absurd H (by simp)
        · replace c11 := Bool.eq_false_iff.mpr c11
          subst c11
          have H1 : ((op_Name.f a0).bind fun t165 => (if t165.toList = ([] : List UInt8) then ((op_May.f k a0 0 0).bind fun t166 => (if t166 = true then (none) else ((op_Goes.f a0).bind fun t167 => (if t167 = true then (none) else ((op_Leads.f k a0).bind fun t168 => (if t168 = true then (none) else (capstanlaw04_OpNames.j0 k a0 a1 a2))))))) else (none))) = some r := by rw [if_neg (show ¬ (false = true) by decide)] at H; exact H
          clear H
          have H := H1
          clear H1
          replace H := Option.bind_eq_some_iff.mp H
          obtain ⟨t165, A180, H⟩ := H
          replace H : (if t165.toList = ([] : List UInt8) then ((op_May.f k a0 0 0).bind fun t166 => (if t166 = true then (none) else ((op_Goes.f a0).bind fun t167 => (if t167 = true then (none) else ((op_Leads.f k a0).bind fun t168 => (if t168 = true then (none) else (capstanlaw04_OpNames.j0 k a0 a1 a2))))))) else (none)) = some r := H
          have A18 := Aside0.mk A180
          clear A180
          by_cases c19 : t165.toList = ([] : List UInt8)
          · rw [if_pos c19] at H
            have c19b0 : (t165.toList == ([] : List UInt8)) = true := beq_iff_eq.mpr c19
            have c19b1 : (t165.toList != ([] : List UInt8)) = false := bne_eq_false_iff_eq.mpr c19
            clear c19
            replace H := Option.bind_eq_some_iff.mp H
            obtain ⟨t166, A200, H⟩ := H
            replace H : (if t166 = true then (none) else ((op_Goes.f a0).bind fun t167 => (if t167 = true then (none) else ((op_Leads.f k a0).bind fun t168 => (if t168 = true then (none) else (capstanlaw04_OpNames.j0 k a0 a1 a2)))))) = some r := H
            have A20 := Aside0.mk A200
            clear A200
            by_cases c21 : t166 = true
            · subst c21
              have H1 : (none) = some r := by rw [if_pos rfl] at H; exact H
              clear H
              have H := H1
              clear H1
              exact absurd H (by simp)
            · replace c21 := Bool.eq_false_iff.mpr c21
              subst c21
              have H1 : ((op_Goes.f a0).bind fun t167 => (if t167 = true then (none) else ((op_Leads.f k a0).bind fun t168 => (if t168 = true then (none) else (capstanlaw04_OpNames.j0 k a0 a1 a2))))) = some r := by rw [if_neg (show ¬ (false = true) by decide)] at H; exact H
              clear H
              have H := H1
              clear H1
              replace H := Option.bind_eq_some_iff.mp H
              obtain ⟨t167, A220, H⟩ := H
              replace H : (if t167 = true then (none) else ((op_Leads.f k a0).bind fun t168 => (if t168 = true then (none) else (capstanlaw04_OpNames.j0 k a0 a1 a2)))) = some r := H
              have A22 := Aside0.mk A220
              clear A220
              by_cases c23 : t167 = true
              · subst c23
                have H1 : (none) = some r := by rw [if_pos rfl] at H; exact H
                clear H
                have H := H1
                clear H1
                exact absurd H (by simp)
              · replace c23 := Bool.eq_false_iff.mpr c23
                subst c23
                have H1 : ((op_Leads.f k a0).bind fun t168 => (if t168 = true then (none) else (capstanlaw04_OpNames.j0 k a0 a1 a2))) = some r := by rw [if_neg (show ¬ (false = true) by decide)] at H; exact H
                clear H
                have H := H1
                clear H1
                replace H := Option.bind_eq_some_iff.mp H
                obtain ⟨t168, A240, H⟩ := H
                replace H : (if t168 = true then (none) else (capstanlaw04_OpNames.j0 k a0 a1 a2)) = some r := H
                have A24 := Aside0.mk A240
                clear A240
                by_cases c25 : t168 = true
                · subst c25
                  have H1 : (none) = some r := by rw [if_pos rfl] at H; exact H
                  clear H
                  have H := H1
                  clear H1
                  exact absurd H (by simp)
                · replace c25 := Bool.eq_false_iff.mpr c25
                  subst c25
                  have H1 : (capstanlaw04_OpNames.j0 k a0 a1 a2) = some r := by rw [if_neg (show ¬ (false = true) by decide)] at H; exact H
                  clear H
                  have H := H1
                  clear H1
                  have H' := Aside0.mk H
                  clear H
                  go_wp2_with (first | ((with_reducible refine gate_callee (f := 14) rfl ?_); refine goesL_ (some 37) rfl rfl Tryd.func14 (by kernel_rfl) rfl #[.int .u8 a0] rfl (by (try simp only [List.map_toArray, List.map_cons, List.map_nil]); first | done | rfl | (simp only [List.length_drop, List.length_take]; rfl)) ?_; (with_reducible refine (op_Name.calls a0 t165 _ ?side1 A18.out).mono ?_); (case side1 => first | exact HG.out | ((repeat (first | exact HG.out | exact Gl.below HG.out HB.out | (with_reducible refine Gl.alloc ?_ _) | (with_reducible refine Gl.drewN ?_ _) | (with_reducible refine Gl.drew ?_))); done) | exact Gl.below HG.out (by repeat (first | (with_reducible first | exact HB.out | apply below_alloc | apply pw_below_drewN | apply below_drew1) | exact HB.out | exact ⟨HB.out.os, HB.out.tape, HB.out.output, HB.out.size, HB.out.block⟩))); rintro e w' ⟨rfl, ⟨nd, rfl⟩⟩; refine ⟨_, rfl, ?_⟩) | ((fail_if_success (have h_ := w26)); go_at_call 16; (with_reducible refine (op_May.calls k a0 0 0 false _ ?side1 A20.out).mono ?_); (case side1 => first | exact HG.out | ((repeat (first | exact HG.out | exact Gl.below HG.out HB.out | (with_reducible refine Gl.alloc ?_ _) | (with_reducible refine Gl.drewN ?_ _) | (with_reducible refine Gl.drew ?_))); done) | exact Gl.below HG.out (by repeat (first | (with_reducible first | exact HB.out | apply below_alloc | apply pw_below_drewN | apply below_drew1) | exact HB.out | exact ⟨HB.out.os, HB.out.tape, HB.out.output, HB.out.size, HB.out.block⟩))); rintro e w26 ⟨rfl, hb⟩; have n0_ := Aside0.mk (below_step (by repeat (first | (with_reducible first | exact HB.out | apply below_alloc | apply pw_below_drewN | apply below_drew1) | exact HB.out | exact ⟨HB.out.os, HB.out.tape, HB.out.output, HB.out.size, HB.out.block⟩)) hb); clear HB; have HB := n0_; clear n0_; (try clear hb); (try clear hb2); (try clear hk); (try clear hi)) | (go_at_call 20; (with_reducible refine (op_Goes.calls a0 false _ A22.out).mono ?_); rintro e w' ⟨rfl, ⟨nd, rfl⟩⟩) | (go_at_call 18; (with_reducible refine (op_Leads.calls k a0 false _ A24.out).mono ?_); rintro e w' ⟨rfl, ⟨nd, rfl⟩⟩))
                  go_meet
                  case rel => exact ⟨_, H', ⟨by first | omega | exact Nat.le_refl _⟩, ⟨by repeat (first | (with_reducible first | exact HB.out | apply below_alloc | apply pw_below_drewN | apply below_drew1) | exact HB.out | exact ⟨HB.out.os, HB.out.tape, HB.out.output, HB.out.size, HB.out.block⟩)⟩⟩
          · rw [if_neg c19] at H
            exact absurd H (by simp)
      case rest =>
        clear HC9
        try clear c1
        try clear c2
        try clear p2
        try clear c5
        try clear c6
        try clear c6b0
        try clear c6b1
        try clear c7
        try clear c8
        try clear c11
        try clear c12
        try clear c14
        try clear c15
        try clear c15b0
        try clear c15b1
        try clear c17
        try clear c17b0
        try clear c17b1
        try clear c19
        try clear c19b0
        try clear c19b1
        try clear c21
        try clear c22
        try clear c23
        try clear c25
        obtain ⟨kq, HA, HJ8, HB⟩ := hcut
        cases kq with
        | zero => exact absurd HA.out (by simp [capstanlaw04_OpNames.j0])
        | succ kj8 =>
          have H := HA.out
          clear HA
          simp only [capstanlaw04_OpNames.j0] at H
          have HC27 := Aside0.mk H
          clear H
          go_upto_region 11 with (fail)
          go_cut [68] (fun v68 wc => ∃ (kq : Nat) (x68_26 : Bool), v68 = .bool x68_26 ∧ Aside0 (capstanlaw04_OpNames.j1 kq a2 x68_26 = some r) ∧ Aside0 (kq ≤ kj8) ∧ Aside0 (Below w.heap.size w wc))
          case first =>
            have H := HC27.out
            clear HC27
            replace H := Option.bind_eq_some_iff.mp H
            obtain ⟨t169, A280, H⟩ := H
            replace H : (if t169 = true then ((op_Known.f a1).bind fun t170 => (if t170 = true then ((op_Name.f a0).bind fun t171 => ((op_Name.f a1).bind fun t172 => (capstanlaw04_OpNames.j1 kj8 a2 ((t171.toList == t172.toList) != (a0 == a1))))) else (capstanlaw04_OpNames.j1 kj8 a2 false))) else (capstanlaw04_OpNames.j1 kj8 a2 false)) = some r := H
            have A28 := Aside0.mk A280
            clear A280
            by_cases c29 : t169 = true
            · subst c29
              have H1 : ((op_Known.f a1).bind fun t170 => (if t170 = true then ((op_Name.f a0).bind fun t171 => ((op_Name.f a1).bind fun t172 => (capstanlaw04_OpNames.j1 kj8 a2 ((t171.toList == t172.toList) != (a0 == a1))))) else (capstanlaw04_OpNames.j1 kj8 a2 false))) = some r := by rw [if_pos rfl] at H; exact H
              clear H
              have H := H1
              clear H1
              replace H := Option.bind_eq_some_iff.mp H
              obtain ⟨t170, A300, H⟩ := H
              replace H : (if t170 = true then ((op_Name.f a0).bind fun t171 => ((op_Name.f a1).bind fun t172 => (capstanlaw04_OpNames.j1 kj8 a2 ((t171.toList == t172.toList) != (a0 == a1))))) else (capstanlaw04_OpNames.j1 kj8 a2 false)) = some r := H
              have A30 := Aside0.mk A300
              clear A300
              by_cases c31 : t170 = true
              · subst c31
                have H1 : ((op_Name.f a0).bind fun t171 => ((op_Name.f a1).bind fun t172 => (capstanlaw04_OpNames.j1 kj8 a2 ((t171.toList == t172.toList) != (a0 == a1))))) = some r := by rw [if_pos rfl] at H; exact H
                clear H
                have H := H1
                clear H1
                replace H := Option.bind_eq_some_iff.mp H
                obtain ⟨t171, A320, H⟩ := H
                replace H : ((op_Name.f a1).bind fun t172 => (capstanlaw04_OpNames.j1 kj8 a2 ((t171.toList == t172.toList) != (a0 == a1)))) = some r := H
                have A32 := Aside0.mk A320
                clear A320
                replace H := Option.bind_eq_some_iff.mp H
                obtain ⟨t172, A330, H⟩ := H
                replace H : (capstanlaw04_OpNames.j1 kj8 a2 ((t171.toList == t172.toList) != (a0 == a1))) = some r := H
                have A33 := Aside0.mk A330
                clear A330
                have H' := Aside0.mk H
                clear H
                go_wp2_with (first | ((with_reducible refine gate_callee (f := 12) rfl ?_); refine goesL_ (some 53) rfl rfl Tryd.func12 (by kernel_rfl) rfl #[.int .u8 a0] rfl (by (try simp only [List.map_toArray, List.map_cons, List.map_nil]); first | done | rfl | (simp only [List.length_drop, List.length_take]; rfl)) ?_; (with_reducible refine (op_Known.calls a0 true _ A28.out).mono ?_); rintro e w' ⟨rfl, ⟨nd, rfl⟩⟩; refine ⟨_, rfl, ?_⟩) | (go_at_call 12; (with_reducible refine (op_Known.calls a1 true _ A30.out).mono ?_); rintro e w' ⟨rfl, ⟨nd, rfl⟩⟩) | (go_at_call 14; (with_reducible refine (op_Name.calls a0 t171 _ ?side1 A32.out).mono ?_); (case side1 => first | exact HG.out | ((repeat (first | exact HG.out | exact Gl.below HG.out HB.out | (with_reducible refine Gl.alloc ?_ _) | (with_reducible refine Gl.drewN ?_ _) | (with_reducible refine Gl.drew ?_))); done) | exact Gl.below HG.out (by repeat (first | (with_reducible first | exact HB.out | apply below_alloc | apply pw_below_drewN | apply below_drew1) | exact HB.out | exact ⟨HB.out.os, HB.out.tape, HB.out.output, HB.out.size, HB.out.block⟩))); rintro e w' ⟨rfl, ⟨nd, rfl⟩⟩) | (go_at_call 14; (with_reducible refine (op_Name.calls a1 t172 _ ?side1 A33.out).mono ?_); (case side1 => first | exact HG.out | ((repeat (first | exact HG.out | exact Gl.below HG.out HB.out | (with_reducible refine Gl.alloc ?_ _) | (with_reducible refine Gl.drewN ?_ _) | (with_reducible refine Gl.drew ?_))); done) | exact Gl.below HG.out (by repeat (first | (with_reducible first | exact HB.out | apply below_alloc | apply pw_below_drewN | apply below_drew1) | exact HB.out | exact ⟨HB.out.os, HB.out.tape, HB.out.output, HB.out.size, HB.out.block⟩))); rintro e w' ⟨rfl, ⟨nd, rfl⟩⟩))
                go_meet
                case rel => exact ⟨_, (((t171.toList == t172.toList) != (a0 == a1))), (by first | rfl | (simp; done) | (simp [*]; done)), H', ⟨by have := HJ8.out; first | omega | exact Nat.le_refl _⟩, ⟨by repeat (first | (with_reducible first | exact HB.out | apply below_alloc | apply pw_below_drewN | apply below_drew1) | exact HB.out | exact ⟨HB.out.os, HB.out.tape, HB.out.output, HB.out.size, HB.out.block⟩)⟩⟩
              · replace c31 := Bool.eq_false_iff.mpr c31
                subst c31
                have H1 : (capstanlaw04_OpNames.j1 kj8 a2 false) = some r := by rw [if_neg (show ¬ (false = true) by decide)] at H; exact H
                clear H
                have H := H1
                clear H1
                have H' := Aside0.mk H
                clear H
                go_wp2_with (first | ((with_reducible refine gate_callee (f := 12) rfl ?_); refine goesL_ (some 53) rfl rfl Tryd.func12 (by kernel_rfl) rfl #[.int .u8 a0] rfl (by (try simp only [List.map_toArray, List.map_cons, List.map_nil]); first | done | rfl | (simp only [List.length_drop, List.length_take]; rfl)) ?_; (with_reducible refine (op_Known.calls a0 true _ A28.out).mono ?_); rintro e w' ⟨rfl, ⟨nd, rfl⟩⟩; refine ⟨_, rfl, ?_⟩) | (go_at_call 12; (with_reducible refine (op_Known.calls a1 false _ A30.out).mono ?_); rintro e w' ⟨rfl, ⟨nd, rfl⟩⟩))
                go_meet
                case rel => exact ⟨_, (false), (by first | rfl | (simp; done) | (simp [*]; done)), H', ⟨by have := HJ8.out; first | omega | exact Nat.le_refl _⟩, ⟨by repeat (first | (with_reducible first | exact HB.out | apply below_alloc | apply pw_below_drewN | apply below_drew1) | exact HB.out | exact ⟨HB.out.os, HB.out.tape, HB.out.output, HB.out.size, HB.out.block⟩)⟩⟩
            · replace c29 := Bool.eq_false_iff.mpr c29
              subst c29
              have H1 : (capstanlaw04_OpNames.j1 kj8 a2 false) = some r := by rw [if_neg (show ¬ (false = true) by decide)] at H; exact H
              clear H
              have H := H1
              clear H1
              have H' := Aside0.mk H
              clear H
              go_wp2_with (first | ((with_reducible refine gate_callee (f := 12) rfl ?_); refine goesL_ (some 53) rfl rfl Tryd.func12 (by kernel_rfl) rfl #[.int .u8 a0] rfl (by (try simp only [List.map_toArray, List.map_cons, List.map_nil]); first | done | rfl | (simp only [List.length_drop, List.length_take]; rfl)) ?_; (with_reducible refine (op_Known.calls a0 false _ A28.out).mono ?_); rintro e w' ⟨rfl, ⟨nd, rfl⟩⟩; refine ⟨_, rfl, ?_⟩))
              go_meet
              case rel => exact ⟨_, (false), (by first | rfl | (simp; done) | (simp [*]; done)), H', ⟨by have := HJ8.out; first | omega | exact Nat.le_refl _⟩, ⟨by repeat (first | (with_reducible first | exact HB.out | apply below_alloc | apply pw_below_drewN | apply below_drew1) | exact HB.out | exact ⟨HB.out.os, HB.out.tape, HB.out.output, HB.out.size, HB.out.block⟩)⟩⟩
          case rest =>
            clear HC27
            try clear c1
            try clear c2
            try clear p2
            try clear c3
            try clear c5
            try clear c6
            try clear c6b0
            try clear c6b1
            try clear c7
            try clear c8
            try clear c11
            try clear c12
            try clear c14
            try clear c15
            try clear c15b0
            try clear c15b1
            try clear c17
            try clear c17b0
            try clear c17b1
            try clear c19
            try clear c19b0
            try clear c19b1
            try clear c21
            try clear c22
            try clear c23
            try clear c25
            try clear c29
            try clear c31
            try clear p2
            obtain ⟨kq, x68_26, rfl, HA, HJ26, HB⟩ := hcut
            cases kq with
            | zero => exact absurd HA.out (by simp [capstanlaw04_OpNames.j1])
            | succ kj26 =>
              have H := HA.out
              clear HA
              simp only [capstanlaw04_OpNames.j1] at H
              by_cases c34 : x68_26 = true
              · subst c34
                have H1 : (none) = some r := by rw [if_pos rfl] at H; exact H
                clear H
                have H := H1
                clear H1
                exact absurd H (by simp)
              · replace c34 := Bool.eq_false_iff.mpr c34
                subst c34
                have H1 : ((op_Parse.f kj26 a2).bind fun bt173 => (if bt173.2 = true then ((op_Known.f bt173.1).bind fun t175 => (if t175 = true then ((op_Name.f bt173.1).bind fun t176 => (if t176.toList = a2.toList then (some true) else (none))) else (none))) else (some (bt173.1 == 0)))) = some r := by rw [if_neg (show ¬ (false = true) by decide)] at H; exact H
                clear H
                have H := H1
                clear H1
                replace H := Option.bind_eq_some_iff.mp H
                obtain ⟨⟨t173, t174⟩, A350, H⟩ := H
                replace H : (if t174 = true then ((op_Known.f t173).bind fun t175 => (if t175 = true then ((op_Name.f t173).bind fun t176 => (if t176.toList = a2.toList then (some true) else (none))) else (none))) else (some (t173 == 0))) = some r := H
                have A35 := Aside0.mk A350
                clear A350
                by_cases c36 : t174 = true
                · subst c36
                  have H1 : ((op_Known.f t173).bind fun t175 => (if t175 = true then ((op_Name.f t173).bind fun t176 => (if t176.toList = a2.toList then (some true) else (none))) else (none))) = some r := by rw [if_pos rfl] at H; exact H
                  clear H
                  have H := H1
                  clear H1
                  replace H := Option.bind_eq_some_iff.mp H
                  obtain ⟨t175, A370, H⟩ := H
                  replace H : (if t175 = true then ((op_Name.f t173).bind fun t176 => (if t176.toList = a2.toList then (some true) else (none))) else (none)) = some r := H
                  have A37 := Aside0.mk A370
                  clear A370
                  by_cases c38 : t175 = true
                  · subst c38
                    have H1 : ((op_Name.f t173).bind fun t176 => (if t176.toList = a2.toList then (some true) else (none))) = some r := by rw [if_pos rfl] at H; exact H
                    clear H
                    have H := H1
                    clear H1
                    replace H := Option.bind_eq_some_iff.mp H
                    obtain ⟨t176, A390, H⟩ := H
                    replace H : (if t176.toList = a2.toList then (some true) else (none)) = some r := H
                    have A39 := Aside0.mk A390
                    clear A390
                    by_cases c40 : t176.toList = a2.toList
                    · rw [if_pos c40] at H
                      have c40b0 : (t176.toList == a2.toList) = true := beq_iff_eq.mpr c40
                      have c40b1 : (t176.toList != a2.toList) = false := bne_eq_false_iff_eq.mpr c40
                      clear c40
                      obtain rfl := Option.some.inj H
                      go_wp2_with (first | ((with_reducible refine gate_callee (f := 8) rfl ?_); refine goesL_ (some 71) rfl rfl Tryd.func8 (by kernel_rfl) rfl #[.string a2] rfl (by (try simp only [List.map_toArray, List.map_cons, List.map_nil]); first | done | rfl | (simp only [List.length_drop, List.length_take]; rfl)) ?_; (with_reducible refine (op_Parse.calls kj26 a2 t173 true _ ?side1 A35.out).mono ?_); (case side1 => first | exact HG.out | ((repeat (first | exact HG.out | exact Gl.below HG.out HB.out | (with_reducible refine Gl.alloc ?_ _) | (with_reducible refine Gl.drewN ?_ _) | (with_reducible refine Gl.drew ?_))); done) | exact Gl.below HG.out (by repeat (first | (with_reducible first | exact HB.out | apply below_alloc | apply pw_below_drewN | apply below_drew1) | exact HB.out | exact ⟨HB.out.os, HB.out.tape, HB.out.output, HB.out.size, HB.out.block⟩))); rintro e w' ⟨rfl, ⟨nd, rfl⟩⟩; refine ⟨_, rfl, ?_⟩) | (go_at_call 12; (with_reducible refine (op_Known.calls t173 true _ A37.out).mono ?_); rintro e w' ⟨rfl, ⟨nd, rfl⟩⟩) | (go_at_call 14; (with_reducible refine (op_Name.calls t173 t176 _ ?side1 A39.out).mono ?_); (case side1 => first | exact HG.out | ((repeat (first | exact HG.out | exact Gl.below HG.out HB.out | (with_reducible refine Gl.alloc ?_ _) | (with_reducible refine Gl.drewN ?_ _) | (with_reducible refine Gl.drew ?_))); done) | exact Gl.below HG.out (by repeat (first | (with_reducible first | exact HB.out | apply below_alloc | apply pw_below_drewN | apply below_drew1) | exact HB.out | exact ⟨HB.out.os, HB.out.tape, HB.out.output, HB.out.size, HB.out.block⟩))); rintro e w' ⟨rfl, ⟨nd, rfl⟩⟩))
                      go_ret
                      exact ⟨by first | rfl | (simp [errW_none, errW_some] <;> rfl) | (simp [*, errW_none, errW_some] <;> rfl), by repeat (first | (with_reducible first | exact HB.out | apply below_alloc | apply pw_below_drewN | apply below_drew1) | exact HB.out | exact ⟨HB.out.os, HB.out.tape, HB.out.output, HB.out.size, HB.out.block⟩)⟩
                    · rw [if_neg c40] at H
                      exact absurd H (by simp)
                  · replace c38 := Bool.eq_false_iff.mpr c38
                    subst c38
                    have H1 : (none) = some r := by rw [if_neg (show ¬ (false = true) by decide)] at H; exact H
                    clear H
                    have H := H1
                    clear H1
                    exact absurd H (by simp)
                · replace c36 := Bool.eq_false_iff.mpr c36
                  subst c36
                  have H1 : (some (t173 == 0)) = some r := by rw [if_neg (show ¬ (false = true) by decide)] at H; exact H
                  clear H
                  have H := H1
                  clear H1
                  obtain rfl := Option.some.inj H
                  go_wp2_with (first | ((with_reducible refine gate_callee (f := 8) rfl ?_); refine goesL_ (some 71) rfl rfl Tryd.func8 (by kernel_rfl) rfl #[.string a2] rfl (by (try simp only [List.map_toArray, List.map_cons, List.map_nil]); first | done | rfl | (simp only [List.length_drop, List.length_take]; rfl)) ?_; (with_reducible refine (op_Parse.calls kj26 a2 t173 false _ ?side1 A35.out).mono ?_); (case side1 => first | exact HG.out | ((repeat (first | exact HG.out | exact Gl.below HG.out HB.out | (with_reducible refine Gl.alloc ?_ _) | (with_reducible refine Gl.drewN ?_ _) | (with_reducible refine Gl.drew ?_))); done) | exact Gl.below HG.out (by repeat (first | (with_reducible first | exact HB.out | apply below_alloc | apply pw_below_drewN | apply below_drew1) | exact HB.out | exact ⟨HB.out.os, HB.out.tape, HB.out.output, HB.out.size, HB.out.block⟩))); rintro e w' ⟨rfl, ⟨nd, rfl⟩⟩; refine ⟨_, rfl, ?_⟩))
                  go_ret
                  exact ⟨by first | rfl | (simp [errW_none, errW_some] <;> rfl) | (simp [*, errW_none, errW_some] <;> rfl), by repeat (first | (with_reducible first | exact HB.out | apply below_alloc | apply pw_below_drewN | apply below_drew1) | exact HB.out | exact ⟨HB.out.os, HB.out.tape, HB.out.output, HB.out.size, HB.out.block⟩)⟩
  · replace c5 := Bool.eq_false_iff.mpr c5
    subst c5
    have H1 : (none) = some r := by rw [if_neg (show ¬ (false = true) by decide)] at H; exact H
    clear H
    have H := H1
    clear H1
    exact absurd H (by simp)

/-- THE ONE PURE STATEMENT of capstanlaw04_OpNames: yours. -/
def capstanlaw04_OpNames.Pure : Prop := ∀ (a0 : Int) (a1 : Int) (a2 : ByteArray), (Lit.int .u8 a0).wf = true → (Lit.int .u8 a1).wf = true → a2.size ≤ 140737488351232 → ∃ k, capstanlaw04_OpNames.f k a0 a1 a2 = some true
theorem capstanlaw04_OpNames.walk (P : capstanlaw04_OpNames.Pure) (a0 : Int) (a1 : Int) (a2 : ByteArray) (w : World) (hG : Gl w) (w0 : (Lit.int .u8 a0).wf = true) (w1 : (Lit.int .u8 a1).wf = true) (w2 : a2.size ≤ 140737488351232) :
    Calls Tryd.prog 7 #[.int .u8 a0, .int .u8 a1, .string a2] w fun e w' => e = .returned (.bool true) ∧ Below w.heap.size w w' := by
  obtain ⟨k, h⟩ := P a0 a1 a2 w0 w1 w2
  refine (capstanlaw04_OpNames.calls k a0 a1 a2 true w hG h).mono ?_
  rintro e w' ⟨rfl, hd⟩
  exact ⟨rfl, hd⟩

end Go.Proofs.YtahkaekiandchaaDoor.P
