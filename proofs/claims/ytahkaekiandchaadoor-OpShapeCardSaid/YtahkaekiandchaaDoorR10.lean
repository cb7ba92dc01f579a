/- Contracts of the functions of this seat (each: the call of the function does what the plain Lean function of the same name tells; the conditions stand in each statement). Written by a program of this session and by hand; checked by Lean. -/
import Derived.Test.YtahkaekiandchaaDoorR0
import Derived.Test.YtahkaekiandchaaDoorR1
import Derived.Test.YtahkaekiandchaaDoorR2
import Derived.Test.YtahkaekiandchaaDoorR9
namespace Go.Proofs.YtahkaekiandchaaDoor.R
open Go.RowKit Go.Proofs.YtahkaekiandchaaDoorW.PrintWords Go.Proofs.YtahkaekiandchaaDoorW.PrintLast Go.Proofs.YtahkaekiandchaaDoorW.PrintMore
attribute [local go_sem] max2_int min2_int max_two min_two max_three min_three max_four min_four   -- for this text's walks alone
set_option linter.unusedVariables false
set_option linter.unusedSimpArgs false

/-! ### capstanlaw04_OpShape: function 6 -/
mutual
def capstanlaw04_OpShape.j0 : Nat → Int → Bool → List Int → List Int → Option (Bool)
  | 0, _, _, _, _ => none
  | k + 1, x0, x94, x519000, x519001 => if x94 = true then (none) else (capstanlaw04_OpShape.l0 k x0 0 x519000 x519001)
def capstanlaw04_OpShape.l0 : Nat → Int → Int → List Int → List Int → Option (Bool)
  | 0, _, _, _, _ => none
  | k + 1, x0, x6, x519000, x519001 => if x6 < (x519000.length : Int) then (if 0 ≤ x6 then (if (rd x519000 x6) > 3 then (none) else (if (rd x519000 x6) = 0 then (if x0 = 6 then (capstanlaw04_OpShape.l0 k x0 (wrap64 (x6 + 1)) x519000 x519001) else (none)) else (capstanlaw04_OpShape.l0 k x0 (wrap64 (x6 + 1)) x519000 x519001))) else (none)) else (capstanlaw04_OpShape.l1 k 0 x519000 x519001)
def capstanlaw04_OpShape.l1 : Nat → Int → List Int → List Int → Option (Bool)
  | 0, _, _, _ => none
  | k + 1, x7, x519000, x519001 => if x7 < (x519001.length : Int) then (if 0 ≤ x7 then (if (rd x519001 x7) < 1 then (none) else (if (rd x519001 x7) > 3 then (none) else (capstanlaw04_OpShape.l1 k (wrap64 (x7 + 1)) x519000 x519001))) else (none)) else (some true)
end
def capstanlaw04_OpShape.f (k : Nat) (a0 : Int) : Option (Bool) := (capstanlaw04_awake.f k).bind fun t510 => (if t510 = true then ((op_Of.f k a0).bind fun bt511 => (if bt511.2.2 = true then ((op_Known.f a0).bind fun t528 => (if t528 = true then (if (bt511.1.length : Int) > 3 then (none) else (if (bt511.2.1.length : Int) > 1 then (none) else ((op_Leads.f k a0).bind fun t529 => (if t529 = true then (capstanlaw04_OpShape.j0 k a0 (decide ((bt511.2.1.length : Int) > 0)) bt511.1 bt511.2.1) else ((op_Goes.f a0).bind fun t530 => (if t530 = true then (capstanlaw04_OpShape.j0 k a0 false bt511.1 bt511.2.1) else (capstanlaw04_OpShape.j0 k a0 (decide ((bt511.2.1.length : Int) > 0)) bt511.1 bt511.2.1))))))) else (none))) else (if a0 = 1 then (if (wrap64 ((bt511.1.length : Int) + (bt511.2.1.length : Int))) = 0 then ((op_Known.f a0).bind fun t519 => (some (true == t519))) else (none)) else (if a0 = 2 then (if (wrap64 ((bt511.1.length : Int) + (bt511.2.1.length : Int))) = 0 then ((op_Known.f a0).bind fun t520 => (some (true == t520))) else (none)) else (if a0 = 3 then (if (wrap64 ((bt511.1.length : Int) + (bt511.2.1.length : Int))) = 0 then ((op_Known.f a0).bind fun t521 => (some (true == t521))) else (none)) else (if a0 = 4 then (if (wrap64 ((bt511.1.length : Int) + (bt511.2.1.length : Int))) = 0 then ((op_Known.f a0).bind fun t522 => (some (true == t522))) else (none)) else (if a0 = 5 then (if (wrap64 ((bt511.1.length : Int) + (bt511.2.1.length : Int))) = 0 then ((op_Known.f a0).bind fun t523 => (some (true == t523))) else (none)) else (if a0 = 7 then (if (wrap64 ((bt511.1.length : Int) + (bt511.2.1.length : Int))) = 0 then ((op_Known.f a0).bind fun t524 => (some (true == t524))) else (none)) else (if a0 = 8 then (if (wrap64 ((bt511.1.length : Int) + (bt511.2.1.length : Int))) = 0 then ((op_Known.f a0).bind fun t525 => (some (true == t525))) else (none)) else (if a0 = 30 then (if (wrap64 ((bt511.1.length : Int) + (bt511.2.1.length : Int))) = 0 then ((op_Known.f a0).bind fun t526 => (some (true == t526))) else (none)) else (if (wrap64 ((bt511.1.length : Int) + (bt511.2.1.length : Int))) = 0 then ((op_Known.f a0).bind fun t527 => (some ((a0 == 31) == t527))) else (none)))))))))))) else (none))
theorem capstanlaw04_OpShape.mono_l : ∀ k, (∀ y0 y1 y2 y3, LeO (capstanlaw04_OpShape.j0 k y0 y1 y2 y3) (capstanlaw04_OpShape.j0 (k + 1) y0 y1 y2 y3)) ∧ (∀ y0 y1 y2 y3, LeO (capstanlaw04_OpShape.l0 k y0 y1 y2 y3) (capstanlaw04_OpShape.l0 (k + 1) y0 y1 y2 y3)) ∧ (∀ y0 y1 y2, LeO (capstanlaw04_OpShape.l1 k y0 y1 y2) (capstanlaw04_OpShape.l1 (k + 1) y0 y1 y2))
  | 0 => ⟨fun _ _ _ _ r h => by simp [capstanlaw04_OpShape.j0] at h, fun _ _ _ _ r h => by simp [capstanlaw04_OpShape.l0] at h, fun _ _ _ r h => by simp [capstanlaw04_OpShape.l1] at h⟩
  | k + 1 => by
    obtain ⟨ih0, ih1, ih2⟩ := capstanlaw04_OpShape.mono_l k
    refine ⟨?_, ?_, ?_⟩
    · intro y0 y1 y2 y3
      unfold capstanlaw04_OpShape.j0
      repeat' first
      | (with_reducible exact ih0 _ _ _ _)
      | (with_reducible exact ih1 _ _ _ _)
      | (with_reducible exact ih2 _ _ _)
      | (with_reducible exact capstanlaw04_awake.mono _)
      | (with_reducible exact op_Leads.mono _ _)
      | (with_reducible exact op_Of.mono _ _)
      | (with_reducible exact LeO.refl _)
      | (with_reducible exact LeO.none _)
      | (with_reducible refine LeO.ite ?_ ?_)
      | (with_reducible refine LeO.bind ?_ (fun _ => ?_))
      | exact ih0 _ _ _ _
      | exact ih1 _ _ _ _
      | exact ih2 _ _ _
      | exact capstanlaw04_awake.mono _
      | exact op_Leads.mono _ _
      | exact op_Of.mono _ _
      | exact LeO.none _
      | refine LeO.ite ?_ ?_
      | refine LeO.bind ?_ (fun _ => ?_)
    · intro y0 y1 y2 y3
      unfold capstanlaw04_OpShape.l0
      repeat' first
      | (with_reducible exact ih0 _ _ _ _)
      | (with_reducible exact ih1 _ _ _ _)
      | (with_reducible exact ih2 _ _ _)
      | (with_reducible exact capstanlaw04_awake.mono _)
      | (with_reducible exact op_Leads.mono _ _)
      | (with_reducible exact op_Of.mono _ _)
      | (with_reducible exact LeO.refl _)
      | (with_reducible exact LeO.none _)
      | (with_reducible refine LeO.ite ?_ ?_)
      | (with_reducible refine LeO.bind ?_ (fun _ => ?_))
      | exact ih0 _ _ _ _
      | exact ih1 _ _ _ _
      | exact ih2 _ _ _
      | exact capstanlaw04_awake.mono _
      | exact op_Leads.mono _ _
      | exact op_Of.mono _ _
      | exact LeO.none _
      | refine LeO.ite ?_ ?_
      | refine LeO.bind ?_ (fun _ => ?_)
    · intro y0 y1 y2
      unfold capstanlaw04_OpShape.l1
      repeat' first
      | (with_reducible exact ih0 _ _ _ _)
      | (with_reducible exact ih1 _ _ _ _)
      | (with_reducible exact ih2 _ _ _)
      | (with_reducible exact capstanlaw04_awake.mono _)
      | (with_reducible exact op_Leads.mono _ _)
      | (with_reducible exact op_Of.mono _ _)
      | (with_reducible exact LeO.refl _)
      | (with_reducible exact LeO.none _)
      | (with_reducible refine LeO.ite ?_ ?_)
      | (with_reducible refine LeO.bind ?_ (fun _ => ?_))
      | exact ih0 _ _ _ _
      | exact ih1 _ _ _ _
      | exact ih2 _ _ _
      | exact capstanlaw04_awake.mono _
      | exact op_Leads.mono _ _
      | exact op_Of.mono _ _
      | exact LeO.none _
      | refine LeO.ite ?_ ?_
      | refine LeO.bind ?_ (fun _ => ?_)
theorem capstanlaw04_OpShape.mono : ∀ a0 k, LeO (capstanlaw04_OpShape.f k a0) (capstanlaw04_OpShape.f (k + 1) a0) := by
  intro a0 k
  obtain ⟨ih0, ih1, ih2⟩ := capstanlaw04_OpShape.mono_l k
  unfold capstanlaw04_OpShape.f
  repeat' first
      | (with_reducible exact ih0 _ _ _ _)
      | (with_reducible exact ih1 _ _ _ _)
      | (with_reducible exact ih2 _ _ _)
      | (with_reducible exact capstanlaw04_awake.mono _)
      | (with_reducible exact op_Leads.mono _ _)
      | (with_reducible exact op_Of.mono _ _)
      | (with_reducible exact LeO.refl _)
      | (with_reducible exact LeO.none _)
      | (with_reducible refine LeO.ite ?_ ?_)
      | (with_reducible refine LeO.bind ?_ (fun _ => ?_))
      | exact ih0 _ _ _ _
      | exact ih1 _ _ _ _
      | exact ih2 _ _ _
      | exact capstanlaw04_awake.mono _
      | exact op_Leads.mono _ _
      | exact op_Of.mono _ _
      | exact LeO.none _
      | refine LeO.ite ?_ ?_
      | refine LeO.bind ?_ (fun _ => ?_)
set_option maxHeartbeats 8000000 in
set_option maxRecDepth 100000 in
theorem capstanlaw04_OpShape.calls (k : Nat) (a0 : Int) (r : Bool) (w : World) (hG : Gl w) (h : capstanlaw04_OpShape.f k a0 = some r) :
    Calls Tryd.prog 6 #[.int .u8 a0] w fun e w' => e = .returned (.bool r) ∧ Below w.heap.size w w' := by
  have hu36 := Tryd.underlying36
  have HG := Aside0.mk hG
  clear hG
  have HB := Aside0.mk (Below.refl w.heap.size w)
  have H : ((capstanlaw04_awake.f k).bind fun t510 => (if t510 = true then ((op_Of.f k a0).bind fun bt511 => (if bt511.2.2 = true then ((op_Known.f a0).bind fun t528 => (if t528 = true then (if (bt511.1.length : Int) > 3 then (none) else (if (bt511.2.1.length : Int) > 1 then (none) else ((op_Leads.f k a0).bind fun t529 => (if t529 = true then (capstanlaw04_OpShape.j0 k a0 (decide ((bt511.2.1.length : Int) > 0)) bt511.1 bt511.2.1) else ((op_Goes.f a0).bind fun t530 => (if t530 = true then (capstanlaw04_OpShape.j0 k a0 false bt511.1 bt511.2.1) else (capstanlaw04_OpShape.j0 k a0 (decide ((bt511.2.1.length : Int) > 0)) bt511.1 bt511.2.1))))))) else (none))) else (if a0 = 1 then (if (wrap64 ((bt511.1.length : Int) + (bt511.2.1.length : Int))) = 0 then ((op_Known.f a0).bind fun t519 => (some (true == t519))) else (none)) else (if a0 = 2 then (if (wrap64 ((bt511.1.length : Int) + (bt511.2.1.length : Int))) = 0 then ((op_Known.f a0).bind fun t520 => (some (true == t520))) else (none)) else (if a0 = 3 then (if (wrap64 ((bt511.1.length : Int) + (bt511.2.1.length : Int))) = 0 then ((op_Known.f a0).bind fun t521 => (some (true == t521))) else (none)) else (if a0 = 4 then (if (wrap64 ((bt511.1.length : Int) + (bt511.2.1.length : Int))) = 0 then ((op_Known.f a0).bind fun t522 => (some (true == t522))) else (none)) else (if a0 = 5 then (if (wrap64 ((bt511.1.length : Int) + (bt511.2.1.length : Int))) = 0 then ((op_Known.f a0).bind fun t523 => (some (true == t523))) else (none)) else (if a0 = 7 then (if (wrap64 ((bt511.1.length : Int) + (bt511.2.1.length : Int))) = 0 then ((op_Known.f a0).bind fun t524 => (some (true == t524))) else (none)) else (if a0 = 8 then (if (wrap64 ((bt511.1.length : Int) + (bt511.2.1.length : Int))) = 0 then ((op_Known.f a0).bind fun t525 => (some (true == t525))) else (none)) else (if a0 = 30 then (if (wrap64 ((bt511.1.length : Int) + (bt511.2.1.length : Int))) = 0 then ((op_Known.f a0).bind fun t526 => (some (true == t526))) else (none)) else (if (wrap64 ((bt511.1.length : Int) + (bt511.2.1.length : Int))) = 0 then ((op_Known.f a0).bind fun t527 => (some ((a0 == 31) == t527))) else (none)))))))))))) else (none))) = some r := h
  clear h
  replace H := Option.bind_eq_some_iff.mp H
  obtain ⟨t510, A20, H⟩ := H
  replace H : (if t510 = true then ((op_Of.f k a0).bind fun bt511 => (if bt511.2.2 = true then ((op_Known.f a0).bind fun t528 => (if t528 = true then (if (bt511.1.length : Int) > 3 then (none) else (if (bt511.2.1.length : Int) > 1 then (none) else ((op_Leads.f k a0).bind fun t529 => (if t529 = true then (capstanlaw04_OpShape.j0 k a0 (decide ((bt511.2.1.length : Int) > 0)) bt511.1 bt511.2.1) else ((op_Goes.f a0).bind fun t530 => (if t530 = true then (capstanlaw04_OpShape.j0 k a0 false bt511.1 bt511.2.1) else (capstanlaw04_OpShape.j0 k a0 (decide ((bt511.2.1.length : Int) > 0)) bt511.1 bt511.2.1))))))) else (none))) else (if a0 = 1 then (if (wrap64 ((bt511.1.length : Int) + (bt511.2.1.length : Int))) = 0 then ((op_Known.f a0).bind fun t519 => (some (true == t519))) else (none)) else (if a0 = 2 then (if (wrap64 ((bt511.1.length : Int) + (bt511.2.1.length : Int))) = 0 then ((op_Known.f a0).bind fun t520 => (some (true == t520))) else (none)) else (if a0 = 3 then (if (wrap64 ((bt511.1.length : Int) + (bt511.2.1.length : Int))) = 0 then ((op_Known.f a0).bind fun t521 => (some (true == t521))) else (none)) else (if a0 = 4 then (if (wrap64 ((bt511.1.length : Int) + (bt511.2.1.length : Int))) = 0 then ((op_Known.f a0).bind fun t522 => (some (true == t522))) else (none)) else (if a0 = 5 then (if (wrap64 ((bt511.1.length : Int) + (bt511.2.1.length : Int))) = 0 then ((op_Known.f a0).bind fun t523 => (some (true == t523))) else (none)) else (if a0 = 7 then (if (wrap64 ((bt511.1.length : Int) + (bt511.2.1.length : Int))) = 0 then ((op_Known.f a0).bind fun t524 => (some (true == t524))) else (none)) else (if a0 = 8 then (if (wrap64 ((bt511.1.length : Int) + (bt511.2.1.length : Int))) = 0 then ((op_Known.f a0).bind fun t525 => (some (true == t525))) else (none)) else (if a0 = 30 then (if (wrap64 ((bt511.1.length : Int) + (bt511.2.1.length : Int))) = 0 then ((op_Known.f a0).bind fun t526 => (some (true == t526))) else (none)) else (if (wrap64 ((bt511.1.length : Int) + (bt511.2.1.length : Int))) = 0 then ((op_Known.f a0).bind fun t527 => (some ((a0 == 31) == t527))) else (none)))))))))))) else (none)) = some r := H
  have A2 := Aside0.mk A20
  clear A20
  by_cases c3 : t510 = true
  · subst c3
    have H1 : ((op_Of.f k a0).bind fun bt511 => (if bt511.2.2 = true then ((op_Known.f a0).bind fun t528 => (if t528 = true then (if (bt511.1.length : Int) > 3 then (none) else (if (bt511.2.1.length : Int) > 1 then (none) else ((op_Leads.f k a0).bind fun t529 => (if t529 = true then (capstanlaw04_OpShape.j0 k a0 (decide ((bt511.2.1.length : Int) > 0)) bt511.1 bt511.2.1) else ((op_Goes.f a0).bind fun t530 => (if t530 = true then (capstanlaw04_OpShape.j0 k a0 false bt511.1 bt511.2.1) else (capstanlaw04_OpShape.j0 k a0 (decide ((bt511.2.1.length : Int) > 0)) bt511.1 bt511.2.1))))))) else (none))) else (if a0 = 1 then (if (wrap64 ((bt511.1.length : Int) + (bt511.2.1.length : Int))) = 0 then ((op_Known.f a0).bind fun t519 => (some (true == t519))) else (none)) else (if a0 = 2 then (if (wrap64 ((bt511.1.length : Int) + (bt511.2.1.length : Int))) = 0 then ((op_Known.f a0).bind fun t520 => (some (true == t520))) else (none)) else (if a0 = 3 then (if (wrap64 ((bt511.1.length : Int) + (bt511.2.1.length : Int))) = 0 then ((op_Known.f a0).bind fun t521 => (some (true == t521))) else (none)) else (if a0 = 4 then (if (wrap64 ((bt511.1.length : Int) + (bt511.2.1.length : Int))) = 0 then ((op_Known.f a0).bind fun t522 => (some (true == t522))) else (none)) else (if a0 = 5 then (if (wrap64 ((bt511.1.length : Int) + (bt511.2.1.length : Int))) = 0 then ((op_Known.f a0).bind fun t523 => (some (true == t523))) else (none)) else (if a0 = 7 then (if (wrap64 ((bt511.1.length : Int) + (bt511.2.1.length : Int))) = 0 then ((op_Known.f a0).bind fun t524 => (some (true == t524))) else (none)) else (if a0 = 8 then (if (wrap64 ((bt511.1.length : Int) + (bt511.2.1.length : Int))) = 0 then ((op_Known.f a0).bind fun t525 => (some (true == t525))) else (none)) else (if a0 = 30 then (if (wrap64 ((bt511.1.length : Int) + (bt511.2.1.length : Int))) = 0 then ((op_Known.f a0).bind fun t526 => (some (true == t526))) else (none)) else (if (wrap64 ((bt511.1.length : Int) + (bt511.2.1.length : Int))) = 0 then ((op_Known.f a0).bind fun t527 => (some ((a0 == 31) == t527))) else (none)))))))))))) = some r := by rw [if_pos rfl] at H; exact H
    clear H
    have H := H1
    clear H1
    replace H := Option.bind_eq_some_iff.mp H
    obtain ⟨⟨t511, t514, t517⟩, A40, H⟩ := H
    replace H : (if t517 = true then ((op_Known.f a0).bind fun t528 => (if t528 = true then (if (t511.length : Int) > 3 then (none) else (if (t514.length : Int) > 1 then (none) else ((op_Leads.f k a0).bind fun t529 => (if t529 = true then (capstanlaw04_OpShape.j0 k a0 (decide ((t514.length : Int) > 0)) t511 t514) else ((op_Goes.f a0).bind fun t530 => (if t530 = true then (capstanlaw04_OpShape.j0 k a0 false t511 t514) else (capstanlaw04_OpShape.j0 k a0 (decide ((t514.length : Int) > 0)) t511 t514))))))) else (none))) else (if a0 = 1 then (if (wrap64 ((t511.length : Int) + (t514.length : Int))) = 0 then ((op_Known.f a0).bind fun t519 => (some (true == t519))) else (none)) else (if a0 = 2 then (if (wrap64 ((t511.length : Int) + (t514.length : Int))) = 0 then ((op_Known.f a0).bind fun t520 => (some (true == t520))) else (none)) else (if a0 = 3 then (if (wrap64 ((t511.length : Int) + (t514.length : Int))) = 0 then ((op_Known.f a0).bind fun t521 => (some (true == t521))) else (none)) else (if a0 = 4 then (if (wrap64 ((t511.length : Int) + (t514.length : Int))) = 0 then ((op_Known.f a0).bind fun t522 => (some (true == t522))) else (none)) else (if a0 = 5 then (if (wrap64 ((t511.length : Int) + (t514.length : Int))) = 0 then ((op_Known.f a0).bind fun t523 => (some (true == t523))) else (none)) else (if a0 = 7 then (if (wrap64 ((t511.length : Int) + (t514.length : Int))) = 0 then ((op_Known.f a0).bind fun t524 => (some (true == t524))) else (none)) else (if a0 = 8 then (if (wrap64 ((t511.length : Int) + (t514.length : Int))) = 0 then ((op_Known.f a0).bind fun t525 => (some (true == t525))) else (none)) else (if a0 = 30 then (if (wrap64 ((t511.length : Int) + (t514.length : Int))) = 0 then ((op_Known.f a0).bind fun t526 => (some (true == t526))) else (none)) else (if (wrap64 ((t511.length : Int) + (t514.length : Int))) = 0 then ((op_Known.f a0).bind fun t527 => (some ((a0 == 31) == t527))) else (none))))))))))) = some r := H
    have A4 := Aside0.mk A40
    clear A40
    by_cases c5 : t517 = true
    · subst c5
      have H1 : ((op_Known.f a0).bind fun t528 => (if t528 = true then (if (t511.length : Int) > 3 then (none) else (if (t514.length : Int) > 1 then (none) else ((op_Leads.f k a0).bind fun t529 => (if t529 = true then (capstanlaw04_OpShape.j0 k a0 (decide ((t514.length : Int) > 0)) t511 t514) else ((op_Goes.f a0).bind fun t530 => (if t530 = true then (capstanlaw04_OpShape.j0 k a0 false t511 t514) else (capstanlaw04_OpShape.j0 k a0 (decide ((t514.length : Int) > 0)) t511 t514))))))) else (none))) = some r := by rw [if_pos rfl] at H; exact H
      clear H
      have H := H1
      clear H1
      have HC6 := Aside0.mk H
      clear H
      go_enter Tryd.func6, Tryd.ntmps6
      go_upto_region 7 with (first | ((with_reducible refine gate_callee (f := 22) rfl ?_); refine goesL_ (some 8) rfl rfl Tryd.func22 (by kernel_rfl) rfl #[] rfl (by (try simp only [List.map_toArray, List.map_cons, List.map_nil]); first | done | rfl | (simp only [List.length_drop, List.length_take]; rfl)) ?_; (with_reducible refine (capstanlaw04_awake.calls k  true _ ?side1 A2.out).mono ?_); (case side1 => first | exact HG.out | ((repeat (first | exact HG.out | exact Gl.below HG.out HB.out | (with_reducible refine Gl.alloc ?_ _) | (with_reducible refine Gl.drewN ?_ _) | (with_reducible refine Gl.drew ?_))); done) | exact Gl.below HG.out (by repeat (first | (with_reducible first | exact HB.out | apply below_alloc | apply pw_below_drewN | apply below_drew1) | exact HB.out | exact ⟨HB.out.os, HB.out.tape, HB.out.output, HB.out.size, HB.out.block⟩))); rintro e w7 ⟨rfl, hb⟩; refine ⟨_, rfl, ?_⟩; have n0_ := Aside0.mk (below_step (by repeat (first | (with_reducible first | exact HB.out | apply below_alloc | apply pw_below_drewN | apply below_drew1) | exact HB.out | exact ⟨HB.out.os, HB.out.tape, HB.out.output, HB.out.size, HB.out.block⟩)) hb); clear HB; have HB := n0_; clear n0_; (try clear hb); (try clear hb2); (try clear hk); (try clear hi)) | ((with_reducible refine gate_callee (f := 23) rfl ?_); refine goesL_ (some 12) rfl rfl Tryd.func23 (by kernel_rfl) rfl #[.int .u8 a0] rfl (by (try simp only [List.map_toArray, List.map_cons, List.map_nil]); first | done | rfl | (simp only [List.length_drop, List.length_take]; rfl)) ?_; (with_reducible refine (op_Of.calls k a0 t511 t514 true _ A4.out).mono ?_); rintro e w8 ⟨v512, v515, rfl, ho0, ho1, hb⟩; refine ⟨_, rfl, ?_⟩; have n0_ := Aside0.mk (Kd.R_lower ho0 (below_size (by repeat (first | (with_reducible first | exact HB.out | apply below_alloc | apply pw_below_drewN | apply below_drew1) | exact HB.out | exact ⟨HB.out.os, HB.out.tape, HB.out.output, HB.out.size, HB.out.block⟩)))); have n1_ := Aside0.mk (Kd.R_lower ho1 (below_size (by repeat (first | (with_reducible first | exact HB.out | apply below_alloc | apply pw_below_drewN | apply below_drew1) | exact HB.out | exact ⟨HB.out.os, HB.out.tape, HB.out.output, HB.out.size, HB.out.block⟩)))); have n2_ := Aside0.mk (below_step (by repeat (first | (with_reducible first | exact HB.out | apply below_alloc | apply pw_below_drewN | apply below_drew1) | exact HB.out | exact ⟨HB.out.os, HB.out.tape, HB.out.output, HB.out.size, HB.out.block⟩)) hb); clear HB; have HO513 := n0_; have HO516 := n1_; have HB := n2_; clear n0_ n1_ n2_; (try clear hb); (try clear hb2); (try clear hk); (try clear hi); (try clear ho0); (try clear ho1)) | ((with_reducible refine gate_dst (N := 3) rfl ?_); (try (refine gate_guard (by rfl) ?_; dsimp only)); refine box_event ?hg (N := 3) ?hd (cs := #[.slice none 0 0, .slice none 0 0]) (t := 36) ?hr ?_; (case hd => rfl); (case hg => rfl); (case hr => first | (go_simp; done) | (go_simp; rfl)); intro gb518 hg w9 hbox hb; have n0_ := Aside0.mk (Kd.R_below (by (with_reducible repeat (first | apply Kd.R_alloc | apply Kd.R_drewN | apply Kd.R_drew)); exact HO513.out) hb); have n1_ := Aside0.mk (Kd.R_below (by (with_reducible repeat (first | apply Kd.R_alloc | apply Kd.R_drewN | apply Kd.R_drew)); exact HO516.out) hb); have n2_ := Aside0.mk (below_step (by repeat (first | (with_reducible first | exact HB.out | apply below_alloc | apply pw_below_drewN | apply below_drew1) | exact HB.out | exact ⟨HB.out.os, HB.out.tape, HB.out.output, HB.out.size, HB.out.block⟩)) hb); have n3_ := Aside0.mk (hbox); have n4_ := Aside0.mk ((by rw [hg]; exact (below_size (by repeat (first | (with_reducible first | exact HB.out | apply below_alloc | apply pw_below_drewN | apply below_drew1) | exact HB.out | exact ⟨HB.out.os, HB.out.tape, HB.out.output, HB.out.size, HB.out.block⟩))) : w.heap.size ≤ gb518)); have n5_ := Aside0.mk ((by rw [hg]; exact (below_size (by repeat (first | (with_reducible first | exact HB.out | apply below_alloc | apply pw_below_drewN | apply below_drew1) | exact HB.out | exact ⟨HB.out.os, HB.out.tape, HB.out.output, HB.out.size, HB.out.block⟩))) : w.heap.size ≤ gb518)); clear HO513; clear HO516; clear HB; have HO513 := n0_; have HO516 := n1_; have HB := n2_; have BK518 := n3_; have GW518 := n4_; have GE518 := n5_; clear n0_ n1_ n2_ n3_ n4_ n5_; clear hb hbox hg; obtain ⟨Ao10, co10, eo10⟩ := Kd.R_slice HO513.out; subst eo10; have hcz11_0 : w9.cell? ⟨gb518, 0, none⟩ = some (.slice none 0 0) := (blk_cell BK518.out 0).trans rfl; have hcz11_1 : w9.cell? ⟨gb518, 1, none⟩ = some (.slice none 0 0) := (blk_cell BK518.out 1).trans rfl; have hfz11_0 := blk_frozen BK518.out 0; have hfz11_1 := blk_frozen BK518.out 1; obtain ⟨Ao12, co12, eo12⟩ := Kd.R_slice HO516.out; subst eo12))
      (try simp only [Act.put, List.setIfInBounds_toArray, List.set_cons_zero, List.set_cons_succ])
      go_cut [94] (fun v94 wc => ∃ (kq : Nat) (x94_5 : Bool), v94 = .bool x94_5 ∧ Aside0 (capstanlaw04_OpShape.j0 kq a0 x94_5 t511 t514 = some r) ∧ Aside0 (kq ≤ k) ∧ Aside0 (Kd.R (Kd.int .u8) 5 wc w.heap.size (fun k_ => some k_ ≠ ((.slice Ao12 t514.length co12) : Value).ownBlock) (.slice Ao10 t511.length co10) t511) ∧ Aside0 (Kd.R (Kd.int .u8) 5 wc w.heap.size (fun k_ => some k_ ≠ ((.slice Ao10 t511.length co10) : Value).ownBlock) (.slice Ao12 t514.length co12) t514) ∧ Aside0 (wc.heap[gb518]? = some (.cells #[(.slice Ao10 t511.length co10), (.slice Ao12 t514.length co12)] 36 (0, 0))) ∧ Aside0 (Below w.heap.size w wc))
      case first =>
        have H := HC6.out
        clear HC6
        replace H := Option.bind_eq_some_iff.mp H
        obtain ⟨t528, A130, H⟩ := H
        replace H : (if t528 = true then (if (t511.length : Int) > 3 then (none) else (if (t514.length : Int) > 1 then (none) else ((op_Leads.f k a0).bind fun t529 => (if t529 = true then (capstanlaw04_OpShape.j0 k a0 (decide ((t514.length : Int) > 0)) t511 t514) else ((op_Goes.f a0).bind fun t530 => (if t530 = true then (capstanlaw04_OpShape.j0 k a0 false t511 t514) else (capstanlaw04_OpShape.j0 k a0 (decide ((t514.length : Int) > 0)) t511 t514))))))) else (none)) = some r := H
        have A13 := Aside0.mk A130
        clear A130
        by_cases c14 : t528 = true
        · subst c14
          have H1 : (if (t511.length : Int) > 3 then (none) else (if (t514.length : Int) > 1 then (none) else ((op_Leads.f k a0).bind fun t529 => (if t529 = true then (capstanlaw04_OpShape.j0 k a0 (decide ((t514.length : Int) > 0)) t511 t514) else ((op_Goes.f a0).bind fun t530 => (if t530 = true then (capstanlaw04_OpShape.j0 k a0 false t511 t514) else (capstanlaw04_OpShape.j0 k a0 (decide ((t514.length : Int) > 0)) t511 t514))))))) = some r := by rw [if_pos rfl] at H; exact H
          clear H
          have H := H1
          clear H1
          by_cases c15 : (t511.length : Int) > 3
          · rw [if_pos c15] at H
            exact absurd H (by simp)
          · rw [if_neg c15] at H
            have c15b0 : decide (3 < (t511.length : Int)) = false := decide_eq_false c15
            have c15b1 : decide (3 < t511.length) = false := decide_eq_false (by omega)
            clear c15
            (first | rw [c15b0] | (simp only [i64_w, i32_w]; rw [c15b0]) | skip)
            by_cases c16 : (t514.length : Int) > 1
            · rw [if_pos c16] at H
              exact absurd H (by simp)
            · rw [if_neg c16] at H
              have c16b0 : decide (1 < (t514.length : Int)) = false := decide_eq_false c16
              have c16b1 : decide (1 < t514.length) = false := decide_eq_false (by omega)
              clear c16
              replace H := Option.bind_eq_some_iff.mp H
              obtain ⟨t529, A170, H⟩ := H
              replace H : (if t529 = true then (capstanlaw04_OpShape.j0 k a0 (decide ((t514.length : Int) > 0)) t511 t514) else ((op_Goes.f a0).bind fun t530 => (if t530 = true then (capstanlaw04_OpShape.j0 k a0 false t511 t514) else (capstanlaw04_OpShape.j0 k a0 (decide ((t514.length : Int) > 0)) t511 t514)))) = some r := H
              have A17 := Aside0.mk A170
              clear A170
              by_cases c18 : t529 = true
              · subst c18
                have H1 : (capstanlaw04_OpShape.j0 k a0 (decide ((t514.length : Int) > 0)) t511 t514) = some r := by rw [if_pos rfl] at H; exact H
                clear H
                have H := H1
                clear H1
                have H' := Aside0.mk H
                clear H
                go_wp2_with (first | ((with_reducible refine gate_callee (f := 12) rfl ?_); refine goesL_ (some 66) rfl rfl Tryd.func12 (by kernel_rfl) rfl #[.int .u8 a0] rfl (by (try simp only [List.map_toArray, List.map_cons, List.map_nil]); first | done | rfl | (simp only [List.length_drop, List.length_take]; rfl)) ?_; (with_reducible refine (op_Known.calls a0 true _ A13.out).mono ?_); rintro e w' ⟨rfl, ⟨nd, rfl⟩⟩; refine ⟨_, rfl, ?_⟩; have hcz19_0 : w9.cell? ⟨gb518, 0, none⟩ = some (.slice none 0 0) := (blk_cell BK518.out 0).trans rfl; have hcz19_1 : w9.cell? ⟨gb518, 1, none⟩ = some (.slice none 0 0) := (blk_cell BK518.out 1).trans rfl; have hfz19_0 := blk_frozen BK518.out 0; have hfz19_1 := blk_frozen BK518.out 1) | (go_at_call 18; (with_reducible refine (op_Leads.calls k a0 true _ A17.out).mono ?_); rintro e w' ⟨rfl, ⟨nd, rfl⟩⟩))
                go_meet
                case rel => exact ⟨_, (decide ((t514.length : Int) > 0)), (by first | rfl | (simp; done) | (simp [*]; done)), H', ⟨by first | omega | exact Nat.le_refl _⟩, ⟨by (with_reducible repeat (first | apply Kd.R_alloc | apply Kd.R_drewN | apply Kd.R_drew)); exact Kd.R_mono (Kd.R_far (p := ⟨gb518, 1, none⟩) (Kd.R_far (p := ⟨gb518, 0, none⟩) (Kd.R_types HO513.out BK518.out (by decide)) (fun _ hk => hk.2) (.slice Ao10 t511.length co10)) (fun _ hk => hk.2) (.slice Ao12 t514.length co12)) (fun _ hk => hk.1)⟩, ⟨by (with_reducible repeat (first | apply Kd.R_alloc | apply Kd.R_drewN | apply Kd.R_drew)); exact Kd.R_mono (Kd.R_far (p := ⟨gb518, 1, none⟩) (Kd.R_far (p := ⟨gb518, 0, none⟩) (Kd.R_types HO516.out BK518.out (by decide)) (fun _ hk => hk.2) (.slice Ao10 t511.length co10)) (fun _ hk => hk.2) (.slice Ao12 t514.length co12)) (fun _ hk => hk.1)⟩, ⟨by (with_reducible repeat (first | refine blk_drewN ?_ _ | refine blk_drew ?_ | refine blk_alloc ?_ _)); refine blk_put (cs := #[.slice Ao10 t511.length co10, .slice none 0 0]) ?_ 1 _ rfl; (with_reducible repeat (first | refine blk_drewN ?_ _ | refine blk_drew ?_ | refine blk_alloc ?_ _)); refine blk_put (cs := #[.slice none 0 0, .slice none 0 0]) ?_ 0 _ rfl; (with_reducible repeat (first | refine blk_drewN ?_ _ | refine blk_drew ?_ | refine blk_alloc ?_ _)); exact BK518.out⟩, ⟨by repeat (first | (with_reducible first | exact HB.out | apply below_alloc | apply pw_below_drewN | apply below_drew1 | refine below_set ?_ GE518.out) | exact HB.out | exact ⟨HB.out.os, HB.out.tape, HB.out.output, HB.out.size, HB.out.block⟩)⟩⟩
              · replace c18 := Bool.eq_false_iff.mpr c18
                subst c18
                have H1 : ((op_Goes.f a0).bind fun t530 => (if t530 = true then (capstanlaw04_OpShape.j0 k a0 false t511 t514) else (capstanlaw04_OpShape.j0 k a0 (decide ((t514.length : Int) > 0)) t511 t514))) = some r := by rw [if_neg (show ¬ (false = true) by decide)] at H; exact H
                clear H
                have H := H1
                clear H1
                replace H := Option.bind_eq_some_iff.mp H
                obtain ⟨t530, A200, H⟩ := H
                replace H : (if t530 = true then (capstanlaw04_OpShape.j0 k a0 false t511 t514) else (capstanlaw04_OpShape.j0 k a0 (decide ((t514.length : Int) > 0)) t511 t514)) = some r := H
                have A20 := Aside0.mk A200
                clear A200
                by_cases c21 : t530 = true
                · subst c21
                  have H1 : (capstanlaw04_OpShape.j0 k a0 false t511 t514) = some r := by rw [if_pos rfl] at H; exact H
                  clear H
                  have H := H1
                  clear H1
                  have H' := Aside0.mk H
                  clear H
                  go_wp2_with (first | ((with_reducible refine gate_callee (f := 12) rfl ?_); refine goesL_ (some 66) rfl rfl Tryd.func12 (by kernel_rfl) rfl #[.int .u8 a0] rfl (by (try simp only [List.map_toArray, List.map_cons, List.map_nil]); first | done | rfl | (simp only [List.length_drop, List.length_take]; rfl)) ?_; (with_reducible refine (op_Known.calls a0 true _ A13.out).mono ?_); rintro e w' ⟨rfl, ⟨nd, rfl⟩⟩; refine ⟨_, rfl, ?_⟩; have hcz22_0 : w9.cell? ⟨gb518, 0, none⟩ = some (.slice none 0 0) := (blk_cell BK518.out 0).trans rfl; have hcz22_1 : w9.cell? ⟨gb518, 1, none⟩ = some (.slice none 0 0) := (blk_cell BK518.out 1).trans rfl; have hfz22_0 := blk_frozen BK518.out 0; have hfz22_1 := blk_frozen BK518.out 1) | (go_at_call 18; (with_reducible refine (op_Leads.calls k a0 false _ A17.out).mono ?_); rintro e w' ⟨rfl, ⟨nd, rfl⟩⟩) | (go_at_call 20; (with_reducible refine (op_Goes.calls a0 true _ A20.out).mono ?_); rintro e w' ⟨rfl, ⟨nd, rfl⟩⟩))
                  go_meet
                  case rel => exact ⟨_, (false), (by first | rfl | (simp; done) | (simp [*]; done)), H', ⟨by first | omega | exact Nat.le_refl _⟩, ⟨by (with_reducible repeat (first | apply Kd.R_alloc | apply Kd.R_drewN | apply Kd.R_drew)); exact Kd.R_mono (Kd.R_far (p := ⟨gb518, 1, none⟩) (Kd.R_far (p := ⟨gb518, 0, none⟩) (Kd.R_types HO513.out BK518.out (by decide)) (fun _ hk => hk.2) (.slice Ao10 t511.length co10)) (fun _ hk => hk.2) (.slice Ao12 t514.length co12)) (fun _ hk => hk.1)⟩, ⟨by (with_reducible repeat (first | apply Kd.R_alloc | apply Kd.R_drewN | apply Kd.R_drew)); exact Kd.R_mono (Kd.R_far (p := ⟨gb518, 1, none⟩) (Kd.R_far (p := ⟨gb518, 0, none⟩) (Kd.R_types HO516.out BK518.out (by decide)) (fun _ hk => hk.2) (.slice Ao10 t511.length co10)) (fun _ hk => hk.2) (.slice Ao12 t514.length co12)) (fun _ hk => hk.1)⟩, ⟨by (with_reducible repeat (first | refine blk_drewN ?_ _ | refine blk_drew ?_ | refine blk_alloc ?_ _)); refine blk_put (cs := #[.slice Ao10 t511.length co10, .slice none 0 0]) ?_ 1 _ rfl; (with_reducible repeat (first | refine blk_drewN ?_ _ | refine blk_drew ?_ | refine blk_alloc ?_ _)); refine blk_put (cs := #[.slice none 0 0, .slice none 0 0]) ?_ 0 _ rfl; (with_reducible repeat (first | refine blk_drewN ?_ _ | refine blk_drew ?_ | refine blk_alloc ?_ _)); exact BK518.out⟩, ⟨by repeat (first | (with_reducible first | exact HB.out | apply below_alloc | apply pw_below_drewN | apply below_drew1 | refine below_set ?_ GE518.out) | exact HB.out | exact ⟨HB.out.os, HB.out.tape, HB.out.output, HB.out.size, HB.out.block⟩)⟩⟩
                · replace c21 := Bool.eq_false_iff.mpr c21
                  subst c21
                  have H1 : (capstanlaw04_OpShape.j0 k a0 (decide ((t514.length : Int) > 0)) t511 t514) = some r := by rw [if_neg (show ¬ (false = true) by decide)] at H; exact H
                  clear H
                  have H := H1
                  clear H1
                  have H' := Aside0.mk H
                  clear H
                  go_wp2_with (first | ((with_reducible refine gate_callee (f := 12) rfl ?_); refine goesL_ (some 66) rfl rfl Tryd.func12 (by kernel_rfl) rfl #[.int .u8 a0] rfl (by (try simp only [List.map_toArray, List.map_cons, List.map_nil]); first | done | rfl | (simp only [List.length_drop, List.length_take]; rfl)) ?_; (with_reducible refine (op_Known.calls a0 true _ A13.out).mono ?_); rintro e w' ⟨rfl, ⟨nd, rfl⟩⟩; refine ⟨_, rfl, ?_⟩; have hcz23_0 : w9.cell? ⟨gb518, 0, none⟩ = some (.slice none 0 0) := (blk_cell BK518.out 0).trans rfl; have hcz23_1 : w9.cell? ⟨gb518, 1, none⟩ = some (.slice none 0 0) := (blk_cell BK518.out 1).trans rfl; have hfz23_0 := blk_frozen BK518.out 0; have hfz23_1 := blk_frozen BK518.out 1) | (go_at_call 18; (with_reducible refine (op_Leads.calls k a0 false _ A17.out).mono ?_); rintro e w' ⟨rfl, ⟨nd, rfl⟩⟩) | (go_at_call 20; (with_reducible refine (op_Goes.calls a0 false _ A20.out).mono ?_); rintro e w' ⟨rfl, ⟨nd, rfl⟩⟩))
                  go_meet
                  case rel => exact ⟨_, (decide ((t514.length : Int) > 0)), (by first | rfl | (simp; done) | (simp [*]; done)), H', ⟨by first | omega | exact Nat.le_refl _⟩, ⟨by (with_reducible repeat (first | apply Kd.R_alloc | apply Kd.R_drewN | apply Kd.R_drew)); exact Kd.R_mono (Kd.R_far (p := ⟨gb518, 1, none⟩) (Kd.R_far (p := ⟨gb518, 0, none⟩) (Kd.R_types HO513.out BK518.out (by decide)) (fun _ hk => hk.2) (.slice Ao10 t511.length co10)) (fun _ hk => hk.2) (.slice Ao12 t514.length co12)) (fun _ hk => hk.1)⟩, ⟨by (with_reducible repeat (first | apply Kd.R_alloc | apply Kd.R_drewN | apply Kd.R_drew)); exact Kd.R_mono (Kd.R_far (p := ⟨gb518, 1, none⟩) (Kd.R_far (p := ⟨gb518, 0, none⟩) (Kd.R_types HO516.out BK518.out (by decide)) (fun _ hk => hk.2) (.slice Ao10 t511.length co10)) (fun _ hk => hk.2) (.slice Ao12 t514.length co12)) (fun _ hk => hk.1)⟩, ⟨by (with_reducible repeat (first | refine blk_drewN ?_ _ | refine blk_drew ?_ | refine blk_alloc ?_ _)); refine blk_put (cs := #[.slice Ao10 t511.length co10, .slice none 0 0]) ?_ 1 _ rfl; (with_reducible repeat (first | refine blk_drewN ?_ _ | refine blk_drew ?_ | refine blk_alloc ?_ _)); refine blk_put (cs := #[.slice none 0 0, .slice none 0 0]) ?_ 0 _ rfl; (with_reducible repeat (first | refine blk_drewN ?_ _ | refine blk_drew ?_ | refine blk_alloc ?_ _)); exact BK518.out⟩, ⟨by repeat (first | (with_reducible first | exact HB.out | apply below_alloc | apply pw_below_drewN | apply below_drew1 | refine below_set ?_ GE518.out) | exact HB.out | exact ⟨HB.out.os, HB.out.tape, HB.out.output, HB.out.size, HB.out.block⟩)⟩⟩
        · replace c14 := Bool.eq_false_iff.mpr c14
          subst c14
          have H1 : (none) = some r := by rw [if_neg (show ¬ (false = true) by decide)] at H; exact H
          clear H
          have H := H1
          clear H1
          exact absurd H (by simp)
      case rest =>
        clear HC6
        try clear c1
        try clear c2
        try clear p2
        try clear c3
        try clear c5
        try clear c6
        try clear p6
        try clear c12
        try clear c14
        try clear c15
        try clear c15b0
        try clear c15b1
        try clear c16
        try clear c16b0
        try clear c16b1
        try clear c18
        try clear c21
        try clear c22
        try clear c23
        try clear hcz11_0
        try clear hcz11_1
        try clear hcz19_0
        try clear hcz19_1
        try clear hcz22_0
        try clear hcz22_1
        try clear hcz23_0
        try clear hcz23_1
        try clear hfz11_0
        try clear hfz11_1
        try clear hfz19_0
        try clear hfz19_1
        try clear hfz22_0
        try clear hfz22_1
        try clear hfz23_0
        try clear hfz23_1
        obtain ⟨kq, x94_5, rfl, HA, HJ5, HO_519000, HO_519001, BK518, HB⟩ := hcut
        cases kq with
        | zero => exact absurd HA.out (by simp [capstanlaw04_OpShape.j0])
        | succ kj5 =>
          have H := HA.out
          clear HA
          simp only [capstanlaw04_OpShape.j0] at H
          by_cases c24 : x94_5 = true
          · subst c24
            have H1 : (none) = some r := by rw [if_pos rfl] at H; exact H
            clear H
            have H := H1
            clear H1
            exact absurd H (by simp)
          · replace c24 := Bool.eq_false_iff.mpr c24
            subst c24
            have H1 : (capstanlaw04_OpShape.l0 kj5 a0 0 t511 t514) = some r := by rw [if_neg (show ¬ (false = true) by decide)] at H; exact H
            clear H
            have H := H1
            clear H1
            have H' := Aside0.mk H
            clear H
            go_wp2
            go_loopg [6] kj5 (fun kq v6 w' => ∃ (x6_2 : Int), v6 = .int .i64 x6_2 ∧ Aside0 (capstanlaw04_OpShape.l0 kq a0 x6_2 t511 t514 = some r) ∧ Aside0 (kq ≤ kj5) ∧ Aside0 (Kd.R (Kd.int .u8) 5 w' w.heap.size (fun k_ => some k_ ≠ ((.slice Ao12 t514.length co12) : Value).ownBlock) (.slice Ao10 t511.length co10) t511) ∧ Aside0 (Kd.R (Kd.int .u8) 5 w' w.heap.size (fun k_ => some k_ ≠ ((.slice Ao10 t511.length co10) : Value).ownBlock) (.slice Ao12 t514.length co12) t514) ∧ Aside0 (w'.heap[gb518]? = some (.cells #[(.slice Ao10 t511.length co10), (.slice Ao12 t514.length co12)] 36 (0, 0))) ∧ Aside0 (Below w.heap.size w w'))
            case atStart => exact ⟨(0), (by first | rfl | (simp; done) | (simp [*]; done)), H', ⟨Nat.le_refl _⟩, ⟨by (with_reducible repeat (first | apply Kd.R_alloc | apply Kd.R_drewN | apply Kd.R_drew)); exact HO_519000.out⟩, ⟨by (with_reducible repeat (first | apply Kd.R_alloc | apply Kd.R_drewN | apply Kd.R_drew)); exact HO_519001.out⟩, ⟨by (with_reducible repeat (first | refine blk_drewN ?_ _ | refine blk_drew ?_ | refine blk_alloc ?_ _)); exact BK518.out⟩, ⟨by repeat (first | (with_reducible first | exact HB.out | apply below_alloc | apply pw_below_drewN | apply below_drew1 | refine below_set ?_ GE518.out) | exact HB.out | exact ⟨HB.out.os, HB.out.tape, HB.out.output, HB.out.size, HB.out.block⟩)⟩⟩
            case round =>
              clear H'
              try clear c1
              try clear c2
              try clear p2
              try clear c3
              try clear c5
              try clear c6
              try clear p6
              try clear c12
              try clear c14
              try clear c15
              try clear c15b0
              try clear c15b1
              try clear c16
              try clear c16b0
              try clear c16b1
              try clear c18
              try clear c21
              try clear c22
              try clear c23
              try clear c24
              try clear hcz11_0
              try clear hcz11_1
              try clear hcz19_0
              try clear hcz19_1
              try clear hcz22_0
              try clear hcz22_1
              try clear hcz23_0
              try clear hcz23_1
              try clear hfz11_0
              try clear hfz11_1
              try clear hfz19_0
              try clear hfz19_1
              try clear hfz22_0
              try clear hfz22_1
              try clear hfz23_0
              try clear hfz23_1
              try clear p2
              try clear p6
              obtain ⟨x6_2, rfl, HA, HK2, HO_519000, HO_519001, BK518, HB⟩ := hrel
              cases gk with
              | zero => exact absurd HA.out (by simp [capstanlaw04_OpShape.l0])
              | succ k2 =>
                have H := HA.out
                clear HA
                simp only [capstanlaw04_OpShape.l0] at H
                by_cases c25 : x6_2 < (t511.length : Int)
                · rw [if_pos c25] at H
                  have c25b0 : decide (x6_2 < (t511.length : Int)) = true := decide_eq_true c25
                  clear c25
                  by_cases c26 : 0 ≤ x6_2
                  · rw [if_pos c26] at H
                    have c26b0 : decide (0 ≤ x6_2) = true := decide_eq_true c26
                    clear c26
                    by_cases c27 : (rd t511 x6_2) > 3
                    · rw [if_pos c27] at H
                      exact absurd H (by simp)
                    · rw [if_neg c27] at H
                      have c27b0 : decide (3 < (rd t511 x6_2)) = false := decide_eq_false c27
                      clear c27
                      by_cases c28 : (rd t511 x6_2) = 0
                      · rw [if_pos c28] at H
                        have c28b0 : ((rd t511 x6_2) == 0) = true := beq_iff_eq.mpr c28
                        have c28b1 : ((rd t511 x6_2) != 0) = false := bne_eq_false_iff_eq.mpr c28
                        clear c28
                        by_cases c29 : a0 = 6
                        · rw [if_pos c29] at H
                          have c29b0 : (a0 == 6) = true := beq_iff_eq.mpr c29
                          have c29b1 : (a0 != 6) = false := bne_eq_false_iff_eq.mpr c29
                          clear c29
                          have H' := Aside0.mk H
                          clear H
                          have hcz30_0 : wr.cell? ⟨gb518, 0, none⟩ = some (.slice Ao10 t511.length co10) := (blk_cell BK518.out 0).trans rfl
                          have hcz30_1 : wr.cell? ⟨gb518, 1, none⟩ = some (.slice Ao12 t514.length co12) := (blk_cell BK518.out 1).trans rfl
                          have hfz30_0 := blk_frozen BK518.out 0
                          have hfz30_1 := blk_frozen BK518.out 1
                          have p531 : 0 ≤ (x6_2 : Int) := of_decide_eq_true (by first | (with_reducible assumption) | assumption)
                          have q531 : x6_2 < (t511.length : Int) := of_decide_eq_true (by first | (with_reducible assumption) | assumption)
                          obtain ⟨ad531, e531, hx531_0⟩ := Kd.at_int (Kd.R_reads' HO_519000.out).2.2 x6_2 p531 q531
                          cases e531
                          replace p531 := eq_true p531
                          replace q531 := eq_true q531
                          have p532 : 0 ≤ (x6_2 : Int) := of_decide_eq_true (by first | (with_reducible assumption) | assumption)
                          have q532 : x6_2 < (t511.length : Int) := of_decide_eq_true (by first | (with_reducible assumption) | assumption)
                          obtain ⟨ad532, e532, hx532_0⟩ := Kd.at_int (Kd.R_reads' HO_519000.out).2.2 x6_2 p532 q532
                          obtain rfl : ad531 = ad532 := (by injection e532)
                          replace p532 := eq_true p532
                          replace q532 := eq_true q532
                          go_wp2
                          go_roundg k2
                          case measure => have := HJ5.out; have := HK2.out; omega
                          case rel => exact ⟨(wrap64 (x6_2 + 1)), (by first | rfl | (simp; done) | (simp [*]; done)), H', ⟨by have := HJ5.out; have := HK2.out; omega⟩, ⟨by (with_reducible repeat (first | apply Kd.R_alloc | apply Kd.R_drewN | apply Kd.R_drew)); exact HO_519000.out⟩, ⟨by (with_reducible repeat (first | apply Kd.R_alloc | apply Kd.R_drewN | apply Kd.R_drew)); exact HO_519001.out⟩, ⟨by (with_reducible repeat (first | refine blk_drewN ?_ _ | refine blk_drew ?_ | refine blk_alloc ?_ _)); exact BK518.out⟩, ⟨by repeat (first | (with_reducible first | exact HB.out | apply below_alloc | apply pw_below_drewN | apply below_drew1 | refine below_set ?_ GE518.out) | exact HB.out | exact ⟨HB.out.os, HB.out.tape, HB.out.output, HB.out.size, HB.out.block⟩)⟩⟩
                        · rw [if_neg c29] at H
                          exact absurd H (by simp)
                      · rw [if_neg c28] at H
                        have c28b0 : ((rd t511 x6_2) == 0) = false := beq_eq_false_iff_ne.mpr c28
                        have c28b1 : ((rd t511 x6_2) != 0) = true := bne_iff_ne.mpr c28
                        have H' := Aside0.mk H
                        clear H
                        have hcz31_0 : wr.cell? ⟨gb518, 0, none⟩ = some (.slice Ao10 t511.length co10) := (blk_cell BK518.out 0).trans rfl
                        have hcz31_1 : wr.cell? ⟨gb518, 1, none⟩ = some (.slice Ao12 t514.length co12) := (blk_cell BK518.out 1).trans rfl
                        have hfz31_0 := blk_frozen BK518.out 0
                        have hfz31_1 := blk_frozen BK518.out 1
                        have p531 : 0 ≤ (x6_2 : Int) := of_decide_eq_true (by first | (with_reducible assumption) | assumption)
                        have q531 : x6_2 < (t511.length : Int) := of_decide_eq_true (by first | (with_reducible assumption) | assumption)
                        obtain ⟨ad531, e531, hx531_0⟩ := Kd.at_int (Kd.R_reads' HO_519000.out).2.2 x6_2 p531 q531
                        cases e531
                        replace p531 := eq_true p531
                        replace q531 := eq_true q531
                        have p532 : 0 ≤ (x6_2 : Int) := of_decide_eq_true (by first | (with_reducible assumption) | assumption)
                        have q532 : x6_2 < (t511.length : Int) := of_decide_eq_true (by first | (with_reducible assumption) | assumption)
                        obtain ⟨ad532, e532, hx532_0⟩ := Kd.at_int (Kd.R_reads' HO_519000.out).2.2 x6_2 p532 q532
                        obtain rfl : ad531 = ad532 := (by injection e532)
                        replace p532 := eq_true p532
                        replace q532 := eq_true q532
                        go_wp2
                        go_roundg k2
                        case measure => have := HJ5.out; have := HK2.out; omega
                        case rel => exact ⟨(wrap64 (x6_2 + 1)), (by first | rfl | (simp; done) | (simp [*]; done)), H', ⟨by have := HJ5.out; have := HK2.out; omega⟩, ⟨by (with_reducible repeat (first | apply Kd.R_alloc | apply Kd.R_drewN | apply Kd.R_drew)); exact HO_519000.out⟩, ⟨by (with_reducible repeat (first | apply Kd.R_alloc | apply Kd.R_drewN | apply Kd.R_drew)); exact HO_519001.out⟩, ⟨by (with_reducible repeat (first | refine blk_drewN ?_ _ | refine blk_drew ?_ | refine blk_alloc ?_ _)); exact BK518.out⟩, ⟨by repeat (first | (with_reducible first | exact HB.out | apply below_alloc | apply pw_below_drewN | apply below_drew1 | refine below_set ?_ GE518.out) | exact HB.out | exact ⟨HB.out.os, HB.out.tape, HB.out.output, HB.out.size, HB.out.block⟩)⟩⟩
                  · rw [if_neg c26] at H
                    exact absurd H (by simp)
                · rw [if_neg c25] at H
                  have c25b0 : decide (x6_2 < (t511.length : Int)) = false := decide_eq_false c25
                  clear c25
                  have H' := Aside0.mk H
                  clear H
                  have hcz32_0 : wr.cell? ⟨gb518, 0, none⟩ = some (.slice Ao10 t511.length co10) := (blk_cell BK518.out 0).trans rfl
                  have hcz32_1 : wr.cell? ⟨gb518, 1, none⟩ = some (.slice Ao12 t514.length co12) := (blk_cell BK518.out 1).trans rfl
                  have hfz32_0 := blk_frozen BK518.out 0
                  have hfz32_1 := blk_frozen BK518.out 1
                  go_wp2
                  go_loopg [7] k2 (fun kq v7 w' => ∃ (x7_3 : Int), v7 = .int .i64 x7_3 ∧ Aside0 (capstanlaw04_OpShape.l1 kq x7_3 t511 t514 = some r) ∧ Aside0 (kq ≤ k2) ∧ Aside0 (Kd.R (Kd.int .u8) 5 w' w.heap.size (fun k_ => some k_ ≠ ((.slice Ao12 t514.length co12) : Value).ownBlock) (.slice Ao10 t511.length co10) t511) ∧ Aside0 (Kd.R (Kd.int .u8) 5 w' w.heap.size (fun k_ => some k_ ≠ ((.slice Ao10 t511.length co10) : Value).ownBlock) (.slice Ao12 t514.length co12) t514) ∧ Aside0 (w'.heap[gb518]? = some (.cells #[(.slice Ao10 t511.length co10), (.slice Ao12 t514.length co12)] 36 (0, 0))) ∧ Aside0 (Below w.heap.size w w'))
                  case atStart => exact ⟨(0), (by first | rfl | (simp; done) | (simp [*]; done)), H', ⟨Nat.le_refl _⟩, ⟨by (with_reducible repeat (first | apply Kd.R_alloc | apply Kd.R_drewN | apply Kd.R_drew)); exact HO_519000.out⟩, ⟨by (with_reducible repeat (first | apply Kd.R_alloc | apply Kd.R_drewN | apply Kd.R_drew)); exact HO_519001.out⟩, ⟨by (with_reducible repeat (first | refine blk_drewN ?_ _ | refine blk_drew ?_ | refine blk_alloc ?_ _)); exact BK518.out⟩, ⟨by repeat (first | (with_reducible first | exact HB.out | apply below_alloc | apply pw_below_drewN | apply below_drew1 | refine below_set ?_ GE518.out) | exact HB.out | exact ⟨HB.out.os, HB.out.tape, HB.out.output, HB.out.size, HB.out.block⟩)⟩⟩
                  case round =>
                    clear H'
                    try clear c1
                    try clear c2
                    try clear p2
                    try clear c3
                    try clear c5
                    try clear p5
                    try clear q5
                    try clear hx5
                    try clear c6
                    try clear p6
                    try clear c12
                    try clear c14
                    try clear c15
                    try clear c15b0
                    try clear c15b1
                    try clear c16
                    try clear c16b0
                    try clear c16b1
                    try clear c18
                    try clear c21
                    try clear c22
                    try clear c23
                    try clear c24
                    try clear c25
                    try clear c25b0
                    try clear c26
                    try clear c26b0
                    try clear c27
                    try clear c27b0
                    try clear c28
                    try clear c28b0
                    try clear c28b1
                    try clear c29
                    try clear c29b0
                    try clear c29b1
                    try clear hcz11_0
                    try clear hcz11_1
                    try clear hcz19_0
                    try clear hcz19_1
                    try clear hcz22_0
                    try clear hcz22_1
                    try clear hcz23_0
                    try clear hcz23_1
                    try clear hcz30_0
                    try clear hcz30_1
                    try clear hcz31_0
                    try clear hcz31_1
                    try clear hcz32_0
                    try clear hcz32_1
                    try clear hfz11_0
                    try clear hfz11_1
                    try clear hfz19_0
                    try clear hfz19_1
                    try clear hfz22_0
                    try clear hfz22_1
                    try clear hfz23_0
                    try clear hfz23_1
                    try clear hfz30_0
                    try clear hfz30_1
                    try clear hfz31_0
                    try clear hfz31_1
                    try clear hfz32_0
                    try clear hfz32_1
                    try clear hx531_0
                    try clear hx532_0
                    try clear p2
                    try clear p531
                    try clear p532
                    try clear p6
                    try clear q531
                    try clear q532
                    obtain ⟨x7_3, rfl, HA, HK3, HO_519000, HO_519001, BK518, HB⟩ := hrel
                    cases gk with
                    | zero => exact absurd HA.out (by simp [capstanlaw04_OpShape.l1])
                    | succ k3 =>
                      have H := HA.out
                      clear HA
                      simp only [capstanlaw04_OpShape.l1] at H
                      by_cases c33 : x7_3 < (t514.length : Int)
                      · rw [if_pos c33] at H
                        have c33b0 : decide (x7_3 < (t514.length : Int)) = true := decide_eq_true c33
                        clear c33
                        by_cases c34 : 0 ≤ x7_3
                        · rw [if_pos c34] at H
                          have c34b0 : decide (0 ≤ x7_3) = true := decide_eq_true c34
                          clear c34
                          by_cases c35 : (rd t514 x7_3) < 1
                          · rw [if_pos c35] at H
                            exact absurd H (by simp)
                          · rw [if_neg c35] at H
                            have c35b0 : decide ((rd t514 x7_3) < 1) = false := decide_eq_false c35
                            clear c35
                            by_cases c36 : (rd t514 x7_3) > 3
                            · rw [if_pos c36] at H
                              exact absurd H (by simp)
                            · rw [if_neg c36] at H
                              have c36b0 : decide (3 < (rd t514 x7_3)) = false := decide_eq_false c36
                              clear c36
                              have H' := Aside0.mk H
                              clear H
                              have hcz37_0 : wr.cell? ⟨gb518, 0, none⟩ = some (.slice Ao10 t511.length co10) := (blk_cell BK518.out 0).trans rfl
                              have hcz37_1 : wr.cell? ⟨gb518, 1, none⟩ = some (.slice Ao12 t514.length co12) := (blk_cell BK518.out 1).trans rfl
                              have hfz37_0 := blk_frozen BK518.out 0
                              have hfz37_1 := blk_frozen BK518.out 1
                              have p533 : 0 ≤ (x7_3 : Int) := of_decide_eq_true (by first | (with_reducible assumption) | assumption)
                              have q533 : x7_3 < (t514.length : Int) := of_decide_eq_true (by first | (with_reducible assumption) | assumption)
                              obtain ⟨ad533, e533, hx533_0⟩ := Kd.at_int (Kd.R_reads' HO_519001.out).2.2 x7_3 p533 q533
                              cases e533
                              replace p533 := eq_true p533
                              replace q533 := eq_true q533
                              have p534 : 0 ≤ (x7_3 : Int) := of_decide_eq_true (by first | (with_reducible assumption) | assumption)
                              have q534 : x7_3 < (t514.length : Int) := of_decide_eq_true (by first | (with_reducible assumption) | assumption)
                              obtain ⟨ad534, e534, hx534_0⟩ := Kd.at_int (Kd.R_reads' HO_519001.out).2.2 x7_3 p534 q534
                              obtain rfl : ad533 = ad534 := (by injection e534)
                              replace p534 := eq_true p534
                              replace q534 := eq_true q534
                              go_wp2
                              go_roundg k3
                              case measure => have := HJ5.out; have := HK2.out; have := HK3.out; omega
                              case rel => exact ⟨(wrap64 (x7_3 + 1)), (by first | rfl | (simp; done) | (simp [*]; done)), H', ⟨by have := HJ5.out; have := HK2.out; have := HK3.out; omega⟩, ⟨by (with_reducible repeat (first | apply Kd.R_alloc | apply Kd.R_drewN | apply Kd.R_drew)); exact HO_519000.out⟩, ⟨by (with_reducible repeat (first | apply Kd.R_alloc | apply Kd.R_drewN | apply Kd.R_drew)); exact HO_519001.out⟩, ⟨by (with_reducible repeat (first | refine blk_drewN ?_ _ | refine blk_drew ?_ | refine blk_alloc ?_ _)); exact BK518.out⟩, ⟨by repeat (first | (with_reducible first | exact HB.out | apply below_alloc | apply pw_below_drewN | apply below_drew1 | refine below_set ?_ GE518.out) | exact HB.out | exact ⟨HB.out.os, HB.out.tape, HB.out.output, HB.out.size, HB.out.block⟩)⟩⟩
                        · rw [if_neg c34] at H
                          exact absurd H (by simp)
                      · rw [if_neg c33] at H
                        have c33b0 : decide (x7_3 < (t514.length : Int)) = false := decide_eq_false c33
                        clear c33
                        obtain rfl := Option.some.inj H
                        have hcz38_0 : wr.cell? ⟨gb518, 0, none⟩ = some (.slice Ao10 t511.length co10) := (blk_cell BK518.out 0).trans rfl
                        have hcz38_1 : wr.cell? ⟨gb518, 1, none⟩ = some (.slice Ao12 t514.length co12) := (blk_cell BK518.out 1).trans rfl
                        have hfz38_0 := blk_frozen BK518.out 0
                        have hfz38_1 := blk_frozen BK518.out 1
                        go_wp2
                        go_ret
                        exact ⟨by first | rfl | (simp [errW_none, errW_some] <;> rfl) | (simp [*, errW_none, errW_some] <;> rfl), by repeat (first | (with_reducible first | exact HB.out | apply below_alloc | apply pw_below_drewN | apply below_drew1 | refine below_set ?_ GE518.out) | exact HB.out | exact ⟨HB.out.os, HB.out.tape, HB.out.output, HB.out.size, HB.out.block⟩)⟩
    · replace c5 := Bool.eq_false_iff.mpr c5
      subst c5
      have H1 : (if a0 = 1 then (if (wrap64 ((t511.length : Int) + (t514.length : Int))) = 0 then ((op_Known.f a0).bind fun t519 => (some (true == t519))) else (none)) else (if a0 = 2 then (if (wrap64 ((t511.length : Int) + (t514.length : Int))) = 0 then ((op_Known.f a0).bind fun t520 => (some (true == t520))) else (none)) else (if a0 = 3 then (if (wrap64 ((t511.length : Int) + (t514.length : Int))) = 0 then ((op_Known.f a0).bind fun t521 => (some (true == t521))) else (none)) else (if a0 = 4 then (if (wrap64 ((t511.length : Int) + (t514.length : Int))) = 0 then ((op_Known.f a0).bind fun t522 => (some (true == t522))) else (none)) else (if a0 = 5 then (if (wrap64 ((t511.length : Int) + (t514.length : Int))) = 0 then ((op_Known.f a0).bind fun t523 => (some (true == t523))) else (none)) else (if a0 = 7 then (if (wrap64 ((t511.length : Int) + (t514.length : Int))) = 0 then ((op_Known.f a0).bind fun t524 => (some (true == t524))) else (none)) else (if a0 = 8 then (if (wrap64 ((t511.length : Int) + (t514.length : Int))) = 0 then ((op_Known.f a0).bind fun t525 => (some (true == t525))) else (none)) else (if a0 = 30 then (if (wrap64 ((t511.length : Int) + (t514.length : Int))) = 0 then ((op_Known.f a0).bind fun t526 => (some (true == t526))) else (none)) else (if (wrap64 ((t511.length : Int) + (t514.length : Int))) = 0 then ((op_Known.f a0).bind fun t527 => (some ((a0 == 31) == t527))) else (none)))))))))) = some r := by rw [if_neg (show ¬ (false = true) by decide)] at H; exact H
      clear H
      have H := H1
      clear H1
      by_cases c39 : a0 = 1
      · rw [if_pos c39] at H
        have c39b0 : (a0 == 1) = true := beq_iff_eq.mpr c39
        have c39b1 : (a0 != 1) = false := bne_eq_false_iff_eq.mpr c39
        clear c39
        by_cases c40 : (wrap64 ((t511.length : Int) + (t514.length : Int))) = 0
        · rw [if_pos c40] at H
          have c40b0 : ((wrap64 ((t511.length : Int) + (t514.length : Int))) == 0) = true := beq_iff_eq.mpr c40
          have c40b1 : ((wrap64 ((t511.length : Int) + (t514.length : Int))) != 0) = false := bne_eq_false_iff_eq.mpr c40
          clear c40
          replace H := Option.bind_eq_some_iff.mp H
          obtain ⟨t519, A410, H⟩ := H
          replace H : (some (true == t519)) = some r := H
          have A41 := Aside0.mk A410
          clear A410
          obtain rfl := Option.some.inj H
          go_enter Tryd.func6, Tryd.ntmps6
          go_wp2_with (first | ((with_reducible refine gate_callee (f := 22) rfl ?_); refine goesL_ (some 8) rfl rfl Tryd.func22 (by kernel_rfl) rfl #[] rfl (by (try simp only [List.map_toArray, List.map_cons, List.map_nil]); first | done | rfl | (simp only [List.length_drop, List.length_take]; rfl)) ?_; (with_reducible refine (capstanlaw04_awake.calls k  true _ ?side1 A2.out).mono ?_); (case side1 => first | exact HG.out | ((repeat (first | exact HG.out | exact Gl.below HG.out HB.out | (with_reducible refine Gl.alloc ?_ _) | (with_reducible refine Gl.drewN ?_ _) | (with_reducible refine Gl.drew ?_))); done) | exact Gl.below HG.out (by repeat (first | (with_reducible first | exact HB.out | apply below_alloc | apply pw_below_drewN | apply below_drew1) | exact HB.out | exact ⟨HB.out.os, HB.out.tape, HB.out.output, HB.out.size, HB.out.block⟩))); rintro e w42 ⟨rfl, hb⟩; refine ⟨_, rfl, ?_⟩; have n0_ := Aside0.mk (below_step (by repeat (first | (with_reducible first | exact HB.out | apply below_alloc | apply pw_below_drewN | apply below_drew1) | exact HB.out | exact ⟨HB.out.os, HB.out.tape, HB.out.output, HB.out.size, HB.out.block⟩)) hb); clear HB; have HB := n0_; clear n0_; (try clear hb); (try clear hb2); (try clear hk); (try clear hi)) | ((with_reducible refine gate_callee (f := 23) rfl ?_); refine goesL_ (some 12) rfl rfl Tryd.func23 (by kernel_rfl) rfl #[.int .u8 a0] rfl (by (try simp only [List.map_toArray, List.map_cons, List.map_nil]); first | done | rfl | (simp only [List.length_drop, List.length_take]; rfl)) ?_; (with_reducible refine (op_Of.calls k a0 t511 t514 false _ A4.out).mono ?_); rintro e w43 ⟨v512, v515, rfl, ho0, ho1, hb⟩; refine ⟨_, rfl, ?_⟩; have n0_ := Aside0.mk (Kd.R_lower ho0 (below_size (by repeat (first | (with_reducible first | exact HB.out | apply below_alloc | apply pw_below_drewN | apply below_drew1) | exact HB.out | exact ⟨HB.out.os, HB.out.tape, HB.out.output, HB.out.size, HB.out.block⟩)))); have n1_ := Aside0.mk (Kd.R_lower ho1 (below_size (by repeat (first | (with_reducible first | exact HB.out | apply below_alloc | apply pw_below_drewN | apply below_drew1) | exact HB.out | exact ⟨HB.out.os, HB.out.tape, HB.out.output, HB.out.size, HB.out.block⟩)))); have n2_ := Aside0.mk (below_step (by repeat (first | (with_reducible first | exact HB.out | apply below_alloc | apply pw_below_drewN | apply below_drew1) | exact HB.out | exact ⟨HB.out.os, HB.out.tape, HB.out.output, HB.out.size, HB.out.block⟩)) hb); clear HB; have HO513 := n0_; have HO516 := n1_; have HB := n2_; clear n0_ n1_ n2_; (try clear hb); (try clear hb2); (try clear hk); (try clear hi); (try clear ho0); (try clear ho1)) | ((with_reducible refine gate_dst (N := 3) rfl ?_); (try (refine gate_guard (by rfl) ?_; dsimp only)); refine box_event ?hg (N := 3) ?hd (cs := #[.slice none 0 0, .slice none 0 0]) (t := 36) ?hr ?_; (case hd => rfl); (case hg => rfl); (case hr => first | (go_simp; done) | (go_simp; rfl)); intro gb518 hg w44 hbox hb; have n0_ := Aside0.mk (Kd.R_below (by (with_reducible repeat (first | apply Kd.R_alloc | apply Kd.R_drewN | apply Kd.R_drew)); exact HO513.out) hb); have n1_ := Aside0.mk (Kd.R_below (by (with_reducible repeat (first | apply Kd.R_alloc | apply Kd.R_drewN | apply Kd.R_drew)); exact HO516.out) hb); have n2_ := Aside0.mk (below_step (by repeat (first | (with_reducible first | exact HB.out | apply below_alloc | apply pw_below_drewN | apply below_drew1) | exact HB.out | exact ⟨HB.out.os, HB.out.tape, HB.out.output, HB.out.size, HB.out.block⟩)) hb); have n3_ := Aside0.mk (hbox); have n4_ := Aside0.mk ((by rw [hg]; exact (below_size (by repeat (first | (with_reducible first | exact HB.out | apply below_alloc | apply pw_below_drewN | apply below_drew1) | exact HB.out | exact ⟨HB.out.os, HB.out.tape, HB.out.output, HB.out.size, HB.out.block⟩))) : w.heap.size ≤ gb518)); have n5_ := Aside0.mk ((by rw [hg]; exact (below_size (by repeat (first | (with_reducible first | exact HB.out | apply below_alloc | apply pw_below_drewN | apply below_drew1) | exact HB.out | exact ⟨HB.out.os, HB.out.tape, HB.out.output, HB.out.size, HB.out.block⟩))) : w.heap.size ≤ gb518)); clear HO513; clear HO516; clear HB; have HO513 := n0_; have HO516 := n1_; have HB := n2_; have BK518 := n3_; have GW518 := n4_; have GE518 := n5_; clear n0_ n1_ n2_ n3_ n4_ n5_; clear hb hbox hg; obtain ⟨Ao45, co45, eo45⟩ := Kd.R_slice HO513.out; subst eo45; have hcz46_0 : w44.cell? ⟨gb518, 0, none⟩ = some (.slice none 0 0) := (blk_cell BK518.out 0).trans rfl; have hcz46_1 : w44.cell? ⟨gb518, 1, none⟩ = some (.slice none 0 0) := (blk_cell BK518.out 1).trans rfl; have hfz46_0 := blk_frozen BK518.out 0; have hfz46_1 := blk_frozen BK518.out 1; obtain ⟨Ao47, co47, eo47⟩ := Kd.R_slice HO516.out; subst eo47) | (go_at_call 12; (with_reducible refine (op_Known.calls a0 t519 _ A41.out).mono ?_); rintro e w' ⟨rfl, ⟨nd, rfl⟩⟩))
          go_ret
          exact ⟨by first | rfl | (simp [errW_none, errW_some] <;> rfl) | (simp [*, errW_none, errW_some] <;> rfl), by repeat (first | (with_reducible first | exact HB.out | apply below_alloc | apply pw_below_drewN | apply below_drew1 | refine below_set ?_ GE518.out) | exact HB.out | exact ⟨HB.out.os, HB.out.tape, HB.out.output, HB.out.size, HB.out.block⟩)⟩
        · rw [if_neg c40] at H
          exact absurd H (by simp)
      · rw [if_neg c39] at H
        have c39b0 : (a0 == 1) = false := beq_eq_false_iff_ne.mpr c39
        have c39b1 : (a0 != 1) = true := bne_iff_ne.mpr c39
        by_cases c48 : a0 = 2
        · rw [if_pos c48] at H
          have c48b0 : (a0 == 2) = true := beq_iff_eq.mpr c48
          have c48b1 : (a0 != 2) = false := bne_eq_false_iff_eq.mpr c48
          clear c48
          by_cases c49 : (wrap64 ((t511.length : Int) + (t514.length : Int))) = 0
          · rw [if_pos c49] at H
            have c49b0 : ((wrap64 ((t511.length : Int) + (t514.length : Int))) == 0) = true := beq_iff_eq.mpr c49
            have c49b1 : ((wrap64 ((t511.length : Int) + (t514.length : Int))) != 0) = false := bne_eq_false_iff_eq.mpr c49
            clear c49
            replace H := Option.bind_eq_some_iff.mp H
            obtain ⟨t520, A500, H⟩ := H
            replace H : (some (true == t520)) = some r := H
            have A50 := Aside0.mk A500
            clear A500
            obtain rfl := Option.some.inj H
            go_enter Tryd.func6, Tryd.ntmps6
            go_wp2_with (first | ((with_reducible refine gate_callee (f := 22) rfl ?_); refine goesL_ (some 8) rfl rfl Tryd.func22 (by kernel_rfl) rfl #[] rfl (by (try simp only [List.map_toArray, List.map_cons, List.map_nil]); first | done | rfl | (simp only [List.length_drop, List.length_take]; rfl)) ?_; (with_reducible refine (capstanlaw04_awake.calls k  true _ ?side1 A2.out).mono ?_); (case side1 => first | exact HG.out | ((repeat (first | exact HG.out | exact Gl.below HG.out HB.out | (with_reducible refine Gl.alloc ?_ _) | (with_reducible refine Gl.drewN ?_ _) | (with_reducible refine Gl.drew ?_))); done) | exact Gl.below HG.out (by repeat (first | (with_reducible first | exact HB.out | apply below_alloc | apply pw_below_drewN | apply below_drew1) | exact HB.out | exact ⟨HB.out.os, HB.out.tape, HB.out.output, HB.out.size, HB.out.block⟩))); rintro e w51 ⟨rfl, hb⟩; refine ⟨_, rfl, ?_⟩; have n0_ := Aside0.mk (below_step (by repeat (first | (with_reducible first | exact HB.out | apply below_alloc | apply pw_below_drewN | apply below_drew1) | exact HB.out | exact ⟨HB.out.os, HB.out.tape, HB.out.output, HB.out.size, HB.out.block⟩)) hb); clear HB; have HB := n0_; clear n0_; (try clear hb); (try clear hb2); (try clear hk); (try clear hi)) | ((with_reducible refine gate_callee (f := 23) rfl ?_); refine goesL_ (some 12) rfl rfl Tryd.func23 (by kernel_rfl) rfl #[.int .u8 a0] rfl (by (try simp only [List.map_toArray, List.map_cons, List.map_nil]); first | done | rfl | (simp only [List.length_drop, List.length_take]; rfl)) ?_; (with_reducible refine (op_Of.calls k a0 t511 t514 false _ A4.out).mono ?_); rintro e w52 ⟨v512, v515, rfl, ho0, ho1, hb⟩; refine ⟨_, rfl, ?_⟩; have n0_ := Aside0.mk (Kd.R_lower ho0 (below_size (by repeat (first | (with_reducible first | exact HB.out | apply below_alloc | apply pw_below_drewN | apply below_drew1) | exact HB.out | exact ⟨HB.out.os, HB.out.tape, HB.out.output, HB.out.size, HB.out.block⟩)))); have n1_ := Aside0.mk (Kd.R_lower ho1 (below_size (by repeat (first | (with_reducible first | exact HB.out | apply below_alloc | apply pw_below_drewN | apply below_drew1) | exact HB.out | exact ⟨HB.out.os, HB.out.tape, HB.out.output, HB.out.size, HB.out.block⟩)))); have n2_ := Aside0.mk (below_step (by repeat (first | (with_reducible first | exact HB.out | apply below_alloc | apply pw_below_drewN | apply below_drew1) | exact HB.out | exact ⟨HB.out.os, HB.out.tape, HB.out.output, HB.out.size, HB.out.block⟩)) hb); clear HB; have HO513 := n0_; have HO516 := n1_; have HB := n2_; clear n0_ n1_ n2_; (try clear hb); (try clear hb2); (try clear hk); (try clear hi); (try clear ho0); (try clear ho1)) | ((with_reducible refine gate_dst (N := 3) rfl ?_); (try (refine gate_guard (by rfl) ?_; dsimp only)); refine box_event ?hg (N := 3) ?hd (cs := #[.slice none 0 0, .slice none 0 0]) (t := 36) ?hr ?_; (case hd => rfl); (case hg => rfl); (case hr => first | (go_simp; done) | (go_simp; rfl)); intro gb518 hg w53 hbox hb; have n0_ := Aside0.mk (Kd.R_below (by (with_reducible repeat (first | apply Kd.R_alloc | apply Kd.R_drewN | apply Kd.R_drew)); exact HO513.out) hb); have n1_ := Aside0.mk (Kd.R_below (by (with_reducible repeat (first | apply Kd.R_alloc | apply Kd.R_drewN | apply Kd.R_drew)); exact HO516.out) hb); have n2_ := Aside0.mk (below_step (by repeat (first | (with_reducible first | exact HB.out | apply below_alloc | apply pw_below_drewN | apply below_drew1) | exact HB.out | exact ⟨HB.out.os, HB.out.tape, HB.out.output, HB.out.size, HB.out.block⟩)) hb); have n3_ := Aside0.mk (hbox); have n4_ := Aside0.mk ((by rw [hg]; exact (below_size (by repeat (first | (with_reducible first | exact HB.out | apply below_alloc | apply pw_below_drewN | apply below_drew1) | exact HB.out | exact ⟨HB.out.os, HB.out.tape, HB.out.output, HB.out.size, HB.out.block⟩))) : w.heap.size ≤ gb518)); have n5_ := Aside0.mk ((by rw [hg]; exact (below_size (by repeat (first | (with_reducible first | exact HB.out | apply below_alloc | apply pw_below_drewN | apply below_drew1) | exact HB.out | exact ⟨HB.out.os, HB.out.tape, HB.out.output, HB.out.size, HB.out.block⟩))) : w.heap.size ≤ gb518)); clear HO513; clear HO516; clear HB; have HO513 := n0_; have HO516 := n1_; have HB := n2_; have BK518 := n3_; have GW518 := n4_; have GE518 := n5_; clear n0_ n1_ n2_ n3_ n4_ n5_; clear hb hbox hg; obtain ⟨Ao54, co54, eo54⟩ := Kd.R_slice HO513.out; subst eo54; have hcz55_0 : w53.cell? ⟨gb518, 0, none⟩ = some (.slice none 0 0) := (blk_cell BK518.out 0).trans rfl; have hcz55_1 : w53.cell? ⟨gb518, 1, none⟩ = some (.slice none 0 0) := (blk_cell BK518.out 1).trans rfl; have hfz55_0 := blk_frozen BK518.out 0; have hfz55_1 := blk_frozen BK518.out 1; obtain ⟨Ao56, co56, eo56⟩ := Kd.R_slice HO516.out; subst eo56) | (go_at_call 12; (with_reducible refine (op_Known.calls a0 t520 _ A50.out).mono ?_); rintro e w' ⟨rfl, ⟨nd, rfl⟩⟩))
            go_ret
            exact ⟨by first | rfl | (simp [errW_none, errW_some] <;> rfl) | (simp [*, errW_none, errW_some] <;> rfl), by repeat (first | (with_reducible first | exact HB.out | apply below_alloc | apply pw_below_drewN | apply below_drew1 | refine below_set ?_ GE518.out) | exact HB.out | exact ⟨HB.out.os, HB.out.tape, HB.out.output, HB.out.size, HB.out.block⟩)⟩
          · rw [if_neg c49] at H
            exact absurd H (by simp)
        · rw [if_neg c48] at H
          have c48b0 : (a0 == 2) = false := beq_eq_false_iff_ne.mpr c48
          have c48b1 : (a0 != 2) = true := bne_iff_ne.mpr c48
          by_cases c57 : a0 = 3
          · rw [if_pos c57] at H
            have c57b0 : (a0 == 3) = true := beq_iff_eq.mpr c57
            have c57b1 : (a0 != 3) = false := bne_eq_false_iff_eq.mpr c57
            clear c57
            by_cases c58 : (wrap64 ((t511.length : Int) + (t514.length : Int))) = 0
            · rw [if_pos c58] at H
              have c58b0 : ((wrap64 ((t511.length : Int) + (t514.length : Int))) == 0) = true := beq_iff_eq.mpr c58
              have c58b1 : ((wrap64 ((t511.length : Int) + (t514.length : Int))) != 0) = false := bne_eq_false_iff_eq.mpr c58
              clear c58
              replace H := Option.bind_eq_some_iff.mp H
              obtain ⟨t521, A590, H⟩ := H
              replace H : (some (true == t521)) = some r := H
              have A59 := Aside0.mk A590
              clear A590
              obtain rfl := Option.some.inj H
              go_enter Tryd.func6, Tryd.ntmps6
              go_wp2_with (first | ((with_reducible refine gate_callee (f := 22) rfl ?_); refine goesL_ (some 8) rfl rfl Tryd.func22 (by kernel_rfl) rfl #[] rfl (by (try simp only [List.map_toArray, List.map_cons, List.map_nil]); first | done | rfl | (simp only [List.length_drop, List.length_take]; rfl)) ?_; (with_reducible refine (capstanlaw04_awake.calls k  true _ ?side1 A2.out).mono ?_); (case side1 => first | exact HG.out | ((repeat (first | exact HG.out | exact Gl.below HG.out HB.out | (with_reducible refine Gl.alloc ?_ _) | (with_reducible refine Gl.drewN ?_ _) | (with_reducible refine Gl.drew ?_))); done) | exact Gl.below HG.out (by repeat (first | (with_reducible first | exact HB.out | apply below_alloc | apply pw_below_drewN | apply below_drew1) | exact HB.out | exact ⟨HB.out.os, HB.out.tape, HB.out.output, HB.out.size, HB.out.block⟩))); rintro e w60 ⟨rfl, hb⟩; refine ⟨_, rfl, ?_⟩; have n0_ := Aside0.mk (below_step (by repeat (first | (with_reducible first | exact HB.out | apply below_alloc | apply pw_below_drewN | apply below_drew1) | exact HB.out | exact ⟨HB.out.os, HB.out.tape, HB.out.output, HB.out.size, HB.out.block⟩)) hb); clear HB; have HB := n0_; clear n0_; (try clear hb); (try clear hb2); (try clear hk); (try clear hi)) | ((with_reducible refine gate_callee (f := 23) rfl ?_); refine goesL_ (some 12) rfl rfl Tryd.func23 (by kernel_rfl) rfl #[.int .u8 a0] rfl (by (try simp only [List.map_toArray, List.map_cons, List.map_nil]); first | done | rfl | (simp only [List.length_drop, List.length_take]; rfl)) ?_; (with_reducible refine (op_Of.calls k a0 t511 t514 false _ A4.out).mono ?_); rintro e w61 ⟨v512, v515, rfl, ho0, ho1, hb⟩; refine ⟨_, rfl, ?_⟩; have n0_ := Aside0.mk (Kd.R_lower ho0 (below_size (by repeat (first | (with_reducible first | exact HB.out | apply below_alloc | apply pw_below_drewN | apply below_drew1) | exact HB.out | exact ⟨HB.out.os, HB.out.tape, HB.out.output, HB.out.size, HB.out.block⟩)))); have n1_ := Aside0.mk (Kd.R_lower ho1 (below_size (by repeat (first | (with_reducible first | exact HB.out | apply below_alloc | apply pw_below_drewN | apply below_drew1) | exact HB.out | exact ⟨HB.out.os, HB.out.tape, HB.out.output, HB.out.size, HB.out.block⟩)))); have n2_ := Aside0.mk (below_step (by repeat (first | (with_reducible first | exact HB.out | apply below_alloc | apply pw_below_drewN | apply below_drew1) | exact HB.out | exact ⟨HB.out.os, HB.out.tape, HB.out.output, HB.out.size, HB.out.block⟩)) hb); clear HB; have HO513 := n0_; have HO516 := n1_; have HB := n2_; clear n0_ n1_ n2_; (try clear hb); (try clear hb2); (try clear hk); (try clear hi); (try clear ho0); (try clear ho1)) | ((with_reducible refine gate_dst (N := 3) rfl ?_); (try (refine gate_guard (by rfl) ?_; dsimp only)); refine box_event ?hg (N := 3) ?hd (cs := #[.slice none 0 0, .slice none 0 0]) (t := 36) ?hr ?_; (case hd => rfl); (case hg => rfl); (case hr => first | (go_simp; done) | (go_simp; rfl)); intro gb518 hg w62 hbox hb; have n0_ := Aside0.mk (Kd.R_below (by (with_reducible repeat (first | apply Kd.R_alloc | apply Kd.R_drewN | apply Kd.R_drew)); exact HO513.out) hb); have n1_ := Aside0.mk (Kd.R_below (by (with_reducible repeat (first | apply Kd.R_alloc | apply Kd.R_drewN | apply Kd.R_drew)); exact HO516.out) hb); have n2_ := Aside0.mk (below_step (by repeat (first | (with_reducible first | exact HB.out | apply below_alloc | apply pw_below_drewN | apply below_drew1) | exact HB.out | exact ⟨HB.out.os, HB.out.tape, HB.out.output, HB.out.size, HB.out.block⟩)) hb); have n3_ := Aside0.mk (hbox); have n4_ := Aside0.mk ((by rw [hg]; exact (below_size (by repeat (first | (with_reducible first | exact HB.out | apply below_alloc | apply pw_below_drewN | apply below_drew1) | exact HB.out | exact ⟨HB.out.os, HB.out.tape, HB.out.output, HB.out.size, HB.out.block⟩))) : w.heap.size ≤ gb518)); have n5_ := Aside0.mk ((by rw [hg]; exact (below_size (by repeat (first | (with_reducible first | exact HB.out | apply below_alloc | apply pw_below_drewN | apply below_drew1) | exact HB.out | exact ⟨HB.out.os, HB.out.tape, HB.out.output, HB.out.size, HB.out.block⟩))) : w.heap.size ≤ gb518)); clear HO513; clear HO516; clear HB; have HO513 := n0_; have HO516 := n1_; have HB := n2_; have BK518 := n3_; have GW518 := n4_; have GE518 := n5_; clear n0_ n1_ n2_ n3_ n4_ n5_; clear hb hbox hg; obtain ⟨Ao63, co63, eo63⟩ := Kd.R_slice HO513.out; subst eo63; have hcz64_0 : w62.cell? ⟨gb518, 0, none⟩ = some (.slice none 0 0) := (blk_cell BK518.out 0).trans rfl; have hcz64_1 : w62.cell? ⟨gb518, 1, none⟩ = some (.slice none 0 0) := (blk_cell BK518.out 1).trans rfl; have hfz64_0 := blk_frozen BK518.out 0; have hfz64_1 := blk_frozen BK518.out 1; obtain ⟨Ao65, co65, eo65⟩ := Kd.R_slice HO516.out; subst eo65) | (go_at_call 12; (with_reducible refine (op_Known.calls a0 t521 _ A59.out).mono ?_); rintro e w' ⟨rfl, ⟨nd, rfl⟩⟩))
              go_ret
              exact ⟨by first | rfl | (simp [errW_none, errW_some] <;> rfl) | (simp [*, errW_none, errW_some] <;> rfl), by repeat (first | (with_reducible first | exact HB.out | apply below_alloc | apply pw_below_drewN | apply below_drew1 | refine below_set ?_ GE518.out) | exact HB.out | exact ⟨HB.out.os, HB.out.tape, HB.out.output, HB.out.size, HB.out.block⟩)⟩
            · rw [if_neg c58] at H
              exact absurd H (by simp)
          · rw [if_neg c57] at H
            have c57b0 : (a0 == 3) = false := beq_eq_false_iff_ne.mpr c57
            have c57b1 : (a0 != 3) = true := bne_iff_ne.mpr c57
            by_cases c66 : a0 = 4
            · rw [if_pos c66] at H
              have c66b0 : (a0 == 4) = true := beq_iff_eq.mpr c66
              have c66b1 : (a0 != 4) = false := bne_eq_false_iff_eq.mpr c66
              clear c66
              by_cases c67 : (wrap64 ((t511.length : Int) + (t514.length : Int))) = 0
              · rw [if_pos c67] at H
                have c67b0 : ((wrap64 ((t511.length : Int) + (t514.length : Int))) == 0) = true := beq_iff_eq.mpr c67
                have c67b1 : ((wrap64 ((t511.length : Int) + (t514.length : Int))) != 0) = false := bne_eq_false_iff_eq.mpr c67
                clear c67
                replace H := Option.bind_eq_some_iff.mp H
                obtain ⟨t522, A680, H⟩ := H
                replace H : (some (true == t522)) = some r := H
                have A68 := Aside0.mk A680
                clear A680
                obtain rfl := Option.some.inj H
                go_enter Tryd.func6, Tryd.ntmps6
                go_wp2_with (first | ((with_reducible refine gate_callee (f := 22) rfl ?_); refine goesL_ (some 8) rfl rfl Tryd.func22 (by kernel_rfl) rfl #[] rfl (by (try simp only [List.map_toArray, List.map_cons, List.map_nil]); first | done | rfl | (simp only [List.length_drop, List.length_take]; rfl)) ?_; (with_reducible refine (capstanlaw04_awake.calls k  true _ ?side1 A2.out).mono ?_); (case side1 => first | exact HG.out | ((repeat (first | exact HG.out | exact Gl.below HG.out HB.out | (with_reducible refine Gl.alloc ?_ _) | (with_reducible refine Gl.drewN ?_ _) | (with_reducible refine Gl.drew ?_))); done) | exact Gl.below HG.out (by repeat (first | (with_reducible first | exact HB.out | apply below_alloc | apply pw_below_drewN | apply below_drew1) | exact HB.out | exact ⟨HB.out.os, HB.out.tape, HB.out.output, HB.out.size, HB.out.block⟩))); rintro e w69 ⟨rfl, hb⟩; refine ⟨_, rfl, ?_⟩; have n0_ := Aside0.mk (below_step (by repeat (first | (with_reducible first | exact HB.out | apply below_alloc | apply pw_below_drewN | apply below_drew1) | exact HB.out | exact ⟨HB.out.os, HB.out.tape, HB.out.output, HB.out.size, HB.out.block⟩)) hb); clear HB; have HB := n0_; clear n0_; (try clear hb); (try clear hb2); (try clear hk); (try clear hi)) | ((with_reducible refine gate_callee (f := 23) rfl ?_); refine goesL_ (some 12) rfl rfl Tryd.func23 (by kernel_rfl) rfl #[.int .u8 a0] rfl (by (try simp only [List.map_toArray, List.map_cons, List.map_nil]); first | done | rfl | (simp only [List.length_drop, List.length_take]; rfl)) ?_; (with_reducible refine (op_Of.calls k a0 t511 t514 false _ A4.out).mono ?_); rintro e w70 ⟨v512, v515, rfl, ho0, ho1, hb⟩; refine ⟨_, rfl, ?_⟩; have n0_ := Aside0.mk (Kd.R_lower ho0 (below_size (by repeat (first | (with_reducible first | exact HB.out | apply below_alloc | apply pw_below_drewN | apply below_drew1) | exact HB.out | exact ⟨HB.out.os, HB.out.tape, HB.out.output, HB.out.size, HB.out.block⟩)))); have n1_ := Aside0.mk (Kd.R_lower ho1 (below_size (by repeat (first | (with_reducible first | exact HB.out | apply below_alloc | apply pw_below_drewN | apply below_drew1) | exact HB.out | exact ⟨HB.out.os, HB.out.tape, HB.out.output, HB.out.size, HB.out.block⟩)))); have n2_ := Aside0.mk (below_step (by repeat (first | (with_reducible first | exact HB.out | apply below_alloc | apply pw_below_drewN | apply below_drew1) | exact HB.out | exact ⟨HB.out.os, HB.out.tape, HB.out.output, HB.out.size, HB.out.block⟩)) hb); clear HB; have HO513 := n0_; have HO516 := n1_; have HB := n2_; clear n0_ n1_ n2_; (try clear hb); (try clear hb2); (try clear hk); (try clear hi); (try clear ho0); (try clear ho1)) | ((with_reducible refine gate_dst (N := 3) rfl ?_); (try (refine gate_guard (by rfl) ?_; dsimp only)); refine box_event ?hg (N := 3) ?hd (cs := #[.slice none 0 0, .slice none 0 0]) (t := 36) ?hr ?_; (case hd => rfl); (case hg => rfl); (case hr => first | (go_simp; done) | (go_simp; rfl)); intro gb518 hg w71 hbox hb; have n0_ := Aside0.mk (Kd.R_below (by (with_reducible repeat (first | apply Kd.R_alloc | apply Kd.R_drewN | apply Kd.R_drew)); exact HO513.out) hb); have n1_ := Aside0.mk (Kd.R_below (by (with_reducible repeat (first | apply Kd.R_alloc | apply Kd.R_drewN | apply Kd.R_drew)); exact HO516.out) hb); have n2_ := Aside0.mk (below_step (by repeat (first | (with_reducible first | exact HB.out | apply below_alloc | apply pw_below_drewN | apply below_drew1) | exact HB.out | exact ⟨HB.out.os, HB.out.tape, HB.out.output, HB.out.size, HB.out.block⟩)) hb); have n3_ := Aside0.mk (hbox); have n4_ := Aside0.mk ((by rw [hg]; exact (below_size (by repeat (first | (with_reducible first | exact HB.out | apply below_alloc | apply pw_below_drewN | apply below_drew1) | exact HB.out | exact ⟨HB.out.os, HB.out.tape, HB.out.output, HB.out.size, HB.out.block⟩))) : w.heap.size ≤ gb518)); have n5_ := Aside0.mk ((by rw [hg]; exact (below_size (by repeat (first | (with_reducible first | exact HB.out | apply below_alloc | apply pw_below_drewN | apply below_drew1) | exact HB.out | exact ⟨HB.out.os, HB.out.tape, HB.out.output, HB.out.size, HB.out.block⟩))) : w.heap.size ≤ gb518)); clear HO513; clear HO516; clear HB; have HO513 := n0_; have HO516 := n1_; have HB := n2_; have BK518 := n3_; have GW518 := n4_; have GE518 := n5_; clear n0_ n1_ n2_ n3_ n4_ n5_; clear hb hbox hg; obtain ⟨Ao72, co72, eo72⟩ := Kd.R_slice HO513.out; subst eo72; have hcz73_0 : w71.cell? ⟨gb518, 0, none⟩ = some (.slice none 0 0) := (blk_cell BK518.out 0).trans rfl; have hcz73_1 : w71.cell? ⟨gb518, 1, none⟩ = some (.slice none 0 0) := (blk_cell BK518.out 1).trans rfl; have hfz73_0 := blk_frozen BK518.out 0; have hfz73_1 := blk_frozen BK518.out 1; obtain ⟨Ao74, co74, eo74⟩ := Kd.R_slice HO516.out; subst eo74) | (go_at_call 12; (with_reducible refine (op_Known.calls a0 t522 _ A68.out).mono ?_); rintro e w' ⟨rfl, ⟨nd, rfl⟩⟩))
                go_ret
                exact ⟨by first | rfl | (simp [errW_none, errW_some] <;> rfl) | (simp [*, errW_none, errW_some] <;> rfl), by repeat (first | (with_reducible first | exact HB.out | apply below_alloc | apply pw_below_drewN | apply below_drew1 | refine below_set ?_ GE518.out) | exact HB.out | exact ⟨HB.out.os, HB.out.tape, HB.out.output, HB.out.size, HB.out.block⟩)⟩
              · rw [if_neg c67] at H
                exact absurd H (by simp)
            · rw [if_neg c66] at H
              have c66b0 : (a0 == 4) = false := beq_eq_false_iff_ne.mpr c66
              have c66b1 : (a0 != 4) = true := bne_iff_ne.mpr c66
              by_cases c75 : a0 = 5
              · rw [if_pos c75] at H
                have c75b0 : (a0 == 5) = true := beq_iff_eq.mpr c75
                have c75b1 : (a0 != 5) = false := bne_eq_false_iff_eq.mpr c75
                clear c75
                by_cases c76 : (wrap64 ((t511.length : Int) + (t514.length : Int))) = 0
                · rw [if_pos c76] at H
                  have c76b0 : ((wrap64 ((t511.length : Int) + (t514.length : Int))) == 0) = true := beq_iff_eq.mpr c76
                  have c76b1 : ((wrap64 ((t511.length : Int) + (t514.length : Int))) != 0) = false := bne_eq_false_iff_eq.mpr c76
                  clear c76
                  replace H := Option.bind_eq_some_iff.mp H
                  obtain ⟨t523, A770, H⟩ := H
                  replace H : (some (true == t523)) = some r := H
                  have A77 := Aside0.mk A770
                  clear A770
                  obtain rfl := Option.some.inj H
                  go_enter Tryd.func6, Tryd.ntmps6
                  go_wp2_with (first | ((with_reducible refine gate_callee (f := 22) rfl ?_); refine goesL_ (some 8) rfl rfl Tryd.func22 (by kernel_rfl) rfl #[] rfl (by (try simp only [List.map_toArray, List.map_cons, List.map_nil]); first | done | rfl | (simp only [List.length_drop, List.length_take]; rfl)) ?_; (with_reducible refine (capstanlaw04_awake.calls k  true _ ?side1 A2.out).mono ?_); (case side1 => first | exact HG.out | ((repeat (first | exact HG.out | exact Gl.below HG.out HB.out | (with_reducible refine Gl.alloc ?_ _) | (with_reducible refine Gl.drewN ?_ _) | (with_reducible refine Gl.drew ?_))); done) | exact Gl.below HG.out (by repeat (first | (with_reducible first | exact HB.out | apply below_alloc | apply pw_below_drewN | apply below_drew1) | exact HB.out | exact ⟨HB.out.os, HB.out.tape, HB.out.output, HB.out.size, HB.out.block⟩))); rintro e w78 ⟨rfl, hb⟩; refine ⟨_, rfl, ?_⟩; have n0_ := Aside0.mk (below_step (by repeat (first | (with_reducible first | exact HB.out | apply below_alloc | apply pw_below_drewN | apply below_drew1) | exact HB.out | exact ⟨HB.out.os, HB.out.tape, HB.out.output, HB.out.size, HB.out.block⟩)) hb); clear HB; have HB := n0_; clear n0_; (try clear hb); (try clear hb2); (try clear hk); (try clear hi)) | ((with_reducible refine gate_callee (f := 23) rfl ?_); refine goesL_ (some 12) rfl rfl Tryd.func23 (by kernel_rfl) rfl #[.int .u8 a0] rfl (by (try simp only [List.map_toArray, List.map_cons, List.map_nil]); first | done | rfl | (simp only [List.length_drop, List.length_take]; rfl)) ?_; (with_reducible refine (op_Of.calls k a0 t511 t514 false _ A4.out).mono ?_); rintro e w79 ⟨v512, v515, rfl, ho0, ho1, hb⟩; refine ⟨_, rfl, ?_⟩; have n0_ := Aside0.mk (Kd.R_lower ho0 (below_size (by repeat (first | (with_reducible first | exact HB.out | apply below_alloc | apply pw_below_drewN | apply below_drew1) | exact HB.out | exact ⟨HB.out.os, HB.out.tape, HB.out.output, HB.out.size, HB.out.block⟩)))); have n1_ := Aside0.mk (Kd.R_lower ho1 (below_size (by repeat (first | (with_reducible first | exact HB.out | apply below_alloc | apply pw_below_drewN | apply below_drew1) | exact HB.out | exact ⟨HB.out.os, HB.out.tape, HB.out.output, HB.out.size, HB.out.block⟩)))); have n2_ := Aside0.mk (below_step (by repeat (first | (with_reducible first | exact HB.out | apply below_alloc | apply pw_below_drewN | apply below_drew1) | exact HB.out | exact ⟨HB.out.os, HB.out.tape, HB.out.output, HB.out.size, HB.out.block⟩)) hb); clear HB; have HO513 := n0_; have HO516 := n1_; have HB := n2_; clear n0_ n1_ n2_; (try clear hb); (try clear hb2); (try clear hk); (try clear hi); (try clear ho0); (try clear ho1)) | ((with_reducible refine gate_dst (N := 3) rfl ?_); (try (refine gate_guard (by rfl) ?_; dsimp only)); refine box_event ?hg (N := 3) ?hd (cs := #[.slice none 0 0, .slice none 0 0]) (t := 36) ?hr ?_; (case hd => rfl); (case hg => rfl); (case hr => first | (go_simp; done) | (go_simp; rfl)); intro gb518 hg w80 hbox hb; have n0_ := Aside0.mk (Kd.R_below (by (with_reducible repeat (first | apply Kd.R_alloc | apply Kd.R_drewN | apply Kd.R_drew)); exact HO513.out) hb); have n1_ := Aside0.mk (Kd.R_below (by (with_reducible repeat (first | apply Kd.R_alloc | apply Kd.R_drewN | apply Kd.R_drew)); exact HO516.out) hb); have n2_ := Aside0.mk (below_step (by repeat (first | (with_reducible first | exact HB.out | apply below_alloc | apply pw_below_drewN | apply below_drew1) | exact HB.out | exact ⟨HB.out.os, HB.out.tape, HB.out.output, HB.out.size, HB.out.block⟩)) hb); have n3_ := Aside0.mk (hbox); have n4_ := Aside0.mk ((by rw [hg]; exact (below_size (by repeat (first | (with_reducible first | exact HB.out | apply below_alloc | apply pw_below_drewN | apply below_drew1) | exact HB.out | exact ⟨HB.out.os, HB.out.tape, HB.out.output, HB.out.size, HB.out.block⟩))) : w.heap.size ≤ gb518)); have n5_ := Aside0.mk ((by rw [hg]; exact (below_size (by repeat (first | (with_reducible first | exact HB.out | apply below_alloc | apply pw_below_drewN | apply below_drew1) | exact HB.out | exact ⟨HB.out.os, HB.out.tape, HB.out.output, HB.out.size, HB.out.block⟩))) : w.heap.size ≤ gb518)); clear HO513; clear HO516; clear HB; have HO513 := n0_; have HO516 := n1_; have HB := n2_; have BK518 := n3_; have GW518 := n4_; have GE518 := n5_; clear n0_ n1_ n2_ n3_ n4_ n5_; clear hb hbox hg; obtain ⟨Ao81, co81, eo81⟩ := Kd.R_slice HO513.out; subst eo81; have hcz82_0 : w80.cell? ⟨gb518, 0, none⟩ = some (.slice none 0 0) := (blk_cell BK518.out 0).trans rfl; have hcz82_1 : w80.cell? ⟨gb518, 1, none⟩ = some (.slice none 0 0) := (blk_cell BK518.out 1).trans rfl; have hfz82_0 := blk_frozen BK518.out 0; have hfz82_1 := blk_frozen BK518.out 1; obtain ⟨Ao83, co83, eo83⟩ := Kd.R_slice HO516.out; subst eo83) | (go_at_call 12; (with_reducible refine (op_Known.calls a0 t523 _ A77.out).mono ?_); rintro e w' ⟨rfl, ⟨nd, rfl⟩⟩))
                  go_ret
                  exact ⟨by first | rfl | (simp [errW_none, errW_some] <;> rfl) | (simp [*, errW_none, errW_some] <;> rfl), by repeat (first | (with_reducible first | exact HB.out | apply below_alloc | apply pw_below_drewN | apply below_drew1 | refine below_set ?_ GE518.out) | exact HB.out | exact ⟨HB.out.os, HB.out.tape, HB.out.output, HB.out.size, HB.out.block⟩)⟩
                · rw [if_neg c76] at H
                  exact absurd H (by simp)
              · rw [if_neg c75] at H
                have c75b0 : (a0 == 5) = false := beq_eq_false_iff_ne.mpr c75
                have c75b1 : (a0 != 5) = true := bne_iff_ne.mpr c75
                by_cases c84 : a0 = 7
                · rw [if_pos c84] at H
                  have c84b0 : (a0 == 7) = true := beq_iff_eq.mpr c84
                  have c84b1 : (a0 != 7) = false := bne_eq_false_iff_eq.mpr c84
                  clear c84
                  by_cases c85 : (wrap64 ((t511.length : Int) + (t514.length : Int))) = 0
                  · rw [if_pos c85] at H
                    have c85b0 : ((wrap64 ((t511.length : Int) + (t514.length : Int))) == 0) = true := beq_iff_eq.mpr c85
                    have c85b1 : ((wrap64 ((t511.length : Int) + (t514.length : Int))) != 0) = false := bne_eq_false_iff_eq.mpr c85
                    clear c85
                    replace H := Option.bind_eq_some_iff.mp H
                    obtain ⟨t524, A860, H⟩ := H
                    replace H : (some (true == t524)) = some r := H
                    have A86 := Aside0.mk A860
                    clear A860
                    obtain rfl := Option.some.inj H
                    go_enter Tryd.func6, Tryd.ntmps6
                    go_wp2_with (first | ((with_reducible refine gate_callee (f := 22) rfl ?_); refine goesL_ (some 8) rfl rfl Tryd.func22 (by kernel_rfl) rfl #[] rfl (by (try simp only [List.map_toArray, List.map_cons, List.map_nil]); first | done | rfl | (simp only [List.length_drop, List.length_take]; rfl)) ?_; (with_reducible refine (capstanlaw04_awake.calls k  true _ ?side1 A2.out).mono ?_); (case side1 => first | exact HG.out | ((repeat (first | exact HG.out | exact Gl.below HG.out HB.out | (with_reducible refine Gl.alloc ?_ _) | (with_reducible refine Gl.drewN ?_ _) | (with_reducible refine Gl.drew ?_))); done) | exact Gl.below HG.out (by repeat (first | (with_reducible first | exact HB.out | apply below_alloc | apply pw_below_drewN | apply below_drew1) | exact HB.out | exact ⟨HB.out.os, HB.out.tape, HB.out.output, HB.out.size, HB.out.block⟩))); rintro e w87 ⟨rfl, hb⟩; refine ⟨_, rfl, ?_⟩; have n0_ := Aside0.mk (below_step (by repeat (first | (with_reducible first | exact HB.out | apply below_alloc | apply pw_below_drewN | apply below_drew1) | exact HB.out | exact ⟨HB.out.os, HB.out.tape, HB.out.output, HB.out.size, HB.out.block⟩)) hb); clear HB; have HB := n0_; clear n0_; (try clear hb); (try clear hb2); (try clear hk); (try clear hi)) | ((with_reducible refine gate_callee (f := 23) rfl ?_); refine goesL_ (some 12) rfl rfl Tryd.func23 (by kernel_rfl) rfl #[.int .u8 a0] rfl (by (try simp only [List.map_toArray, List.map_cons, List.map_nil]); first | done | rfl | (simp only [List.length_drop, List.length_take]; rfl)) ?_; (with_reducible refine (op_Of.calls k a0 t511 t514 false _ A4.out).mono ?_); rintro e w88 ⟨v512, v515, rfl, ho0, ho1, hb⟩; refine ⟨_, rfl, ?_⟩; have n0_ := Aside0.mk (Kd.R_lower ho0 (below_size (by repeat (first | (with_reducible first | exact HB.out | apply below_alloc | apply pw_below_drewN | apply below_drew1) | exact HB.out | exact ⟨HB.out.os, HB.out.tape, HB.out.output, HB.out.size, HB.out.block⟩)))); have n1_ := Aside0.mk (Kd.R_lower ho1 (below_size (by repeat (first | (with_reducible first | exact HB.out | apply below_alloc | apply pw_below_drewN | apply below_drew1) | exact HB.out | exact ⟨HB.out.os, HB.out.tape, HB.out.output, HB.out.size, HB.out.block⟩)))); have n2_ := Aside0.mk (below_step (by repeat (first | (with_reducible first | exact HB.out | apply below_alloc | apply pw_below_drewN | apply below_drew1) | exact HB.out | exact ⟨HB.out.os, HB.out.tape, HB.out.output, HB.out.size, HB.out.block⟩)) hb); clear HB; have HO513 := n0_; have HO516 := n1_; have HB := n2_; clear n0_ n1_ n2_; (try clear hb); (try clear hb2); (try clear hk); (try clear hi); (try clear ho0); (try clear ho1)) | ((with_reducible refine gate_dst (N := 3) rfl ?_); (try (refine gate_guard (by rfl) ?_; dsimp only)); refine box_event ?hg (N := 3) ?hd (cs := #[.slice none 0 0, .slice none 0 0]) (t := 36) ?hr ?_; (case hd => rfl); (case hg => rfl); (case hr => first | (go_simp; done) | (go_simp; rfl)); intro gb518 hg w89 hbox hb; have n0_ := Aside0.mk (Kd.R_below (by (with_reducible repeat (first | apply Kd.R_alloc | apply Kd.R_drewN | apply Kd.R_drew)); exact HO513.out) hb); have n1_ := Aside0.mk (Kd.R_below (by (with_reducible repeat (first | apply Kd.R_alloc | apply Kd.R_drewN | apply Kd.R_drew)); exact HO516.out) hb); have n2_ := Aside0.mk (below_step (by repeat (first | (with_reducible first | exact HB.out | apply below_alloc | apply pw_below_drewN | apply below_drew1) | exact HB.out | exact ⟨HB.out.os, HB.out.tape, HB.out.output, HB.out.size, HB.out.block⟩)) hb); have n3_ := Aside0.mk (hbox); have n4_ := Aside0.mk ((by rw [hg]; exact (below_size (by repeat (first | (with_reducible first | exact HB.out | apply below_alloc | apply pw_below_drewN | apply below_drew1) | exact HB.out | exact ⟨HB.out.os, HB.out.tape, HB.out.output, HB.out.size, HB.out.block⟩))) : w.heap.size ≤ gb518)); have n5_ := Aside0.mk ((by rw [hg]; exact (below_size (by repeat (first | (with_reducible first | exact HB.out | apply below_alloc | apply pw_below_drewN | apply below_drew1) | exact HB.out | exact ⟨HB.out.os, HB.out.tape, HB.out.output, HB.out.size, HB.out.block⟩))) : w.heap.size ≤ gb518)); clear HO513; clear HO516; clear HB; have HO513 := n0_; have HO516 := n1_; have HB := n2_; have BK518 := n3_; have GW518 := n4_; have GE518 := n5_; clear n0_ n1_ n2_ n3_ n4_ n5_; clear hb hbox hg; obtain ⟨Ao90, co90, eo90⟩ := Kd.R_slice HO513.out; subst eo90; have hcz91_0 : w89.cell? ⟨gb518, 0, none⟩ = some (.slice none 0 0) := (blk_cell BK518.out 0).trans rfl; have hcz91_1 : w89.cell? ⟨gb518, 1, none⟩ = some (.slice none 0 0) := (blk_cell BK518.out 1).trans rfl; have hfz91_0 := blk_frozen BK518.out 0; have hfz91_1 := blk_frozen BK518.out 1; obtain ⟨Ao92, co92, eo92⟩ := Kd.R_slice HO516.out; subst eo92) | (go_at_call 12; (with_reducible refine (op_Known.calls a0 t524 _ A86.out).mono ?_); rintro e w' ⟨rfl, ⟨nd, rfl⟩⟩))
                    go_ret
                    exact ⟨by first | rfl | (simp [errW_none, errW_some] <;> rfl) | (simp [*, errW_none, errW_some] <;> rfl), by repeat (first | (with_reducible first | exact HB.out | apply below_alloc | apply pw_below_drewN | apply below_drew1 | refine below_set ?_ GE518.out) | exact HB.out | exact ⟨HB.out.os, HB.out.tape, HB.out.output, HB.out.size, HB.out.block⟩)⟩
                  · rw [if_neg c85] at H
                    exact absurd H (by simp)
                · rw [if_neg c84] at H
                  have c84b0 : (a0 == 7) = false := beq_eq_false_iff_ne.mpr c84
                  have c84b1 : (a0 != 7) = true := bne_iff_ne.mpr c84
                  by_cases c93 : a0 = 8
                  · rw [if_pos c93] at H
                    have c93b0 : (a0 == 8) = true := beq_iff_eq.mpr c93
                    have c93b1 : (a0 != 8) = false := bne_eq_false_iff_eq.mpr c93
                    clear c93
                    by_cases c94 : (wrap64 ((t511.length : Int) + (t514.length : Int))) = 0
                    · rw [if_pos c94] at H
                      have c94b0 : ((wrap64 ((t511.length : Int) + (t514.length : Int))) == 0) = true := beq_iff_eq.mpr c94
                      have c94b1 : ((wrap64 ((t511.length : Int) + (t514.length : Int))) != 0) = false := bne_eq_false_iff_eq.mpr c94
                      clear c94
                      replace H := Option.bind_eq_some_iff.mp H
                      obtain ⟨t525, A950, H⟩ := H
                      replace H : (some (true == t525)) = some r := H
                      have A95 := Aside0.mk A950
                      clear A950
                      obtain rfl := Option.some.inj H
                      go_enter Tryd.func6, Tryd.ntmps6
                      go_wp2_with (first | ((with_reducible refine gate_callee (f := 22) rfl ?_); refine goesL_ (some 8) rfl rfl Tryd.func22 (by kernel_rfl) rfl #[] rfl (by (try simp only [List.map_toArray, List.map_cons, List.map_nil]); first | done | rfl | (simp only [List.length_drop, List.length_take]; rfl)) ?_; (with_reducible refine (capstanlaw04_awake.calls k  true _ ?side1 A2.out).mono ?_); (case side1 => first | exact HG.out | ((repeat (first | exact HG.out | exact Gl.below HG.out HB.out | (with_reducible refine Gl.alloc ?_ _) | (with_reducible refine Gl.drewN ?_ _) | (with_reducible refine Gl.drew ?_))); done) | exact Gl.below HG.out (by repeat (first | (with_reducible first | exact HB.out | apply below_alloc | apply pw_below_drewN | apply below_drew1) | exact HB.out | exact ⟨HB.out.os, HB.out.tape, HB.out.output, HB.out.size, HB.out.block⟩))); rintro e w96 ⟨rfl, hb⟩; refine ⟨_, rfl, ?_⟩; have n0_ := Aside0.mk (below_step (by repeat (first | (with_reducible first | exact HB.out | apply below_alloc | apply pw_below_drewN | apply below_drew1) | exact HB.out | exact ⟨HB.out.os, HB.out.tape, HB.out.output, HB.out.size, HB.out.block⟩)) hb); clear HB; have HB := n0_; clear n0_; (try clear hb); (try clear hb2); (try clear hk); (try clear hi)) | ((with_reducible refine gate_callee (f := 23) rfl ?_); refine goesL_ (some 12) rfl rfl Tryd.func23 (by kernel_rfl) rfl #[.int .u8 a0] rfl (by (try simp only [List.map_toArray, List.map_cons, List.map_nil]); first | done | rfl | (simp only [List.length_drop, List.length_take]; rfl)) ?_; (with_reducible refine (op_Of.calls k a0 t511 t514 false _ A4.out).mono ?_); rintro e w97 ⟨v512, v515, rfl, ho0, ho1, hb⟩; refine ⟨_, rfl, ?_⟩; have n0_ := Aside0.mk (Kd.R_lower ho0 (below_size (by repeat (first | (with_reducible first | exact HB.out | apply below_alloc | apply pw_below_drewN | apply below_drew1) | exact HB.out | exact ⟨HB.out.os, HB.out.tape, HB.out.output, HB.out.size, HB.out.block⟩)))); have n1_ := Aside0.mk (Kd.R_lower ho1 (below_size (by repeat (first | (with_reducible first | exact HB.out | apply below_alloc | apply pw_below_drewN | apply below_drew1) | exact HB.out | exact ⟨HB.out.os, HB.out.tape, HB.out.output, HB.out.size, HB.out.block⟩)))); have n2_ := Aside0.mk (below_step (by repeat (first | (with_reducible first | exact HB.out | apply below_alloc | apply pw_below_drewN | apply below_drew1) | exact HB.out | exact ⟨HB.out.os, HB.out.tape, HB.out.output, HB.out.size, HB.out.block⟩)) hb); clear HB; have HO513 := n0_; have HO516 := n1_; have HB := n2_; clear n0_ n1_ n2_; (try clear hb); (try clear hb2); (try clear hk); (try clear hi); (try clear ho0); (try clear ho1)) | ((with_reducible refine gate_dst (N := 3) rfl ?_); (try (refine gate_guard (by rfl) ?_; dsimp only)); refine box_event ?hg (N := 3) ?hd (cs := #[.slice none 0 0, .slice none 0 0]) (t := 36) ?hr ?_; (case hd => rfl); (case hg => rfl); (case hr => first | (go_simp; done) | (go_simp; rfl)); intro gb518 hg w98 hbox hb; have n0_ := Aside0.mk (Kd.R_below (by (with_reducible repeat (first | apply Kd.R_alloc | apply Kd.R_drewN | apply Kd.R_drew)); exact HO513.out) hb); have n1_ := Aside0.mk (Kd.R_below (by (with_reducible repeat (first | apply Kd.R_alloc | apply Kd.R_drewN | apply Kd.R_drew)); exact HO516.out) hb); have n2_ := Aside0.mk (below_step (by repeat (first | (with_reducible first | exact HB.out | apply below_alloc | apply pw_below_drewN | apply below_drew1) | exact HB.out | exact ⟨HB.out.os, HB.out.tape, HB.out.output, HB.out.size, HB.out.block⟩)) hb); have n3_ := Aside0.mk (hbox); have n4_ := Aside0.mk ((by rw [hg]; exact (below_size (by repeat (first | (with_reducible first | exact HB.out | apply below_alloc | apply pw_below_drewN | apply below_drew1) | exact HB.out | exact ⟨HB.out.os, HB.out.tape, HB.out.output, HB.out.size, HB.out.block⟩))) : w.heap.size ≤ gb518)); have n5_ := Aside0.mk ((by rw [hg]; exact (below_size (by repeat (first | (with_reducible first | exact HB.out | apply below_alloc | apply pw_below_drewN | apply below_drew1) | exact HB.out | exact ⟨HB.out.os, HB.out.tape, HB.out.output, HB.out.size, HB.out.block⟩))) : w.heap.size ≤ gb518)); clear HO513; clear HO516; clear HB; have HO513 := n0_; have HO516 := n1_; have HB := n2_; have BK518 := n3_; have GW518 := n4_; have GE518 := n5_; clear n0_ n1_ n2_ n3_ n4_ n5_; clear hb hbox hg; obtain ⟨Ao99, co99, eo99⟩ := Kd.R_slice HO513.out; subst eo99; have hcz100_0 : w98.cell? ⟨gb518, 0, none⟩ = some (.slice none 0 0) := (blk_cell BK518.out 0).trans rfl; have hcz100_1 : w98.cell? ⟨gb518, 1, none⟩ = some (.slice none 0 0) := (blk_cell BK518.out 1).trans rfl; have hfz100_0 := blk_frozen BK518.out 0; have hfz100_1 := blk_frozen BK518.out 1; obtain ⟨Ao101, co101, eo101⟩ := Kd.R_slice HO516.out; subst eo101) | (go_at_call 12; (with_reducible refine (op_Known.calls a0 t525 _ A95.out).mono ?_); rintro e w' ⟨rfl, ⟨nd, rfl⟩⟩))
                      go_ret
                      exact ⟨by first | rfl | (simp [errW_none, errW_some] <;> rfl) | (simp [*, errW_none, errW_some] <;> rfl), by repeat (first | (with_reducible first | exact HB.out | apply below_alloc | apply pw_below_drewN | apply below_drew1 | refine below_set ?_ GE518.out) | exact HB.out | exact ⟨HB.out.os, HB.out.tape, HB.out.output, HB.out.size, HB.out.block⟩)⟩
                    · rw [if_neg c94] at H
                      exact absurd H (by simp)
                  · rw [if_neg c93] at H
                    have c93b0 : (a0 == 8) = false := beq_eq_false_iff_ne.mpr c93
                    have c93b1 : (a0 != 8) = true := bne_iff_ne.mpr c93
                    by_cases c102 : a0 = 30
                    · rw [if_pos c102] at H
                      have c102b0 : (a0 == 30) = true := beq_iff_eq.mpr c102
                      have c102b1 : (a0 != 30) = false := bne_eq_false_iff_eq.mpr c102
                      clear c102
                      by_cases c103 : (wrap64 ((t511.length : Int) + (t514.length : Int))) = 0
                      · rw [if_pos c103] at H
                        have c103b0 : ((wrap64 ((t511.length : Int) + (t514.length : Int))) == 0) = true := beq_iff_eq.mpr c103
                        have c103b1 : ((wrap64 ((t511.length : Int) + (t514.length : Int))) != 0) = false := bne_eq_false_iff_eq.mpr c103
                        clear c103
                        replace H := Option.bind_eq_some_iff.mp H
                        obtain ⟨t526, A1040, H⟩ := H
                        replace H : (some (true == t526)) = some r := H
                        have A104 := Aside0.mk A1040
                        clear A1040
                        obtain rfl := Option.some.inj H
                        go_enter Tryd.func6, Tryd.ntmps6
                        go_wp2_with (first | ((with_reducible refine gate_callee (f := 22) rfl ?_); refine goesL_ (some 8) rfl rfl Tryd.func22 (by kernel_rfl) rfl #[] rfl (by (try simp only [List.map_toArray, List.map_cons, List.map_nil]); first | done | rfl | (simp only [List.length_drop, List.length_take]; rfl)) ?_; (with_reducible refine (capstanlaw04_awake.calls k  true _ ?side1 A2.out).mono ?_); (case side1 => first | exact HG.out | ((repeat (first | exact HG.out | exact Gl.below HG.out HB.out | (with_reducible refine Gl.alloc ?_ _) | (with_reducible refine Gl.drewN ?_ _) | (with_reducible refine Gl.drew ?_))); done) | exact Gl.below HG.out (by repeat (first | (with_reducible first | exact HB.out | apply below_alloc | apply pw_below_drewN | apply below_drew1) | exact HB.out | exact ⟨HB.out.os, HB.out.tape, HB.out.output, HB.out.size, HB.out.block⟩))); rintro e w105 ⟨rfl, hb⟩; refine ⟨_, rfl, ?_⟩; have n0_ := Aside0.mk (below_step (by repeat (first | (with_reducible first | exact HB.out | apply below_alloc | apply pw_below_drewN | apply below_drew1) | exact HB.out | exact ⟨HB.out.os, HB.out.tape, HB.out.output, HB.out.size, HB.out.block⟩)) hb); clear HB; have HB := n0_; clear n0_; (try clear hb); (try clear hb2); (try clear hk); (try clear hi)) | ((with_reducible refine gate_callee (f := 23) rfl ?_); refine goesL_ (some 12) rfl rfl Tryd.func23 (by kernel_rfl) rfl #[.int .u8 a0] rfl (by (try simp only [List.map_toArray, List.map_cons, List.map_nil]); first | done | rfl | (simp only [List.length_drop, List.length_take]; rfl)) ?_; (with_reducible refine (op_Of.calls k a0 t511 t514 false _ A4.out).mono ?_); rintro e w106 ⟨v512, v515, rfl, ho0, ho1, hb⟩; refine ⟨_, rfl, ?_⟩; have n0_ := Aside0.mk (Kd.R_lower ho0 (below_size (by repeat (first | (with_reducible first | exact HB.out | apply below_alloc | apply pw_below_drewN | apply below_drew1) | exact HB.out | exact ⟨HB.out.os, HB.out.tape, HB.out.output, HB.out.size, HB.out.block⟩)))); have n1_ := Aside0.mk (Kd.R_lower ho1 (below_size (by repeat (first | (with_reducible first | exact HB.out | apply below_alloc | apply pw_below_drewN | apply below_drew1) | exact HB.out | exact ⟨HB.out.os, HB.out.tape, HB.out.output, HB.out.size, HB.out.block⟩)))); have n2_ := Aside0.mk (below_step (by repeat (first | (with_reducible first | exact HB.out | apply below_alloc | apply pw_below_drewN | apply below_drew1) | exact HB.out | exact ⟨HB.out.os, HB.out.tape, HB.out.output, HB.out.size, HB.out.block⟩)) hb); clear HB; have HO513 := n0_; have HO516 := n1_; have HB := n2_; clear n0_ n1_ n2_; (try clear hb); (try clear hb2); (try clear hk); (try clear hi); (try clear ho0); (try clear ho1)) | ((with_reducible refine gate_dst (N := 3) rfl ?_); (try (refine gate_guard (by rfl) ?_; dsimp only)); refine box_event ?hg (N := 3) ?hd (cs := #[.slice none 0 0, .slice none 0 0]) (t := 36) ?hr ?_; (case hd => rfl); (case hg => rfl); (case hr => first | (go_simp; done) | (go_simp; rfl)); intro gb518 hg w107 hbox hb; have n0_ := Aside0.mk (Kd.R_below (by (with_reducible repeat (first | apply Kd.R_alloc | apply Kd.R_drewN | apply Kd.R_drew)); exact HO513.out) hb); have n1_ := Aside0.mk (Kd.R_below (by (with_reducible repeat (first | apply Kd.R_alloc | apply Kd.R_drewN | apply Kd.R_drew)); exact HO516.out) hb); have n2_ := Aside0.mk (below_step (by repeat (first | (with_reducible first | exact HB.out | apply below_alloc | apply pw_below_drewN | apply below_drew1) | exact HB.out | exact ⟨HB.out.os, HB.out.tape, HB.out.output, HB.out.size, HB.out.block⟩)) hb); have n3_ := Aside0.mk (hbox); have n4_ := Aside0.mk ((by rw [hg]; exact (below_size (by repeat (first | (with_reducible first | exact HB.out | apply below_alloc | apply pw_below_drewN | apply below_drew1) | exact HB.out | exact ⟨HB.out.os, HB.out.tape, HB.out.output, HB.out.size, HB.out.block⟩))) : w.heap.size ≤ gb518)); have n5_ := Aside0.mk ((by rw [hg]; exact (below_size (by repeat (first | (with_reducible first | exact HB.out | apply below_alloc | apply pw_below_drewN | apply below_drew1) | exact HB.out | exact ⟨HB.out.os, HB.out.tape, HB.out.output, HB.out.size, HB.out.block⟩))) : w.heap.size ≤ gb518)); clear HO513; clear HO516; clear HB; have HO513 := n0_; have HO516 := n1_; have HB := n2_; have BK518 := n3_; have GW518 := n4_; have GE518 := n5_; clear n0_ n1_ n2_ n3_ n4_ n5_; clear hb hbox hg; obtain ⟨Ao108, co108, eo108⟩ := Kd.R_slice HO513.out; subst eo108; have hcz109_0 : w107.cell? ⟨gb518, 0, none⟩ = some (.slice none 0 0) := (blk_cell BK518.out 0).trans rfl; have hcz109_1 : w107.cell? ⟨gb518, 1, none⟩ = some (.slice none 0 0) := (blk_cell BK518.out 1).trans rfl; have hfz109_0 := blk_frozen BK518.out 0; have hfz109_1 := blk_frozen BK518.out 1; obtain ⟨Ao110, co110, eo110⟩ := Kd.R_slice HO516.out; subst eo110) | (go_at_call 12; (with_reducible refine (op_Known.calls a0 t526 _ A104.out).mono ?_); rintro e w' ⟨rfl, ⟨nd, rfl⟩⟩))
                        go_ret
                        exact ⟨by first | rfl | (simp [errW_none, errW_some] <;> rfl) | (simp [*, errW_none, errW_some] <;> rfl), by repeat (first | (with_reducible first | exact HB.out | apply below_alloc | apply pw_below_drewN | apply below_drew1 | refine below_set ?_ GE518.out) | exact HB.out | exact ⟨HB.out.os, HB.out.tape, HB.out.output, HB.out.size, HB.out.block⟩)⟩
                      · rw [if_neg c103] at H
                        exact absurd H (by simp)
                    · rw [if_neg c102] at H
                      have c102b0 : (a0 == 30) = false := beq_eq_false_iff_ne.mpr c102
                      have c102b1 : (a0 != 30) = true := bne_iff_ne.mpr c102
                      by_cases c111 : (wrap64 ((t511.length : Int) + (t514.length : Int))) = 0
                      · rw [if_pos c111] at H
                        have c111b0 : ((wrap64 ((t511.length : Int) + (t514.length : Int))) == 0) = true := beq_iff_eq.mpr c111
                        have c111b1 : ((wrap64 ((t511.length : Int) + (t514.length : Int))) != 0) = false := bne_eq_false_iff_eq.mpr c111
                        clear c111
                        replace H := Option.bind_eq_some_iff.mp H
                        obtain ⟨t527, A1120, H⟩ := H
                        replace H : (some ((a0 == 31) == t527)) = some r := H
                        have A112 := Aside0.mk A1120
                        clear A1120
                        obtain rfl := Option.some.inj H
                        go_enter Tryd.func6, Tryd.ntmps6
                        go_wp2_with (first | ((with_reducible refine gate_callee (f := 22) rfl ?_); refine goesL_ (some 8) rfl rfl Tryd.func22 (by kernel_rfl) rfl #[] rfl (by (try simp only [List.map_toArray, List.map_cons, List.map_nil]); first | done | rfl | (simp only [List.length_drop, List.length_take]; rfl)) ?_; (with_reducible refine (capstanlaw04_awake.calls k  true _ ?side1 A2.out).mono ?_); (case side1 => first | exact HG.out | ((repeat (first | exact HG.out | exact Gl.below HG.out HB.out | (with_reducible refine Gl.alloc ?_ _) | (with_reducible refine Gl.drewN ?_ _) | (with_reducible refine Gl.drew ?_))); done) | exact Gl.below HG.out (by repeat (first | (with_reducible first | exact HB.out | apply below_alloc | apply pw_below_drewN | apply below_drew1) | exact HB.out | exact ⟨HB.out.os, HB.out.tape, HB.out.output, HB.out.size, HB.out.block⟩))); rintro e w113 ⟨rfl, hb⟩; refine ⟨_, rfl, ?_⟩; have n0_ := Aside0.mk (below_step (by repeat (first | (with_reducible first | exact HB.out | apply below_alloc | apply pw_below_drewN | apply below_drew1) | exact HB.out | exact ⟨HB.out.os, HB.out.tape, HB.out.output, HB.out.size, HB.out.block⟩)) hb); clear HB; have HB := n0_; clear n0_; (try clear hb); (try clear hb2); (try clear hk); (try clear hi)) | ((with_reducible refine gate_callee (f := 23) rfl ?_); refine goesL_ (some 12) rfl rfl Tryd.func23 (by kernel_rfl) rfl #[.int .u8 a0] rfl (by (try simp only [List.map_toArray, List.map_cons, List.map_nil]); first | done | rfl | (simp only [List.length_drop, List.length_take]; rfl)) ?_; (with_reducible refine (op_Of.calls k a0 t511 t514 false _ A4.out).mono ?_); rintro e w114 ⟨v512, v515, rfl, ho0, ho1, hb⟩; refine ⟨_, rfl, ?_⟩; have n0_ := Aside0.mk (Kd.R_lower ho0 (below_size (by repeat (first | (with_reducible first | exact HB.out | apply below_alloc | apply pw_below_drewN | apply below_drew1) | exact HB.out | exact ⟨HB.out.os, HB.out.tape, HB.out.output, HB.out.size, HB.out.block⟩)))); have n1_ := Aside0.mk (Kd.R_lower ho1 (below_size (by repeat (first | (with_reducible first | exact HB.out | apply below_alloc | apply pw_below_drewN | apply below_drew1) | exact HB.out | exact ⟨HB.out.os, HB.out.tape, HB.out.output, HB.out.size, HB.out.block⟩)))); have n2_ := Aside0.mk (below_step (by repeat (first | (with_reducible first | exact HB.out | apply below_alloc | apply pw_below_drewN | apply below_drew1) | exact HB.out | exact ⟨HB.out.os, HB.out.tape, HB.out.output, HB.out.size, HB.out.block⟩)) hb); clear HB; have HO513 := n0_; have HO516 := n1_; have HB := n2_; clear n0_ n1_ n2_; (try clear hb); (try clear hb2); (try clear hk); (try clear hi); (try clear ho0); (try clear ho1)) | ((with_reducible refine gate_dst (N := 3) rfl ?_); (try (refine gate_guard (by rfl) ?_; dsimp only)); refine box_event ?hg (N := 3) ?hd (cs := #[.slice none 0 0, .slice none 0 0]) (t := 36) ?hr ?_; (case hd => rfl); (case hg => rfl); (case hr => first | (go_simp; done) | (go_simp; rfl)); intro gb518 hg w115 hbox hb; have n0_ := Aside0.mk (Kd.R_below (by (with_reducible repeat (first | apply Kd.R_alloc | apply Kd.R_drewN | apply Kd.R_drew)); exact HO513.out) hb); have n1_ := Aside0.mk (Kd.R_below (by (with_reducible repeat (first | apply Kd.R_alloc | apply Kd.R_drewN | apply Kd.R_drew)); exact HO516.out) hb); have n2_ := Aside0.mk (below_step (by repeat (first | (with_reducible first | exact HB.out | apply below_alloc | apply pw_below_drewN | apply below_drew1) | exact HB.out | exact ⟨HB.out.os, HB.out.tape, HB.out.output, HB.out.size, HB.out.block⟩)) hb); have n3_ := Aside0.mk (hbox); have n4_ := Aside0.mk ((by rw [hg]; exact (below_size (by repeat (first | (with_reducible first | exact HB.out | apply below_alloc | apply pw_below_drewN | apply below_drew1) | exact HB.out | exact ⟨HB.out.os, HB.out.tape, HB.out.output, HB.out.size, HB.out.block⟩))) : w.heap.size ≤ gb518)); have n5_ := Aside0.mk ((by rw [hg]; exact (below_size (by repeat (first | (with_reducible first | exact HB.out | apply below_alloc | apply pw_below_drewN | apply below_drew1) | exact HB.out | exact ⟨HB.out.os, HB.out.tape, HB.out.output, HB.out.size, HB.out.block⟩))) : w.heap.size ≤ gb518)); clear HO513; clear HO516; clear HB; have HO513 := n0_; have HO516 := n1_; have HB := n2_; have BK518 := n3_; have GW518 := n4_; have GE518 := n5_; clear n0_ n1_ n2_ n3_ n4_ n5_; clear hb hbox hg; obtain ⟨Ao116, co116, eo116⟩ := Kd.R_slice HO513.out; subst eo116; have hcz117_0 : w115.cell? ⟨gb518, 0, none⟩ = some (.slice none 0 0) := (blk_cell BK518.out 0).trans rfl; have hcz117_1 : w115.cell? ⟨gb518, 1, none⟩ = some (.slice none 0 0) := (blk_cell BK518.out 1).trans rfl; have hfz117_0 := blk_frozen BK518.out 0; have hfz117_1 := blk_frozen BK518.out 1; obtain ⟨Ao118, co118, eo118⟩ := Kd.R_slice HO516.out; subst eo118) | (go_at_call 12; (with_reducible refine (op_Known.calls a0 t527 _ A112.out).mono ?_); rintro e w' ⟨rfl, ⟨nd, rfl⟩⟩))
                        go_ret
                        exact ⟨by first | rfl | (simp [errW_none, errW_some] <;> rfl) | (simp [*, errW_none, errW_some] <;> rfl), by repeat (first | (with_reducible first | exact HB.out | apply below_alloc | apply pw_below_drewN | apply below_drew1 | refine below_set ?_ GE518.out) | exact HB.out | exact ⟨HB.out.os, HB.out.tape, HB.out.output, HB.out.size, HB.out.block⟩)⟩
                      · rw [if_neg c111] at H
                        exact absurd H (by simp)
  · replace c3 := Bool.eq_false_iff.mpr c3
    subst c3
    have H1 : (none) = some r := by rw [if_neg (show ¬ (false = true) by decide)] at H; exact H
    clear H
    have H := H1
    clear H1
    exact absurd H (by simp)

/-- THE ONE PURE STATEMENT of capstanlaw04_OpShape: yours. -/
def capstanlaw04_OpShape.Pure : Prop := ∀ (a0 : Int), (Lit.int .u8 a0).wf = true → ∃ k, capstanlaw04_OpShape.f k a0 = some true
theorem capstanlaw04_OpShape.walk (P : capstanlaw04_OpShape.Pure) (a0 : Int) (w : World) (hG : Gl w) (w0 : (Lit.int .u8 a0).wf = true) :
    Calls Tryd.prog 6 #[.int .u8 a0] w fun e w' => e = .returned (.bool true) ∧ Below w.heap.size w w' := by
  obtain ⟨k, h⟩ := P a0 w0
  refine (capstanlaw04_OpShape.calls k a0 true w hG h).mono ?_
  rintro e w' ⟨rfl, hd⟩
  exact ⟨rfl, hd⟩

end Go.Proofs.YtahkaekiandchaaDoor.R
