/- Contracts of the functions of this seat (each: the call of the function does what the plain Lean function of the same name tells; the conditions stand in each statement). Written by a program of this session and by hand; checked by Lean. -/
import Derived.Test.YtdcclddfdjijaaaP0
import Derived.Test.YtdcclddfdjijaaaP2
import Derived.Test.YtdcclddfdjijaaaP3
import Derived.Test.YtdcclddfdjijaaaP4
import Derived.Test.YtdcclddfdjijaaaP5
namespace Go.Proofs.Ytdcclddfdjijaaa.P
open Go.RowKit Go.Proofs.YtdcclddfdjijaaaW.PrintWords Go.Proofs.YtdcclddfdjijaaaW.PrintLast Go.Proofs.YtdcclddfdjijaaaW.PrintMore
attribute [local go_sem] max2_int min2_int max_two min_two max_three min_three max_four min_four   -- for this text's walks alone
set_option linter.unusedVariables false
set_option linter.unusedSimpArgs false

/-! ### capstanlaw01_OctetGets: function 4 -/
mutual
def capstanlaw01_OctetGets.j0 : Nat → List Int → List Int → List Int → Bool → Option (Bool)
  | 0, _, _, _, _ => none
  | k + 1, x0, x7, x20, x26 => capstanlaw01_OctetGets.l0 k x0 x7 x20 x26 0
def capstanlaw01_OctetGets.l0 : Nat → List Int → List Int → List Int → Bool → Int → Option (Bool)
  | 0, _, _, _, _, _ => none
  | k + 1, x0, x7, x20, x26, x27 => if x27 < (x20.length : Int) then (if 0 ≤ x27 then (capstanlaw01_OctetGets.l0 k x0 x7 (x20.set (x27 : Int).toNat (((rd x20 x27) + 1) % 256)) x26 (wrap64 (x27 + 1))) else (none)) else (if x26 = true then (some ((strOfNums x7).toList == (strOfNums x0).toList)) else (none))
end
def capstanlaw01_OctetGets.f (k : Nat) (l0 : List Int) (a1 : Int) (a2 : Int) : Option (Bool) := if (l0.length : Int) > 2000 then (some true) else ((capstanref01_Copy.f l0).bind fun t180 => ((octet_Get.f k t180 a1 a2).bind fun bt183 => ((capstanref01_Get.f k l0 a1 a2).bind fun bt186 => ((octet_GetSigned.f k t180 a1).bind fun bt189 => ((capstanref01_GetSigned.f k l0 a1).bind fun bt192 => ((octet_GetRow.f k t180 a1).bind fun bt195 => ((capstanref01_GetRow.f k l0 a1).bind fun bt200 => (if bt183.1 = bt186.1 then (if bt183.2.1 = bt186.2.1 then (if bt183.2.2 = bt186.2.2 then (if bt189.1 = bt192.1 then (if bt189.2.1 = bt192.2.1 then (if bt189.2.2 = bt192.2.2 then (if (strOfNums bt195.1).toList = (strOfNums bt200.1).toList then (if bt195.2.1 = bt200.2.1 then (capstanlaw01_OctetGets.j0 k l0 t180 bt195.1 (bt195.2.2 == bt200.2.2)) else (none)) else (none)) else (none)) else (none)) else (none)) else (none)) else (none)) else (none)))))))))
theorem capstanlaw01_OctetGets.mono_l : ∀ k, (∀ y0 y1 y2 y3, LeO (capstanlaw01_OctetGets.j0 k y0 y1 y2 y3) (capstanlaw01_OctetGets.j0 (k + 1) y0 y1 y2 y3)) ∧ (∀ y0 y1 y2 y3 y4, LeO (capstanlaw01_OctetGets.l0 k y0 y1 y2 y3 y4) (capstanlaw01_OctetGets.l0 (k + 1) y0 y1 y2 y3 y4))
  | 0 => ⟨fun _ _ _ _ r h => by simp [capstanlaw01_OctetGets.j0] at h, fun _ _ _ _ _ r h => by simp [capstanlaw01_OctetGets.l0] at h⟩
  | k + 1 => by
    obtain ⟨ih0, ih1⟩ := capstanlaw01_OctetGets.mono_l k
    refine ⟨?_, ?_⟩
    · intro y0 y1 y2 y3
      unfold capstanlaw01_OctetGets.j0
      repeat' first
      | (with_reducible exact ih0 _ _ _ _)
      | (with_reducible exact ih1 _ _ _ _ _)
      | (with_reducible exact capstanref01_Get.mono _ _ _ _)
      | (with_reducible exact capstanref01_GetRow.mono _ _ _)
      | (with_reducible exact capstanref01_GetSigned.mono _ _ _)
      | (with_reducible exact octet_Get.mono _ _ _ _)
      | (with_reducible exact octet_GetRow.mono _ _ _)
      | (with_reducible exact octet_GetSigned.mono _ _ _)
      | (with_reducible exact LeO.refl _)
      | (with_reducible exact LeO.none _)
      | (with_reducible refine LeO.ite ?_ ?_)
      | (with_reducible refine LeO.bind ?_ (fun _ => ?_))
      | exact ih0 _ _ _ _
      | exact ih1 _ _ _ _ _
      | exact capstanref01_Get.mono _ _ _ _
      | exact capstanref01_GetRow.mono _ _ _
      | exact capstanref01_GetSigned.mono _ _ _
      | exact octet_Get.mono _ _ _ _
      | exact octet_GetRow.mono _ _ _
      | exact octet_GetSigned.mono _ _ _
      | exact LeO.none _
      | refine LeO.ite ?_ ?_
      | refine LeO.bind ?_ (fun _ => ?_)
    · intro y0 y1 y2 y3 y4
      unfold capstanlaw01_OctetGets.l0
      repeat' first
      | (with_reducible exact ih0 _ _ _ _)
      | (with_reducible exact ih1 _ _ _ _ _)
      | (with_reducible exact capstanref01_Get.mono _ _ _ _)
      | (with_reducible exact capstanref01_GetRow.mono _ _ _)
      | (with_reducible exact capstanref01_GetSigned.mono _ _ _)
      | (with_reducible exact octet_Get.mono _ _ _ _)
      | (with_reducible exact octet_GetRow.mono _ _ _)
      | (with_reducible exact octet_GetSigned.mono _ _ _)
      | (with_reducible exact LeO.refl _)
      | (with_reducible exact LeO.none _)
      | (with_reducible refine LeO.ite ?_ ?_)
      | (with_reducible refine LeO.bind ?_ (fun _ => ?_))
      | exact ih0 _ _ _ _
      | exact ih1 _ _ _ _ _
      | exact capstanref01_Get.mono _ _ _ _
      | exact capstanref01_GetRow.mono _ _ _
      | exact capstanref01_GetSigned.mono _ _ _
      | exact octet_Get.mono _ _ _ _
      | exact octet_GetRow.mono _ _ _
      | exact octet_GetSigned.mono _ _ _
      | exact LeO.none _
      | refine LeO.ite ?_ ?_
      | refine LeO.bind ?_ (fun _ => ?_)
theorem capstanlaw01_OctetGets.mono : ∀ a0 a1 a2 k, LeO (capstanlaw01_OctetGets.f k a0 a1 a2) (capstanlaw01_OctetGets.f (k + 1) a0 a1 a2) := by
  intro a0 a1 a2 k
  obtain ⟨ih0, ih1⟩ := capstanlaw01_OctetGets.mono_l k
  unfold capstanlaw01_OctetGets.f
  repeat' first
      | (with_reducible exact ih0 _ _ _ _)
      | (with_reducible exact ih1 _ _ _ _ _)
      | (with_reducible exact capstanref01_Get.mono _ _ _ _)
      | (with_reducible exact capstanref01_GetRow.mono _ _ _)
      | (with_reducible exact capstanref01_GetSigned.mono _ _ _)
      | (with_reducible exact octet_Get.mono _ _ _ _)
      | (with_reducible exact octet_GetRow.mono _ _ _)
      | (with_reducible exact octet_GetSigned.mono _ _ _)
      | (with_reducible exact LeO.refl _)
      | (with_reducible exact LeO.none _)
      | (with_reducible refine LeO.ite ?_ ?_)
      | (with_reducible refine LeO.bind ?_ (fun _ => ?_))
      | exact ih0 _ _ _ _
      | exact ih1 _ _ _ _ _
      | exact capstanref01_Get.mono _ _ _ _
      | exact capstanref01_GetRow.mono _ _ _
      | exact capstanref01_GetSigned.mono _ _ _
      | exact octet_Get.mono _ _ _ _
      | exact octet_GetRow.mono _ _ _
      | exact octet_GetSigned.mono _ _ _
      | exact LeO.none _
      | refine LeO.ite ?_ ?_
      | refine LeO.bind ?_ (fun _ => ?_)
set_option maxHeartbeats 8000000 in
set_option maxRecDepth 100000 in
theorem capstanlaw01_OctetGets.calls (k : Nat) (A0 : Option Addr) (c0 : Nat) (l0 : List Int) (a1 : Int) (a2 : Int) (r : Bool) (w : World) (hr0 : Kd.C (Kd.int .u8) w A0 l0.length l0) (hc0 : l0.length ≤ c0) (h : capstanlaw01_OctetGets.f k l0 a1 a2 = some r) :
    Calls Try.prog 4 #[.slice A0 l0.length c0, .int .i64 a1, .int .i64 a2] w fun e w' => e = .returned (.bool r) ∧ Below w.heap.size w w' := by
  have HR0 := Aside0.mk hr0
  have HC0 := Aside0.mk hc0
  clear hr0 hc0
  have HB := Aside0.mk (Below.refl w.heap.size w)
  have H : (if (l0.length : Int) > 2000 then (some true) else ((capstanref01_Copy.f l0).bind fun t180 => ((octet_Get.f k t180 a1 a2).bind fun bt183 => ((capstanref01_Get.f k l0 a1 a2).bind fun bt186 => ((octet_GetSigned.f k t180 a1).bind fun bt189 => ((capstanref01_GetSigned.f k l0 a1).bind fun bt192 => ((octet_GetRow.f k t180 a1).bind fun bt195 => ((capstanref01_GetRow.f k l0 a1).bind fun bt200 => (if bt183.1 = bt186.1 then (if bt183.2.1 = bt186.2.1 then (if bt183.2.2 = bt186.2.2 then (if bt189.1 = bt192.1 then (if bt189.2.1 = bt192.2.1 then (if bt189.2.2 = bt192.2.2 then (if (strOfNums bt195.1).toList = (strOfNums bt200.1).toList then (if bt195.2.1 = bt200.2.1 then (capstanlaw01_OctetGets.j0 k l0 t180 bt195.1 (bt195.2.2 == bt200.2.2)) else (none)) else (none)) else (none)) else (none)) else (none)) else (none)) else (none)) else (none)))))))))) = some r := h
  clear h
  by_cases c4 : (l0.length : Int) > 2000
  · rw [if_pos c4] at H
    have c4b0 : decide (2000 < (l0.length : Int)) = true := decide_eq_true c4
    have c4b1 : decide (2000 < l0.length) = true := decide_eq_true (by omega)
    clear c4
    obtain rfl := Option.some.inj H
    go_enter Try.func4, Try.ntmps4
    go_wp2
    go_ret
    exact ⟨by first | rfl | (simp [errW_none, errW_some] <;> rfl) | (simp [*, errW_none, errW_some] <;> rfl), by repeat (first | (with_reducible first | exact HB.out | apply below_alloc | apply pw_below_drewN | apply below_drew1) | exact HB.out | exact ⟨HB.out.os, HB.out.tape, HB.out.output, HB.out.size, HB.out.block⟩)⟩
  · rw [if_neg c4] at H
    have c4b0 : decide (2000 < (l0.length : Int)) = false := decide_eq_false c4
    have c4b1 : decide (2000 < l0.length) = false := decide_eq_false (by omega)
    clear c4
    replace H := Option.bind_eq_some_iff.mp H
    obtain ⟨t180, A50, H⟩ := H
    replace H : ((octet_Get.f k t180 a1 a2).bind fun bt183 => ((capstanref01_Get.f k l0 a1 a2).bind fun bt186 => ((octet_GetSigned.f k t180 a1).bind fun bt189 => ((capstanref01_GetSigned.f k l0 a1).bind fun bt192 => ((octet_GetRow.f k t180 a1).bind fun bt195 => ((capstanref01_GetRow.f k l0 a1).bind fun bt200 => (if bt183.1 = bt186.1 then (if bt183.2.1 = bt186.2.1 then (if bt183.2.2 = bt186.2.2 then (if bt189.1 = bt192.1 then (if bt189.2.1 = bt192.2.1 then (if bt189.2.2 = bt192.2.2 then (if (strOfNums bt195.1).toList = (strOfNums bt200.1).toList then (if bt195.2.1 = bt200.2.1 then (capstanlaw01_OctetGets.j0 k l0 t180 bt195.1 (bt195.2.2 == bt200.2.2)) else (none)) else (none)) else (none)) else (none)) else (none)) else (none)) else (none)) else (none)))))))) = some r := H
    have A5 := Aside0.mk A50
    clear A50
    replace H := Option.bind_eq_some_iff.mp H
    obtain ⟨⟨t183, t184, t185⟩, A60, H⟩ := H
    replace H : ((capstanref01_Get.f k l0 a1 a2).bind fun bt186 => ((octet_GetSigned.f k t180 a1).bind fun bt189 => ((capstanref01_GetSigned.f k l0 a1).bind fun bt192 => ((octet_GetRow.f k t180 a1).bind fun bt195 => ((capstanref01_GetRow.f k l0 a1).bind fun bt200 => (if t183 = bt186.1 then (if t184 = bt186.2.1 then (if t185 = bt186.2.2 then (if bt189.1 = bt192.1 then (if bt189.2.1 = bt192.2.1 then (if bt189.2.2 = bt192.2.2 then (if (strOfNums bt195.1).toList = (strOfNums bt200.1).toList then (if bt195.2.1 = bt200.2.1 then (capstanlaw01_OctetGets.j0 k l0 t180 bt195.1 (bt195.2.2 == bt200.2.2)) else (none)) else (none)) else (none)) else (none)) else (none)) else (none)) else (none)) else (none))))))) = some r := H
    have A6 := Aside0.mk A60
    clear A60
    replace H := Option.bind_eq_some_iff.mp H
    obtain ⟨⟨t186, t187, t188⟩, A70, H⟩ := H
    replace H : ((octet_GetSigned.f k t180 a1).bind fun bt189 => ((capstanref01_GetSigned.f k l0 a1).bind fun bt192 => ((octet_GetRow.f k t180 a1).bind fun bt195 => ((capstanref01_GetRow.f k l0 a1).bind fun bt200 => (if t183 = t186 then (if t184 = t187 then (if t185 = t188 then (if bt189.1 = bt192.1 then (if bt189.2.1 = bt192.2.1 then (if bt189.2.2 = bt192.2.2 then (if (strOfNums bt195.1).toList = (strOfNums bt200.1).toList then (if bt195.2.1 = bt200.2.1 then (capstanlaw01_OctetGets.j0 k l0 t180 bt195.1 (bt195.2.2 == bt200.2.2)) else (none)) else (none)) else (none)) else (none)) else (none)) else (none)) else (none)) else (none)))))) = some r := H
    have A7 := Aside0.mk A70
    clear A70
    replace H := Option.bind_eq_some_iff.mp H
    obtain ⟨⟨t189, t190, t191⟩, A80, H⟩ := H
    replace H : ((capstanref01_GetSigned.f k l0 a1).bind fun bt192 => ((octet_GetRow.f k t180 a1).bind fun bt195 => ((capstanref01_GetRow.f k l0 a1).bind fun bt200 => (if t183 = t186 then (if t184 = t187 then (if t185 = t188 then (if t189 = bt192.1 then (if t190 = bt192.2.1 then (if t191 = bt192.2.2 then (if (strOfNums bt195.1).toList = (strOfNums bt200.1).toList then (if bt195.2.1 = bt200.2.1 then (capstanlaw01_OctetGets.j0 k l0 t180 bt195.1 (bt195.2.2 == bt200.2.2)) else (none)) else (none)) else (none)) else (none)) else (none)) else (none)) else (none)) else (none))))) = some r := H
    have A8 := Aside0.mk A80
    clear A80
    replace H := Option.bind_eq_some_iff.mp H
    obtain ⟨⟨t192, t193, t194⟩, A90, H⟩ := H
    replace H : ((octet_GetRow.f k t180 a1).bind fun bt195 => ((capstanref01_GetRow.f k l0 a1).bind fun bt200 => (if t183 = t186 then (if t184 = t187 then (if t185 = t188 then (if t189 = t192 then (if t190 = t193 then (if t191 = t194 then (if (strOfNums bt195.1).toList = (strOfNums bt200.1).toList then (if bt195.2.1 = bt200.2.1 then (capstanlaw01_OctetGets.j0 k l0 t180 bt195.1 (bt195.2.2 == bt200.2.2)) else (none)) else (none)) else (none)) else (none)) else (none)) else (none)) else (none)) else (none)))) = some r := H
    have A9 := Aside0.mk A90
    clear A90
    replace H := Option.bind_eq_some_iff.mp H
    obtain ⟨⟨t195, t196, t197⟩, A100, H⟩ := H
    replace H : ((capstanref01_GetRow.f k l0 a1).bind fun bt200 => (if t183 = t186 then (if t184 = t187 then (if t185 = t188 then (if t189 = t192 then (if t190 = t193 then (if t191 = t194 then (if (strOfNums t195).toList = (strOfNums bt200.1).toList then (if t196 = bt200.2.1 then (capstanlaw01_OctetGets.j0 k l0 t180 t195 (t197 == bt200.2.2)) else (none)) else (none)) else (none)) else (none)) else (none)) else (none)) else (none)) else (none))) = some r := H
    have A10 := Aside0.mk A100
    clear A100
    replace H := Option.bind_eq_some_iff.mp H
    obtain ⟨⟨t200, t201, t202⟩, A110, H⟩ := H
    replace H : (if t183 = t186 then (if t184 = t187 then (if t185 = t188 then (if t189 = t192 then (if t190 = t193 then (if t191 = t194 then (if (strOfNums t195).toList = (strOfNums t200).toList then (if t196 = t201 then (capstanlaw01_OctetGets.j0 k l0 t180 t195 (t197 == t202)) else (none)) else (none)) else (none)) else (none)) else (none)) else (none)) else (none)) else (none)) = some r := H
    have A11 := Aside0.mk A110
    clear A110
    have HC12 := Aside0.mk H
    clear H
    go_enter Try.func4, Try.ntmps4
    go_upto_region 10 with (first | ((with_reducible refine gate_callee (f := 10) rfl ?_); refine goesL_ (some 32) rfl rfl Try.func10 (by kernel_rfl) rfl #[.slice A0 l0.length c0] rfl (by (try simp only [List.map_toArray, List.map_cons, List.map_nil]); first | done | rfl | (simp only [List.length_drop, List.length_take]; rfl)) ?_; (with_reducible refine (capstanref01_Copy.calls _ _ l0 t180 _ ?side1 ?side2 A5.out).mono ?_); (case side1 => repeat (first | exact HR0.out | (with_reducible refine Kd.C_alloc ?_ _) | (with_reducible refine Kd.C_drewN ?_ _) | (with_reducible refine Kd.C_drew ?_))); (case side2 => exact HC0.out); rintro e w13 ⟨v181, rfl, ho0, hb⟩; refine ⟨_, rfl, ?_⟩; have n0_ := Aside0.mk (Kd.R_lower ho0 (below_size (by repeat (first | (with_reducible first | exact HB.out | apply below_alloc | apply pw_below_drewN | apply below_drew1) | exact HB.out | exact ⟨HB.out.os, HB.out.tape, HB.out.output, HB.out.size, HB.out.block⟩)))); have n1_ := Aside0.mk (below_step (by repeat (first | (with_reducible first | exact HB.out | apply below_alloc | apply pw_below_drewN | apply below_drew1) | exact HB.out | exact ⟨HB.out.os, HB.out.tape, HB.out.output, HB.out.size, HB.out.block⟩)) hb); clear HB; have HO182 := n0_; have HB := n1_; clear n0_ n1_; (try clear hb); (try clear hb2); (try clear hk); (try clear hi); (try clear ho0); obtain ⟨Ao14, co14, eo14⟩ := Kd.R_slice HO182.out; subst eo14) | ((with_reducible refine gate_callee (f := 17) rfl ?_); refine goesL_ (some 37) rfl rfl Try.func17 (by kernel_rfl) rfl #[.slice Ao14 t180.length co14, .int .i64 a1, .int .i64 a2] rfl (by (try simp only [List.map_toArray, List.map_cons, List.map_nil]); first | done | rfl | (simp only [List.length_drop, List.length_take]; rfl)) ?_; (with_reducible refine (octet_Get.calls k _ _ t180 a1 a2 t183 t184 t185 _ ?side1 ?side2 A6.out).mono ?_); (case side1 => repeat (first | exact (Kd.R_reads' HO182.out).2.2 | (with_reducible refine Kd.C_alloc ?_ _) | (with_reducible refine Kd.C_drewN ?_ _) | (with_reducible refine Kd.C_drew ?_))); (case side2 => exact (Kd.R_reads' HO182.out).2.1); rintro e w15 ⟨rfl, hb⟩; refine ⟨_, rfl, ?_⟩; have n0_ := Aside0.mk (Kd.R_below (by (with_reducible repeat (first | apply Kd.R_alloc | apply Kd.R_drewN | apply Kd.R_drew)); exact HO182.out) hb); have n1_ := Aside0.mk (below_step (by repeat (first | (with_reducible first | exact HB.out | apply below_alloc | apply pw_below_drewN | apply below_drew1) | exact HB.out | exact ⟨HB.out.os, HB.out.tape, HB.out.output, HB.out.size, HB.out.block⟩)) hb); clear HO182; clear HB; have HO182 := n0_; have HB := n1_; clear n0_ n1_; (try clear hb); (try clear hb2); (try clear hk); (try clear hi)) | ((with_reducible refine gate_callee (f := 18) rfl ?_); refine goesL_ (some 45) rfl rfl Try.func18 (by kernel_rfl) rfl #[.slice A0 l0.length c0, .int .i64 a1, .int .i64 a2] rfl (by (try simp only [List.map_toArray, List.map_cons, List.map_nil]); first | done | rfl | (simp only [List.length_drop, List.length_take]; rfl)) ?_; (with_reducible refine (capstanref01_Get.calls k _ _ l0 a1 a2 t186 t187 t188 _ ?side1 ?side2 A7.out).mono ?_); (case side1 => repeat (first | exact (Kd.C_below HR0.out HB.out) | (with_reducible refine Kd.C_alloc ?_ _) | (with_reducible refine Kd.C_drewN ?_ _) | (with_reducible refine Kd.C_drew ?_))); (case side2 => exact HC0.out); rintro e w' ⟨rfl, ⟨nd, rfl⟩⟩; refine ⟨_, rfl, ?_⟩) | ((with_reducible refine gate_callee (f := 19) rfl ?_); refine goesL_ (some 52) rfl rfl Try.func19 (by kernel_rfl) rfl #[.slice Ao14 t180.length co14, .int .i64 a1] rfl (by (try simp only [List.map_toArray, List.map_cons, List.map_nil]); first | done | rfl | (simp only [List.length_drop, List.length_take]; rfl)) ?_; (with_reducible refine (octet_GetSigned.calls k _ _ t180 a1 t189 t190 t191 _ ?side1 ?side2 A8.out).mono ?_); (case side1 => repeat (first | exact (Kd.R_reads' HO182.out).2.2 | (with_reducible refine Kd.C_alloc ?_ _) | (with_reducible refine Kd.C_drewN ?_ _) | (with_reducible refine Kd.C_drew ?_))); (case side2 => exact (Kd.R_reads' HO182.out).2.1); rintro e w' ⟨rfl, ⟨nd, rfl⟩⟩; refine ⟨_, rfl, ?_⟩) | ((with_reducible refine gate_callee (f := 20) rfl ?_); refine goesL_ (some 59) rfl rfl Try.func20 (by kernel_rfl) rfl #[.slice A0 l0.length c0, .int .i64 a1] rfl (by (try simp only [List.map_toArray, List.map_cons, List.map_nil]); first | done | rfl | (simp only [List.length_drop, List.length_take]; rfl)) ?_; (with_reducible refine (capstanref01_GetSigned.calls k _ _ l0 a1 t192 t193 t194 _ ?side1 ?side2 A9.out).mono ?_); (case side1 => repeat (first | exact (Kd.C_below HR0.out (by repeat (first | (with_reducible first | exact HB.out | apply below_alloc | apply pw_below_drewN | apply below_drew1) | exact HB.out | exact ⟨HB.out.os, HB.out.tape, HB.out.output, HB.out.size, HB.out.block⟩))) | (with_reducible refine Kd.C_alloc ?_ _) | (with_reducible refine Kd.C_drewN ?_ _) | (with_reducible refine Kd.C_drew ?_))); (case side2 => exact HC0.out); rintro e w' ⟨rfl, ⟨nd, rfl⟩⟩; refine ⟨_, rfl, ?_⟩) | ((with_reducible refine gate_callee (f := 21) rfl ?_); refine goesL_ (some 66) rfl rfl Try.func21 (by kernel_rfl) rfl #[.slice Ao14 t180.length co14, .int .i64 a1] rfl (by (try simp only [List.map_toArray, List.map_cons, List.map_nil]); first | done | rfl | (simp only [List.length_drop, List.length_take]; rfl)) ?_; (with_reducible refine (octet_GetRow.calls k _ _ t180 a1 t195 t196 t197 _ ?side1 ?side2 A10.out).mono ?_); (case side1 => repeat (first | exact (Kd.R_reads' HO182.out).2.2 | (with_reducible refine Kd.C_alloc ?_ _) | (with_reducible refine Kd.C_drewN ?_ _) | (with_reducible refine Kd.C_drew ?_))); (case side2 => exact (Kd.R_reads' HO182.out).2.1); rintro e w16 ⟨v198, rfl, ho0, hb⟩; refine ⟨_, rfl, ?_⟩; have n0_ := Aside0.mk (Kd.R_elder' (by (with_reducible repeat (first | apply Kd.R_alloc | apply Kd.R_drewN | apply Kd.R_drew)); exact HO182.out) (Kd.R_base ho0) hb); have n1_ := Aside0.mk (Kd.R_lower (Kd.R_new' ho0 (Kd.R_lt (by (with_reducible repeat (first | apply Kd.R_alloc | apply Kd.R_drewN | apply Kd.R_drew)); exact HO182.out))) (below_size (by repeat (first | (with_reducible first | exact HB.out | apply below_alloc | apply pw_below_drewN | apply below_drew1) | exact HB.out | exact ⟨HB.out.os, HB.out.tape, HB.out.output, HB.out.size, HB.out.block⟩)))); have n2_ := Aside0.mk (below_step (by repeat (first | (with_reducible first | exact HB.out | apply below_alloc | apply pw_below_drewN | apply below_drew1) | exact HB.out | exact ⟨HB.out.os, HB.out.tape, HB.out.output, HB.out.size, HB.out.block⟩)) hb); clear HO182; clear HB; have HO182 := n0_; have HO199 := n1_; have HB := n2_; clear n0_ n1_ n2_; (try clear hb); (try clear hb2); (try clear hk); (try clear hi); (try clear ho0)) | ((with_reducible refine gate_callee (f := 22) rfl ?_); refine goesL_ (some 73) rfl rfl Try.func22 (by kernel_rfl) rfl #[.slice A0 l0.length c0, .int .i64 a1] rfl (by (try simp only [List.map_toArray, List.map_cons, List.map_nil]); first | done | rfl | (simp only [List.length_drop, List.length_take]; rfl)) ?_; (with_reducible refine (capstanref01_GetRow.calls k _ _ l0 a1 t200 t201 t202 _ ?side1 ?side2 A11.out).mono ?_); (case side1 => repeat (first | exact (Kd.C_below HR0.out HB.out) | (with_reducible refine Kd.C_alloc ?_ _) | (with_reducible refine Kd.C_drewN ?_ _) | (with_reducible refine Kd.C_drew ?_))); (case side2 => exact HC0.out); rintro e w17 ⟨v203, rfl, ho0, hb⟩; refine ⟨_, rfl, ?_⟩; have n0_ := Aside0.mk (Kd.R_elder' (by (with_reducible repeat (first | apply Kd.R_alloc | apply Kd.R_drewN | apply Kd.R_drew)); exact HO182.out) (Kd.R_base ho0) hb); have n1_ := Aside0.mk (Kd.R_elder' (by (with_reducible repeat (first | apply Kd.R_alloc | apply Kd.R_drewN | apply Kd.R_drew)); exact HO199.out) (Kd.R_base ho0) hb); have n2_ := Aside0.mk (Kd.R_lower (Kd.R_new' (Kd.R_new' ho0 (Kd.R_lt (by (with_reducible repeat (first | apply Kd.R_alloc | apply Kd.R_drewN | apply Kd.R_drew)); exact HO182.out))) (Kd.R_lt (by (with_reducible repeat (first | apply Kd.R_alloc | apply Kd.R_drewN | apply Kd.R_drew)); exact HO199.out))) (below_size (by repeat (first | (with_reducible first | exact HB.out | apply below_alloc | apply pw_below_drewN | apply below_drew1) | exact HB.out | exact ⟨HB.out.os, HB.out.tape, HB.out.output, HB.out.size, HB.out.block⟩)))); have n3_ := Aside0.mk (below_step (by repeat (first | (with_reducible first | exact HB.out | apply below_alloc | apply pw_below_drewN | apply below_drew1) | exact HB.out | exact ⟨HB.out.os, HB.out.tape, HB.out.output, HB.out.size, HB.out.block⟩)) hb); clear HO182; clear HO199; clear HB; have HO182 := n0_; have HO199 := n1_; have HO204 := n2_; have HB := n3_; clear n0_ n1_ n2_ n3_; (try clear hb); (try clear hb2); (try clear hk); (try clear hi); (try clear ho0)))
    (try simp only [Act.put, List.setIfInBounds_toArray, List.set_cons_zero, List.set_cons_succ])
    go_cut [26] (fun v26 wc => ∃ (kq : Nat) (x26_11 : Bool), v26 = .bool x26_11 ∧ Aside0 (capstanlaw01_OctetGets.j0 kq l0 t180 t195 x26_11 = some r) ∧ Aside0 (kq ≤ k) ∧ Aside0 (Kd.R (Kd.int .u8) 5 wc w.heap.size (fun k_ => some k_ ≠ (v198 : Value).ownBlock) (.slice Ao14 t180.length co14) t180) ∧ Aside0 (Kd.R (Kd.int .u8) 5 wc w.heap.size (fun k_ => some k_ ≠ ((.slice Ao14 t180.length co14) : Value).ownBlock) v198 t195) ∧ Aside0 (Below w.heap.size w wc))
    case first =>
      have H := HC12.out
      clear HC12
      by_cases c18 : t183 = t186
      · rw [if_pos c18] at H
        have c18b0 : (t183 == t186) = true := beq_iff_eq.mpr c18
        have c18b1 : (t183 != t186) = false := bne_eq_false_iff_eq.mpr c18
        clear c18
        (first | rw [c18b0] | (simp only [i64_w, i32_w]; rw [c18b0]) | skip)
        by_cases c19 : t184 = t187
        · rw [if_pos c19] at H
          have c19b0 : (t184 == t187) = true := beq_iff_eq.mpr c19
          have c19b1 : (t184 != t187) = false := bne_eq_false_iff_eq.mpr c19
          clear c19
          by_cases c20 : t185 = t188
          · rw [if_pos c20] at H
            have c20b0 : (t185 == t188) = true := beq_iff_eq.mpr c20
            have c20b1 : (t185 != t188) = false := bne_eq_false_iff_eq.mpr c20
            clear c20
            by_cases c21 : t189 = t192
            · rw [if_pos c21] at H
              have c21b0 : (t189 == t192) = true := beq_iff_eq.mpr c21
              have c21b1 : (t189 != t192) = false := bne_eq_false_iff_eq.mpr c21
              clear c21
              by_cases c22 : t190 = t193
              · rw [if_pos c22] at H
                have c22b0 : (t190 == t193) = true := beq_iff_eq.mpr c22
                have c22b1 : (t190 != t193) = false := bne_eq_false_iff_eq.mpr c22
                clear c22
                by_cases c23 : t191 = t194
                · rw [if_pos c23] at H
                  have c23b0 : (t191 == t194) = true := beq_iff_eq.mpr c23
                  have c23b1 : (t191 != t194) = false := bne_eq_false_iff_eq.mpr c23
                  clear c23
                  by_cases c24 : (strOfNums t195).toList = (strOfNums t200).toList
                  · rw [if_pos c24] at H
                    have c24b0 : ((strOfNums t195).toList == (strOfNums t200).toList) = true := beq_iff_eq.mpr c24
                    have c24b1 : ((strOfNums t195).toList != (strOfNums t200).toList) = false := bne_eq_false_iff_eq.mpr c24
                    clear c24
                    by_cases c25 : t196 = t201
                    · rw [if_pos c25] at H
                      have c25b0 : (t196 == t201) = true := beq_iff_eq.mpr c25
                      have c25b1 : (t196 != t201) = false := bne_eq_false_iff_eq.mpr c25
                      clear c25
                      have H' := Aside0.mk H
                      clear H
                      have hcv26 := own_string (P := Try.prog) Try.underlying22 Try.underlying5 Try.underlying9 (Kd.own_of_R HO199.out)
                      have hcv27 := own_string (P := Try.prog) Try.underlying22 Try.underlying5 Try.underlying9 (Kd.own_of_R HO204.out)
                      go_wp2
                      go_meet
                      case rel => exact ⟨_, ((t197 == t202)), (by first | rfl | (simp; done) | (simp [*]; done)), H', ⟨by first | omega | exact Nat.le_refl _⟩, ⟨by (with_reducible repeat (first | apply Kd.R_alloc | apply Kd.R_drewN | apply Kd.R_drew)); exact Kd.R_mono HO182.out (fun _ hk => hk.1.2)⟩, ⟨by (with_reducible repeat (first | apply Kd.R_alloc | apply Kd.R_drewN | apply Kd.R_drew)); exact Kd.R_mono HO199.out (fun _ hk => hk.1.2)⟩, ⟨by repeat (first | (with_reducible first | exact HB.out | apply below_alloc | apply pw_below_drewN | apply below_drew1) | exact HB.out | exact ⟨HB.out.os, HB.out.tape, HB.out.output, HB.out.size, HB.out.block⟩)⟩⟩
                    · rw [if_neg c25] at H
                      exact absurd H (by simp)
                  · rw [if_neg c24] at H
                    exact absurd H (by simp)
                · rw [if_neg c23] at H
                  exact absurd H (by simp)
              · rw [if_neg c22] at H
                exact absurd H (by simp)
            · rw [if_neg c21] at H
              exact absurd H (by simp)
          · rw [if_neg c20] at H
            exact absurd H (by simp)
        · rw [if_neg c19] at H
          exact absurd H (by simp)
      · rw [if_neg c18] at H
        exact absurd H (by simp)
    case rest =>
      clear HC12
      try clear c1
      try clear c2
      try clear p2
      try clear hcv2
      try clear c4
      try clear c4b0
      try clear c4b1
      try clear c10
      try clear c17
      try clear c18
      try clear c18b0
      try clear c18b1
      try clear c19
      try clear c19b0
      try clear c19b1
      try clear c20
      try clear c20b0
      try clear c20b1
      try clear c21
      try clear c21b0
      try clear c21b1
      try clear c22
      try clear c22b0
      try clear c22b1
      try clear c23
      try clear c23b0
      try clear c23b1
      try clear c24
      try clear c24b0
      try clear c24b1
      try clear c25
      try clear c25b0
      try clear c25b1
      try clear hcv26
      try clear hcv27
      obtain ⟨kq, x26_11, rfl, HA, HJ11, HO_7, HO_20, HB⟩ := hcut
      cases kq with
      | zero => exact absurd HA.out (by simp [capstanlaw01_OctetGets.j0])
      | succ kj11 =>
        have H := HA.out
        clear HA
        simp only [capstanlaw01_OctetGets.j0] at H
        have H' := Aside0.mk H
        clear H
        go_wp2
        go_loopg [27] kj11 (fun kq v27 w' => ∃ (x20_2 : List Int) (x27_2 : Int), v27 = .int .i64 x27_2 ∧ Aside0 (capstanlaw01_OctetGets.l0 kq l0 t180 x20_2 x26_11 x27_2 = some r) ∧ Aside0 (kq ≤ kj11) ∧ Aside0 (Kd.R (Kd.int .u8) 5 w' w.heap.size (fun k_ => some k_ ≠ (v198 : Value).ownBlock) (.slice Ao14 t180.length co14) t180) ∧ Aside0 (Kd.R (Kd.int .u8) 5 w' w.heap.size (fun k_ => some k_ ≠ ((.slice Ao14 t180.length co14) : Value).ownBlock) v198 x20_2) ∧ Aside0 (Below w.heap.size w w'))
        case atStart => exact ⟨(t195), (0), (by first | rfl | (simp; done) | (simp [*]; done)), H', ⟨Nat.le_refl _⟩, ⟨by (with_reducible repeat (first | apply Kd.R_alloc | apply Kd.R_drewN | apply Kd.R_drew)); exact HO_7.out⟩, ⟨by (with_reducible repeat (first | apply Kd.R_alloc | apply Kd.R_drewN | apply Kd.R_drew)); exact HO_20.out⟩, ⟨by repeat (first | (with_reducible first | exact HB.out | apply below_alloc | apply pw_below_drewN | apply below_drew1) | exact HB.out | exact ⟨HB.out.os, HB.out.tape, HB.out.output, HB.out.size, HB.out.block⟩)⟩⟩
        case round =>
          clear H'
          try clear c1
          try clear c2
          try clear p2
          try clear hcv2
          try clear c4
          try clear c4b0
          try clear c4b1
          try clear c10
          try clear c17
          try clear c18
          try clear c18b0
          try clear c18b1
          try clear c19
          try clear c19b0
          try clear c19b1
          try clear c20
          try clear c20b0
          try clear c20b1
          try clear c21
          try clear c21b0
          try clear c21b1
          try clear c22
          try clear c22b0
          try clear c22b1
          try clear c23
          try clear c23b0
          try clear c23b1
          try clear c24
          try clear c24b0
          try clear c24b1
          try clear c25
          try clear c25b0
          try clear c25b1
          try clear hcv26
          try clear hcv27
          try clear p2
          obtain ⟨x20_2, x27_2, rfl, HA, HK2, HO_7, HO_20, HB⟩ := hrel
          cases gk with
          | zero => exact absurd HA.out (by simp [capstanlaw01_OctetGets.l0])
          | succ k2 =>
            have H := HA.out
            clear HA
            simp only [capstanlaw01_OctetGets.l0] at H
            by_cases c28 : x27_2 < (x20_2.length : Int)
            · rw [if_pos c28] at H
              have c28b0 : decide (x27_2 < (x20_2.length : Int)) = true := decide_eq_true c28
              clear c28
              by_cases c29 : 0 ≤ x27_2
              · rw [if_pos c29] at H
                have c29b0 : decide (0 ≤ x27_2) = true := decide_eq_true c29
                clear c29
                obtain ⟨y206, hy206⟩ : ∃ y_ : List Int, y_ = (x20_2.set (x27_2 : Int).toNat (((rd x20_2 x27_2) + 1) % 256)) := ⟨_, rfl⟩
                replace H : (capstanlaw01_OctetGets.l0 k2 l0 t180 y206 x26_11 (wrap64 (x27_2 + 1))) = some r := by first | (rw [hy206]; with_reducible exact H) | (have H2_ := (Option.bind_some _ _).symm.trans H; rw [hy206]; with_reducible exact H2_) | (have H2_ := (Option.bind_some _ _).symm.trans H; with_reducible exact H2_) | with_reducible exact H | (rw [hy206]; exact H) | exact H
                have Ny206 := Aside0.mk hy206
                clear hy206
                have H' := Aside0.mk H
                clear H
                obtain ⟨Ao31, co31, eo31⟩ := Kd.R_slice HO_20.out
                subst eo31
                have p205 : 0 ≤ (x27_2 : Int) := of_decide_eq_true (by first | (with_reducible assumption) | assumption)
                have q205 : x27_2 < (x20_2.length : Int) := of_decide_eq_true (by first | (with_reducible assumption) | assumption)
                obtain ⟨ad205, e205, hx205_0⟩ := Kd.at_int (Kd.R_reads' HO_20.out).2.2 x27_2 p205 q205
                cases e205
                replace p205 := eq_true p205
                replace q205 := eq_true q205
                have p30 : 0 ≤ (x27_2 : Int) := of_decide_eq_true (by first | (with_reducible assumption) | assumption)
                have q30 : (x27_2 : Int) < ((x20_2.length : Int) : Int) := of_decide_eq_true (by first | (with_reducible assumption) | assumption)
                obtain ⟨go30, co30, eo30, gb30, gl30, cl30, HG30⟩ := Kd.R_form HO_20.out (by omega)
                (first | cases eo30 | (injection eo30 with ea_ en_ ec_; (first | subst ea_ | (injection ea_ with ea_; subst ea_)); subst ec_; clear en_))
                have GB30 := Aside0.mk gb30
                have GG30 := Aside0.mk HG30
                clear gb30 gl30 HG30
                (first | simp only [add_plain] at hx205_0 | skip)
                obtain ⟨hx30_0, hf30_0⟩ := Kd.R_celln 0 HO_20.out (x27_2 : Int) p30 q30
                replace p30 := eq_true p30
                replace q30 := eq_true q30
                have HP32 := Kd.R_putg HO_20.out (x27_2 : Int) (((rd x20_2 x27_2) + 1) % 256)
                go_wp2_with (first | ((with_reducible refine gate_store (t := 5) (p := 133) rfl ?_); refine store_event (t := 5) (p := 133) (v := ?vo_w33) (w1 := (wr.setCell ⟨go30, (x27_2 : Int).toNat, none⟩ (.int .u8 (((rd x20_2 x27_2) + 1) % 256)))) ?hg ?ho ?hn ?hr ?_; (case ho => rfl); (case hg => rfl); (case hn => rfl); (case hr => first | (go_simp; done) | (go_simp; rfl)); intro w33 hw; have hg : wr.grownBy w33 (some go30) := (by rw [hw]; exact HP32.2); have hp_ : Kd.R (Kd.int .u8) 5 w33 w.heap.size (fun k_ => some k_ ≠ (.slice Ao14 t180.length co14 : Value).ownBlock) (.slice (some ⟨go30, 0, none⟩) x20_2.length co31) y206 := (by rw [hw, Ny206.out]; exact HP32.1); clear HP32; have n0_ := Aside0.mk (Kd.R_after (v := (.slice (some ⟨go30, 0, none⟩) x20_2.length co31)) (v1 := (.slice (some ⟨go30, 0, none⟩) x20_2.length co31)) (ok := (fun _ => True)) (by (with_reducible repeat (first | apply Kd.R_alloc | apply Kd.R_drewN | apply Kd.R_drew)); exact Kd.R_mono HO_7.out (fun _ hk => ⟨trivial, hk⟩)) hg (.inl rfl)); have n1_ := Aside0.mk (hp_); have n2_ := Aside0.mk ((by rw [hw]; exact below_set (HB.out) GB30.out : Below w.heap.size w w33)); clear HO_7; clear HO_20; clear HB; have HO_7 := n0_; have HO_20 := n1_; have HB := n2_; clear n0_ n1_ n2_; clear hg hw hp_))
                go_roundg k2
                case measure => have := HJ11.out; have := HK2.out; omega
                case rel => exact ⟨(y206), (wrap64 (x27_2 + 1)), (by first | rfl | (simp; done) | (simp [*]; done)), H', ⟨by have := HJ11.out; have := HK2.out; omega⟩, ⟨by (with_reducible repeat (first | apply Kd.R_alloc | apply Kd.R_drewN | apply Kd.R_drew)); exact Kd.R_mono HO_7.out (fun _ hk => hk.2)⟩, ⟨by (with_reducible repeat (first | apply Kd.R_alloc | apply Kd.R_drewN | apply Kd.R_drew)); exact HO_20.out⟩, ⟨by repeat (first | (with_reducible first | exact HB.out | apply below_alloc | apply pw_below_drewN | apply below_drew1) | exact HB.out | exact ⟨HB.out.os, HB.out.tape, HB.out.output, HB.out.size, HB.out.block⟩)⟩⟩
              · rw [if_neg c29] at H
                exact absurd H (by simp)
            · rw [if_neg c28] at H
              have c28b0 : decide (x27_2 < (x20_2.length : Int)) = false := decide_eq_false c28
              clear c28
              by_cases c34 : x26_11 = true
              · subst c34
                have H1 : (some ((strOfNums t180).toList == (strOfNums l0).toList)) = some r := by rw [if_pos rfl] at H; exact H
                clear H
                have H := H1
                clear H1
                obtain rfl := Option.some.inj H
                obtain ⟨Ao35, co35, eo35⟩ := Kd.R_slice HO_20.out
                subst eo35
                have hcv36 := own_string (P := Try.prog) Try.underlying22 Try.underlying5 Try.underlying9 (Kd.own_of_R HO_7.out)
                have hcv37 := Kd.C_string (P := Try.prog) (A := A0) (c := c0) Try.underlying22 Try.underlying5 Try.underlying9 (Kd.C_below HR0.out HB.out)
                go_wp2
                go_ret
                exact ⟨by first | rfl | (simp [errW_none, errW_some] <;> rfl) | (simp [*, errW_none, errW_some] <;> rfl), by repeat (first | (with_reducible first | exact HB.out | apply below_alloc | apply pw_below_drewN | apply below_drew1) | exact HB.out | exact ⟨HB.out.os, HB.out.tape, HB.out.output, HB.out.size, HB.out.block⟩)⟩
              · replace c34 := Bool.eq_false_iff.mpr c34
                subst c34
                have H1 : (none) = some r := by rw [if_neg (show ¬ (false = true) by decide)] at H; exact H
                clear H
                have H := H1
                clear H1
                exact absurd H (by simp)

/-- THE ONE PURE STATEMENT of capstanlaw01_OctetGets: yours. -/
def capstanlaw01_OctetGets.Pure : Prop := ∀ (l0 : List Int) (a1 : Int) (a2 : Int), l0.length ≤ maxLen → l0.length * 1 ≤ 140737488351232 → (∀ x ∈ l0, (Lit.int .u8 x).wf = true) → (Lit.int .i64 a1).wf = true → (Lit.int .i64 a2).wf = true → ∃ k, capstanlaw01_OctetGets.f k l0 a1 a2 = some true
theorem capstanlaw01_OctetGets.walk (P : capstanlaw01_OctetGets.Pure) (a0 : Option Addr) (len0 cap0 : Nat) (z0 : List Int) (a1 : Int) (a2 : Int) (w : World) (w0 : (a0 = none ∧ len0 = 0 ∧ cap0 = 0 ∧ z0 = []) ∨ ∃ x, a0 = some x ∧ len0 ≤ cap0 ∧ cap0 ≤ maxLen ∧ z0.length = cap0 ∧ (∀ i, i < z0.length → w.cell? (x.add i) = some (.int .u8 (z0.getD i 0))) ∧ ∀ n ∈ z0, (Lit.int .u8 n).wf = true) (y0 : len0 * 1 ≤ 140737488351232) (w1 : (Lit.int .i64 a1).wf = true) (w2 : (Lit.int .i64 a2).wf = true) :
    Calls Try.prog 4 #[.slice a0 len0 cap0, .int .i64 a1, .int .i64 a2] w fun e w' => e = .returned (.bool true) ∧ Below w.heap.size w w' := by
  obtain ⟨l0, rfl, hr0, hm0, hw0, hc0⟩ := ReadsInt.ofRowC w0
  obtain ⟨k, h⟩ := P l0 a1 a2 hm0 y0 hw0 w1 w2
  refine (capstanlaw01_OctetGets.calls k _ _ l0 a1 a2 true w (Kd.C_of_reads (d := (0 : Int)) (h1 := fun _ => rfl) hr0) hc0 h).mono ?_
  rintro e w' ⟨rfl, hd⟩
  exact ⟨rfl, hd⟩

/-! ### capstanlaw01_awake: function 23 -/
def capstanlaw01_awake.f (k : Nat)  : Option (Bool) := (octet_Put.f k 2 258).bind fun bt207 => ((octet_Put.f k 1 256).bind fun bt211 => ((octet_Put.f k 9 0).bind fun bt215 => ((octet_Get.f k (([1, 2, 3] : List Int)) 1 2).bind fun bt222 => ((octet_Get.f k (([1, 2, 3] : List Int)) 2 2).bind fun bt228 => ((octet_Get.f k (([1, 2, 3] : List Int)) 4 2).bind fun bt234 => ((octet_Row.f k (([7, 8] : List Int))).bind fun bt240 => (if (strOfNums bt207.1).toList = ([2, 1] : List UInt8) then (if bt207.2 = 0 then (if bt211.2 = 11 then (if bt215.2 = 2 then ((octet_Signed.f k (-2)).bind fun t244 => (if (strOfNums t244).toList = ([254, 255, 255, 255, 255, 255, 255, 255] : List UInt8) then (if bt222.1 = 770 then (if bt222.2.1 = 3 then (if bt222.2.2 = 0 then (if bt228.2.2 = 10 then (if bt234.2.2 = 2 then (if (strOfNums bt240.1).toList = ([2, 0, 7, 8] : List UInt8) then (some (bt240.2 == 0)) else (none)) else (none)) else (none)) else (none)) else (none)) else (none)) else (none))) else (none)) else (none)) else (none)) else (none))))))))
theorem capstanlaw01_awake.mono : ∀ k, LeO (capstanlaw01_awake.f k ) (capstanlaw01_awake.f (k + 1) ) := by
  intro  k
  unfold capstanlaw01_awake.f
  repeat' first
      | (with_reducible exact octet_Get.mono _ _ _ _)
      | (with_reducible exact octet_Put.mono _ _ _)
      | (with_reducible exact octet_Row.mono _ _)
      | (with_reducible exact octet_Signed.mono _ _)
      | (with_reducible exact LeO.refl _)
      | (with_reducible exact LeO.none _)
      | (with_reducible refine LeO.ite ?_ ?_)
      | (with_reducible refine LeO.bind ?_ (fun _ => ?_))
      | exact octet_Get.mono _ _ _ _
      | exact octet_Put.mono _ _ _
      | exact octet_Row.mono _ _
      | exact octet_Signed.mono _ _
      | exact LeO.none _
      | refine LeO.ite ?_ ?_
      | refine LeO.bind ?_ (fun _ => ?_)
set_option maxHeartbeats 8000000 in
set_option maxRecDepth 100000 in
theorem capstanlaw01_awake.calls (k : Nat)  (r : Bool) (w : World) (h : capstanlaw01_awake.f k  = some r) :
    Calls Try.prog 23 #[] w fun e w' => e = .returned (.bool r) ∧ Below w.heap.size w w' := by
  have HB := Aside0.mk (Below.refl w.heap.size w)
  have H : ((octet_Put.f k 2 258).bind fun bt207 => ((octet_Put.f k 1 256).bind fun bt211 => ((octet_Put.f k 9 0).bind fun bt215 => ((octet_Get.f k (([1, 2, 3] : List Int)) 1 2).bind fun bt222 => ((octet_Get.f k (([1, 2, 3] : List Int)) 2 2).bind fun bt228 => ((octet_Get.f k (([1, 2, 3] : List Int)) 4 2).bind fun bt234 => ((octet_Row.f k (([7, 8] : List Int))).bind fun bt240 => (if (strOfNums bt207.1).toList = ([2, 1] : List UInt8) then (if bt207.2 = 0 then (if bt211.2 = 11 then (if bt215.2 = 2 then ((octet_Signed.f k (-2)).bind fun t244 => (if (strOfNums t244).toList = ([254, 255, 255, 255, 255, 255, 255, 255] : List UInt8) then (if bt222.1 = 770 then (if bt222.2.1 = 3 then (if bt222.2.2 = 0 then (if bt228.2.2 = 10 then (if bt234.2.2 = 2 then (if (strOfNums bt240.1).toList = ([2, 0, 7, 8] : List UInt8) then (some (bt240.2 == 0)) else (none)) else (none)) else (none)) else (none)) else (none)) else (none)) else (none))) else (none)) else (none)) else (none)) else (none))))))))) = some r := h
  clear h
  replace H := Option.bind_eq_some_iff.mp H
  obtain ⟨⟨t207, t208⟩, A10, H⟩ := H
  replace H : ((octet_Put.f k 1 256).bind fun bt211 => ((octet_Put.f k 9 0).bind fun bt215 => ((octet_Get.f k (([1, 2, 3] : List Int)) 1 2).bind fun bt222 => ((octet_Get.f k (([1, 2, 3] : List Int)) 2 2).bind fun bt228 => ((octet_Get.f k (([1, 2, 3] : List Int)) 4 2).bind fun bt234 => ((octet_Row.f k (([7, 8] : List Int))).bind fun bt240 => (if (strOfNums t207).toList = ([2, 1] : List UInt8) then (if t208 = 0 then (if bt211.2 = 11 then (if bt215.2 = 2 then ((octet_Signed.f k (-2)).bind fun t244 => (if (strOfNums t244).toList = ([254, 255, 255, 255, 255, 255, 255, 255] : List UInt8) then (if bt222.1 = 770 then (if bt222.2.1 = 3 then (if bt222.2.2 = 0 then (if bt228.2.2 = 10 then (if bt234.2.2 = 2 then (if (strOfNums bt240.1).toList = ([2, 0, 7, 8] : List UInt8) then (some (bt240.2 == 0)) else (none)) else (none)) else (none)) else (none)) else (none)) else (none)) else (none))) else (none)) else (none)) else (none)) else (none)))))))) = some r := H
  have A1 := Aside0.mk A10
  clear A10
  replace H := Option.bind_eq_some_iff.mp H
  obtain ⟨⟨t211, t212⟩, A20, H⟩ := H
  replace H : ((octet_Put.f k 9 0).bind fun bt215 => ((octet_Get.f k (([1, 2, 3] : List Int)) 1 2).bind fun bt222 => ((octet_Get.f k (([1, 2, 3] : List Int)) 2 2).bind fun bt228 => ((octet_Get.f k (([1, 2, 3] : List Int)) 4 2).bind fun bt234 => ((octet_Row.f k (([7, 8] : List Int))).bind fun bt240 => (if (strOfNums t207).toList = ([2, 1] : List UInt8) then (if t208 = 0 then (if t212 = 11 then (if bt215.2 = 2 then ((octet_Signed.f k (-2)).bind fun t244 => (if (strOfNums t244).toList = ([254, 255, 255, 255, 255, 255, 255, 255] : List UInt8) then (if bt222.1 = 770 then (if bt222.2.1 = 3 then (if bt222.2.2 = 0 then (if bt228.2.2 = 10 then (if bt234.2.2 = 2 then (if (strOfNums bt240.1).toList = ([2, 0, 7, 8] : List UInt8) then (some (bt240.2 == 0)) else (none)) else (none)) else (none)) else (none)) else (none)) else (none)) else (none))) else (none)) else (none)) else (none)) else (none))))))) = some r := H
  have A2 := Aside0.mk A20
  clear A20
  replace H := Option.bind_eq_some_iff.mp H
  obtain ⟨⟨t215, t216⟩, A30, H⟩ := H
  replace H : ((octet_Get.f k (([1, 2, 3] : List Int)) 1 2).bind fun bt222 => ((octet_Get.f k (([1, 2, 3] : List Int)) 2 2).bind fun bt228 => ((octet_Get.f k (([1, 2, 3] : List Int)) 4 2).bind fun bt234 => ((octet_Row.f k (([7, 8] : List Int))).bind fun bt240 => (if (strOfNums t207).toList = ([2, 1] : List UInt8) then (if t208 = 0 then (if t212 = 11 then (if t216 = 2 then ((octet_Signed.f k (-2)).bind fun t244 => (if (strOfNums t244).toList = ([254, 255, 255, 255, 255, 255, 255, 255] : List UInt8) then (if bt222.1 = 770 then (if bt222.2.1 = 3 then (if bt222.2.2 = 0 then (if bt228.2.2 = 10 then (if bt234.2.2 = 2 then (if (strOfNums bt240.1).toList = ([2, 0, 7, 8] : List UInt8) then (some (bt240.2 == 0)) else (none)) else (none)) else (none)) else (none)) else (none)) else (none)) else (none))) else (none)) else (none)) else (none)) else (none)))))) = some r := H
  have A3 := Aside0.mk A30
  clear A30
  obtain ⟨y219, hy219⟩ : ∃ y_ : List Int, y_ = (([1, 2, 3] : List Int)) := ⟨_, rfl⟩
  replace H : ((octet_Get.f k y219 1 2).bind fun bt222 => ((octet_Get.f k (([1, 2, 3] : List Int)) 2 2).bind fun bt228 => ((octet_Get.f k (([1, 2, 3] : List Int)) 4 2).bind fun bt234 => ((octet_Row.f k (([7, 8] : List Int))).bind fun bt240 => (if (strOfNums t207).toList = ([2, 1] : List UInt8) then (if t208 = 0 then (if t212 = 11 then (if t216 = 2 then ((octet_Signed.f k (-2)).bind fun t244 => (if (strOfNums t244).toList = ([254, 255, 255, 255, 255, 255, 255, 255] : List UInt8) then (if bt222.1 = 770 then (if bt222.2.1 = 3 then (if bt222.2.2 = 0 then (if bt228.2.2 = 10 then (if bt234.2.2 = 2 then (if (strOfNums bt240.1).toList = ([2, 0, 7, 8] : List UInt8) then (some (bt240.2 == 0)) else (none)) else (none)) else (none)) else (none)) else (none)) else (none)) else (none))) else (none)) else (none)) else (none)) else (none)))))) = some r := by first | (rw [hy219]; with_reducible exact H) | (have H2_ := (Option.bind_some _ _).symm.trans H; rw [hy219]; with_reducible exact H2_) | (have H2_ := (Option.bind_some _ _).symm.trans H; with_reducible exact H2_) | with_reducible exact H | (rw [hy219]; exact H) | exact H
  have Ny219 := Aside0.mk hy219
  clear hy219
  replace H := Option.bind_eq_some_iff.mp H
  obtain ⟨⟨t222, t223, t224⟩, A40, H⟩ := H
  replace H : ((octet_Get.f k (([1, 2, 3] : List Int)) 2 2).bind fun bt228 => ((octet_Get.f k (([1, 2, 3] : List Int)) 4 2).bind fun bt234 => ((octet_Row.f k (([7, 8] : List Int))).bind fun bt240 => (if (strOfNums t207).toList = ([2, 1] : List UInt8) then (if t208 = 0 then (if t212 = 11 then (if t216 = 2 then ((octet_Signed.f k (-2)).bind fun t244 => (if (strOfNums t244).toList = ([254, 255, 255, 255, 255, 255, 255, 255] : List UInt8) then (if t222 = 770 then (if t223 = 3 then (if t224 = 0 then (if bt228.2.2 = 10 then (if bt234.2.2 = 2 then (if (strOfNums bt240.1).toList = ([2, 0, 7, 8] : List UInt8) then (some (bt240.2 == 0)) else (none)) else (none)) else (none)) else (none)) else (none)) else (none)) else (none))) else (none)) else (none)) else (none)) else (none))))) = some r := H
  have A4 := Aside0.mk A40
  clear A40
  obtain ⟨y225, hy225⟩ : ∃ y_ : List Int, y_ = (([1, 2, 3] : List Int)) := ⟨_, rfl⟩
  replace H : ((octet_Get.f k y225 2 2).bind fun bt228 => ((octet_Get.f k (([1, 2, 3] : List Int)) 4 2).bind fun bt234 => ((octet_Row.f k (([7, 8] : List Int))).bind fun bt240 => (if (strOfNums t207).toList = ([2, 1] : List UInt8) then (if t208 = 0 then (if t212 = 11 then (if t216 = 2 then ((octet_Signed.f k (-2)).bind fun t244 => (if (strOfNums t244).toList = ([254, 255, 255, 255, 255, 255, 255, 255] : List UInt8) then (if t222 = 770 then (if t223 = 3 then (if t224 = 0 then (if bt228.2.2 = 10 then (if bt234.2.2 = 2 then (if (strOfNums bt240.1).toList = ([2, 0, 7, 8] : List UInt8) then (some (bt240.2 == 0)) else (none)) else (none)) else (none)) else (none)) else (none)) else (none)) else (none))) else (none)) else (none)) else (none)) else (none))))) = some r := by first | (rw [hy225]; with_reducible exact H) | (have H2_ := (Option.bind_some _ _).symm.trans H; rw [hy225]; with_reducible exact H2_) | (have H2_ := (Option.bind_some _ _).symm.trans H; with_reducible exact H2_) | with_reducible exact H | (rw [hy225]; exact H) | exact H
  have Ny225 := Aside0.mk hy225
  clear hy225
  replace H := Option.bind_eq_some_iff.mp H
  obtain ⟨⟨t228, t229, t230⟩, A50, H⟩ := H
  replace H : ((octet_Get.f k (([1, 2, 3] : List Int)) 4 2).bind fun bt234 => ((octet_Row.f k (([7, 8] : List Int))).bind fun bt240 => (if (strOfNums t207).toList = ([2, 1] : List UInt8) then (if t208 = 0 then (if t212 = 11 then (if t216 = 2 then ((octet_Signed.f k (-2)).bind fun t244 => (if (strOfNums t244).toList = ([254, 255, 255, 255, 255, 255, 255, 255] : List UInt8) then (if t222 = 770 then (if t223 = 3 then (if t224 = 0 then (if t230 = 10 then (if bt234.2.2 = 2 then (if (strOfNums bt240.1).toList = ([2, 0, 7, 8] : List UInt8) then (some (bt240.2 == 0)) else (none)) else (none)) else (none)) else (none)) else (none)) else (none)) else (none))) else (none)) else (none)) else (none)) else (none)))) = some r := H
  have A5 := Aside0.mk A50
  clear A50
  obtain ⟨y231, hy231⟩ : ∃ y_ : List Int, y_ = (([1, 2, 3] : List Int)) := ⟨_, rfl⟩
  replace H : ((octet_Get.f k y231 4 2).bind fun bt234 => ((octet_Row.f k (([7, 8] : List Int))).bind fun bt240 => (if (strOfNums t207).toList = ([2, 1] : List UInt8) then (if t208 = 0 then (if t212 = 11 then (if t216 = 2 then ((octet_Signed.f k (-2)).bind fun t244 => (if (strOfNums t244).toList = ([254, 255, 255, 255, 255, 255, 255, 255] : List UInt8) then (if t222 = 770 then (if t223 = 3 then (if t224 = 0 then (if t230 = 10 then (if bt234.2.2 = 2 then (if (strOfNums bt240.1).toList = ([2, 0, 7, 8] : List UInt8) then (some (bt240.2 == 0)) else (none)) else (none)) else (none)) else (none)) else (none)) else (none)) else (none))) else (none)) else (none)) else (none)) else (none)))) = some r := by first | (rw [hy231]; with_reducible exact H) | (have H2_ := (Option.bind_some _ _).symm.trans H; rw [hy231]; with_reducible exact H2_) | (have H2_ := (Option.bind_some _ _).symm.trans H; with_reducible exact H2_) | with_reducible exact H | (rw [hy231]; exact H) | exact H
  have Ny231 := Aside0.mk hy231
  clear hy231
  replace H := Option.bind_eq_some_iff.mp H
  obtain ⟨⟨t234, t235, t236⟩, A60, H⟩ := H
  replace H : ((octet_Row.f k (([7, 8] : List Int))).bind fun bt240 => (if (strOfNums t207).toList = ([2, 1] : List UInt8) then (if t208 = 0 then (if t212 = 11 then (if t216 = 2 then ((octet_Signed.f k (-2)).bind fun t244 => (if (strOfNums t244).toList = ([254, 255, 255, 255, 255, 255, 255, 255] : List UInt8) then (if t222 = 770 then (if t223 = 3 then (if t224 = 0 then (if t230 = 10 then (if t236 = 2 then (if (strOfNums bt240.1).toList = ([2, 0, 7, 8] : List UInt8) then (some (bt240.2 == 0)) else (none)) else (none)) else (none)) else (none)) else (none)) else (none)) else (none))) else (none)) else (none)) else (none)) else (none))) = some r := H
  have A6 := Aside0.mk A60
  clear A60
  obtain ⟨y237, hy237⟩ : ∃ y_ : List Int, y_ = (([7, 8] : List Int)) := ⟨_, rfl⟩
  replace H : ((octet_Row.f k y237).bind fun bt240 => (if (strOfNums t207).toList = ([2, 1] : List UInt8) then (if t208 = 0 then (if t212 = 11 then (if t216 = 2 then ((octet_Signed.f k (-2)).bind fun t244 => (if (strOfNums t244).toList = ([254, 255, 255, 255, 255, 255, 255, 255] : List UInt8) then (if t222 = 770 then (if t223 = 3 then (if t224 = 0 then (if t230 = 10 then (if t236 = 2 then (if (strOfNums bt240.1).toList = ([2, 0, 7, 8] : List UInt8) then (some (bt240.2 == 0)) else (none)) else (none)) else (none)) else (none)) else (none)) else (none)) else (none))) else (none)) else (none)) else (none)) else (none))) = some r := by first | (rw [hy237]; with_reducible exact H) | (have H2_ := (Option.bind_some _ _).symm.trans H; rw [hy237]; with_reducible exact H2_) | (have H2_ := (Option.bind_some _ _).symm.trans H; with_reducible exact H2_) | with_reducible exact H | (rw [hy237]; exact H) | exact H
  have Ny237 := Aside0.mk hy237
  clear hy237
  replace H := Option.bind_eq_some_iff.mp H
  obtain ⟨⟨t240, t241⟩, A70, H⟩ := H
  replace H : (if (strOfNums t207).toList = ([2, 1] : List UInt8) then (if t208 = 0 then (if t212 = 11 then (if t216 = 2 then ((octet_Signed.f k (-2)).bind fun t244 => (if (strOfNums t244).toList = ([254, 255, 255, 255, 255, 255, 255, 255] : List UInt8) then (if t222 = 770 then (if t223 = 3 then (if t224 = 0 then (if t230 = 10 then (if t236 = 2 then (if (strOfNums t240).toList = ([2, 0, 7, 8] : List UInt8) then (some (t241 == 0)) else (none)) else (none)) else (none)) else (none)) else (none)) else (none)) else (none))) else (none)) else (none)) else (none)) else (none)) = some r := H
  have A7 := Aside0.mk A70
  clear A70
  by_cases c8 : (strOfNums t207).toList = ([2, 1] : List UInt8)
  · rw [if_pos c8] at H
    have c8b0 : ((strOfNums t207).toList == ([2, 1] : List UInt8)) = true := beq_iff_eq.mpr c8
    have c8b1 : ((strOfNums t207).toList != ([2, 1] : List UInt8)) = false := bne_eq_false_iff_eq.mpr c8
    clear c8
    by_cases c9 : t208 = 0
    · rw [if_pos c9] at H
      have c9b0 : (t208 == 0) = true := beq_iff_eq.mpr c9
      have c9b1 : (t208 != 0) = false := bne_eq_false_iff_eq.mpr c9
      clear c9
      by_cases c10 : t212 = 11
      · rw [if_pos c10] at H
        have c10b0 : (t212 == 11) = true := beq_iff_eq.mpr c10
        have c10b1 : (t212 != 11) = false := bne_eq_false_iff_eq.mpr c10
        clear c10
        by_cases c11 : t216 = 2
        · rw [if_pos c11] at H
          have c11b0 : (t216 == 2) = true := beq_iff_eq.mpr c11
          have c11b1 : (t216 != 2) = false := bne_eq_false_iff_eq.mpr c11
          clear c11
          replace H := Option.bind_eq_some_iff.mp H
          obtain ⟨t244, A120, H⟩ := H
          replace H : (if (strOfNums t244).toList = ([254, 255, 255, 255, 255, 255, 255, 255] : List UInt8) then (if t222 = 770 then (if t223 = 3 then (if t224 = 0 then (if t230 = 10 then (if t236 = 2 then (if (strOfNums t240).toList = ([2, 0, 7, 8] : List UInt8) then (some (t241 == 0)) else (none)) else (none)) else (none)) else (none)) else (none)) else (none)) else (none)) = some r := H
          have A12 := Aside0.mk A120
          clear A120
          by_cases c13 : (strOfNums t244).toList = ([254, 255, 255, 255, 255, 255, 255, 255] : List UInt8)
          · rw [if_pos c13] at H
            have c13b0 : ((strOfNums t244).toList == ([254, 255, 255, 255, 255, 255, 255, 255] : List UInt8)) = true := beq_iff_eq.mpr c13
            have c13b1 : ((strOfNums t244).toList != ([254, 255, 255, 255, 255, 255, 255, 255] : List UInt8)) = false := bne_eq_false_iff_eq.mpr c13
            clear c13
            by_cases c14 : t222 = 770
            · rw [if_pos c14] at H
              have c14b0 : (t222 == 770) = true := beq_iff_eq.mpr c14
              have c14b1 : (t222 != 770) = false := bne_eq_false_iff_eq.mpr c14
              clear c14
              by_cases c15 : t223 = 3
              · rw [if_pos c15] at H
                have c15b0 : (t223 == 3) = true := beq_iff_eq.mpr c15
                have c15b1 : (t223 != 3) = false := bne_eq_false_iff_eq.mpr c15
                clear c15
                by_cases c16 : t224 = 0
                · rw [if_pos c16] at H
                  have c16b0 : (t224 == 0) = true := beq_iff_eq.mpr c16
                  have c16b1 : (t224 != 0) = false := bne_eq_false_iff_eq.mpr c16
                  clear c16
                  by_cases c17 : t230 = 10
                  · rw [if_pos c17] at H
                    have c17b0 : (t230 == 10) = true := beq_iff_eq.mpr c17
                    have c17b1 : (t230 != 10) = false := bne_eq_false_iff_eq.mpr c17
                    clear c17
                    by_cases c18 : t236 = 2
                    · rw [if_pos c18] at H
                      have c18b0 : (t236 == 2) = true := beq_iff_eq.mpr c18
                      have c18b1 : (t236 != 2) = false := bne_eq_false_iff_eq.mpr c18
                      clear c18
                      by_cases c19 : (strOfNums t240).toList = ([2, 0, 7, 8] : List UInt8)
                      · rw [if_pos c19] at H
                        have c19b0 : ((strOfNums t240).toList == ([2, 0, 7, 8] : List UInt8)) = true := beq_iff_eq.mpr c19
                        have c19b1 : ((strOfNums t240).toList != ([2, 0, 7, 8] : List UInt8)) = false := bne_eq_false_iff_eq.mpr c19
                        clear c19
                        obtain rfl := Option.some.inj H
                        go_enter Try.func23, Try.ntmps23
                        go_wp2_with (first | ((with_reducible refine gate_callee (f := 11) rfl ?_); refine goesL_ (some 19) rfl rfl Try.func11 (by kernel_rfl) rfl #[.int .i64 2, .int .i64 258] rfl (by (try simp only [List.map_toArray, List.map_cons, List.map_nil]); first | done | rfl | (simp only [List.length_drop, List.length_take]; rfl)) ?_; (with_reducible refine (octet_Put.calls k 2 258 t207 t208 _ A1.out).mono ?_); rintro e w20 ⟨v209, rfl, ho0, hb⟩; refine ⟨_, rfl, ?_⟩; have n0_ := Aside0.mk (Kd.R_lower ho0 (below_size (by repeat (first | (with_reducible first | exact HB.out | apply below_alloc | apply pw_below_drewN | apply below_drew1) | exact HB.out | exact ⟨HB.out.os, HB.out.tape, HB.out.output, HB.out.size, HB.out.block⟩)))); have n1_ := Aside0.mk (below_step (by repeat (first | (with_reducible first | exact HB.out | apply below_alloc | apply pw_below_drewN | apply below_drew1) | exact HB.out | exact ⟨HB.out.os, HB.out.tape, HB.out.output, HB.out.size, HB.out.block⟩)) hb); clear HB; have HO210 := n0_; have HB := n1_; clear n0_ n1_; (try clear hb); (try clear hb2); (try clear hk); (try clear hi); (try clear ho0)) | ((with_reducible refine gate_callee (f := 11) rfl ?_); refine goesL_ (some 23) rfl rfl Try.func11 (by kernel_rfl) rfl #[.int .i64 1, .int .i64 256] rfl (by (try simp only [List.map_toArray, List.map_cons, List.map_nil]); first | done | rfl | (simp only [List.length_drop, List.length_take]; rfl)) ?_; (with_reducible refine (octet_Put.calls k 1 256 t211 t212 _ A2.out).mono ?_); rintro e w21 ⟨v213, rfl, ho0, hb⟩; refine ⟨_, rfl, ?_⟩; have n0_ := Aside0.mk (Kd.R_elder' (by (with_reducible repeat (first | apply Kd.R_alloc | apply Kd.R_drewN | apply Kd.R_drew)); exact HO210.out) (Kd.R_base ho0) hb); have n1_ := Aside0.mk (Kd.R_lower (Kd.R_new' ho0 (Kd.R_lt (by (with_reducible repeat (first | apply Kd.R_alloc | apply Kd.R_drewN | apply Kd.R_drew)); exact HO210.out))) (below_size (by repeat (first | (with_reducible first | exact HB.out | apply below_alloc | apply pw_below_drewN | apply below_drew1) | exact HB.out | exact ⟨HB.out.os, HB.out.tape, HB.out.output, HB.out.size, HB.out.block⟩)))); have n2_ := Aside0.mk (below_step (by repeat (first | (with_reducible first | exact HB.out | apply below_alloc | apply pw_below_drewN | apply below_drew1) | exact HB.out | exact ⟨HB.out.os, HB.out.tape, HB.out.output, HB.out.size, HB.out.block⟩)) hb); clear HO210; clear HB; have HO210 := n0_; have HO214 := n1_; have HB := n2_; clear n0_ n1_ n2_; (try clear hb); (try clear hb2); (try clear hk); (try clear hi); (try clear ho0)) | ((with_reducible refine gate_callee (f := 11) rfl ?_); refine goesL_ (some 27) rfl rfl Try.func11 (by kernel_rfl) rfl #[.int .i64 9, .int .i64 0] rfl (by (try simp only [List.map_toArray, List.map_cons, List.map_nil]); first | done | rfl | (simp only [List.length_drop, List.length_take]; rfl)) ?_; (with_reducible refine (octet_Put.calls k 9 0 t215 t216 _ A3.out).mono ?_); rintro e w22 ⟨v217, rfl, ho0, hb⟩; refine ⟨_, rfl, ?_⟩; have n0_ := Aside0.mk (Kd.R_elder' (by (with_reducible repeat (first | apply Kd.R_alloc | apply Kd.R_drewN | apply Kd.R_drew)); exact HO210.out) (Kd.R_base ho0) hb); have n1_ := Aside0.mk (Kd.R_elder' (by (with_reducible repeat (first | apply Kd.R_alloc | apply Kd.R_drewN | apply Kd.R_drew)); exact HO214.out) (Kd.R_base ho0) hb); have n2_ := Aside0.mk (Kd.R_lower (Kd.R_new' (Kd.R_new' ho0 (Kd.R_lt (by (with_reducible repeat (first | apply Kd.R_alloc | apply Kd.R_drewN | apply Kd.R_drew)); exact HO210.out))) (Kd.R_lt (by (with_reducible repeat (first | apply Kd.R_alloc | apply Kd.R_drewN | apply Kd.R_drew)); exact HO214.out))) (below_size (by repeat (first | (with_reducible first | exact HB.out | apply below_alloc | apply pw_below_drewN | apply below_drew1) | exact HB.out | exact ⟨HB.out.os, HB.out.tape, HB.out.output, HB.out.size, HB.out.block⟩)))); have n3_ := Aside0.mk (below_step (by repeat (first | (with_reducible first | exact HB.out | apply below_alloc | apply pw_below_drewN | apply below_drew1) | exact HB.out | exact ⟨HB.out.os, HB.out.tape, HB.out.output, HB.out.size, HB.out.block⟩)) hb); clear HO210; clear HO214; clear HB; have HO210 := n0_; have HO214 := n1_; have HO218 := n2_; have HB := n3_; clear n0_ n1_ n2_ n3_; (try clear hb); (try clear hb2); (try clear hk); (try clear hi); (try clear ho0)) | ((with_reducible refine gate_dst (N := 31) rfl ?_); refine Kd.R_lit (Kd.int .u8) _ 5 ?hg (N := 31) ?hd (xs := ([1, 2, 3] : List Int)) (inner := [.int .u8 1, .int .u8 2, .int .u8 3]) (ok := fun _ => True) (okp := fun _ => True) ?hr ?hp (fun _ hk => hk) trivial (Below.refl _ _) (Nat.le_refl _) (by simp) ?_; (case hd => rfl); (case hg => rfl); (case hr => first | (go_simp; done) | (go_simp; rfl)); (case hp => exact (Reps.one (show Kd.M (Kd.int .u8) _ _ _ 1 [.int .u8 1] from rfl) (Reps.one (show Kd.M (Kd.int .u8) _ _ _ 2 [.int .u8 2] from rfl) (Reps.one (show Kd.M (Kd.int .u8) _ _ _ 3 [.int .u8 3] from rfl) (Reps.none _ _))))); intro v220 w23 ho24 hb hg_ hnew_; clear hg_ hnew_; (first | rw [← Ny219.out] at ho24 | (simp only [Int.reduceToNat] at ho24; rw [← Ny219.out] at ho24)); have n0_ := Aside0.mk (Kd.R_elder' (by (with_reducible repeat (first | apply Kd.R_alloc | apply Kd.R_drewN | apply Kd.R_drew)); exact HO210.out) (Kd.R_base ho24) hb); have n1_ := Aside0.mk (Kd.R_elder' (by (with_reducible repeat (first | apply Kd.R_alloc | apply Kd.R_drewN | apply Kd.R_drew)); exact HO214.out) (Kd.R_base ho24) hb); have n2_ := Aside0.mk (Kd.R_elder' (by (with_reducible repeat (first | apply Kd.R_alloc | apply Kd.R_drewN | apply Kd.R_drew)); exact HO218.out) (Kd.R_base ho24) hb); have n3_ := Aside0.mk (Kd.R_lower (Kd.R_new' (Kd.R_new' (Kd.R_new' ho24 (Kd.R_lt (by (with_reducible repeat (first | apply Kd.R_alloc | apply Kd.R_drewN | apply Kd.R_drew)); exact HO210.out))) (Kd.R_lt (by (with_reducible repeat (first | apply Kd.R_alloc | apply Kd.R_drewN | apply Kd.R_drew)); exact HO214.out))) (Kd.R_lt (by (with_reducible repeat (first | apply Kd.R_alloc | apply Kd.R_drewN | apply Kd.R_drew)); exact HO218.out))) (below_size (by repeat (first | (with_reducible first | exact HB.out | apply below_alloc | apply pw_below_drewN | apply below_drew1) | exact HB.out | exact ⟨HB.out.os, HB.out.tape, HB.out.output, HB.out.size, HB.out.block⟩)))); have n4_ := Aside0.mk (below_step (by repeat (first | (with_reducible first | exact HB.out | apply below_alloc | apply pw_below_drewN | apply below_drew1) | exact HB.out | exact ⟨HB.out.os, HB.out.tape, HB.out.output, HB.out.size, HB.out.block⟩)) hb); clear HO210; clear HO214; clear HO218; clear HB; have HO210 := n0_; have HO214 := n1_; have HO218 := n2_; have HO221 := n3_; have HB := n4_; clear n0_ n1_ n2_ n3_ n4_; clear hb ho24; obtain ⟨Ao25, co25, eo25⟩ := Kd.R_slice HO221.out; subst eo25) | ((with_reducible refine gate_callee (f := 17) rfl ?_); refine goesL_ (some 32) rfl rfl Try.func17 (by kernel_rfl) rfl #[.slice Ao25 y219.length co25, .int .i64 1, .int .i64 2] rfl (by (try simp only [List.map_toArray, List.map_cons, List.map_nil]); first | done | rfl | (simp only [List.length_drop, List.length_take]; rfl)) ?_; (with_reducible refine (octet_Get.calls k _ _ y219 1 2 t222 t223 t224 _ ?side1 ?side2 A4.out).mono ?_); (case side1 => repeat (first | exact (Kd.R_reads' HO221.out).2.2 | (with_reducible refine Kd.C_alloc ?_ _) | (with_reducible refine Kd.C_drewN ?_ _) | (with_reducible refine Kd.C_drew ?_))); (case side2 => exact (Kd.R_reads' HO221.out).2.1); rintro e w26 ⟨rfl, hb⟩; refine ⟨_, rfl, ?_⟩; have n0_ := Aside0.mk (Kd.R_below (by (with_reducible repeat (first | apply Kd.R_alloc | apply Kd.R_drewN | apply Kd.R_drew)); exact HO210.out) hb); have n1_ := Aside0.mk (Kd.R_below (by (with_reducible repeat (first | apply Kd.R_alloc | apply Kd.R_drewN | apply Kd.R_drew)); exact HO214.out) hb); have n2_ := Aside0.mk (Kd.R_below (by (with_reducible repeat (first | apply Kd.R_alloc | apply Kd.R_drewN | apply Kd.R_drew)); exact HO218.out) hb); have n3_ := Aside0.mk (Kd.R_below (by (with_reducible repeat (first | apply Kd.R_alloc | apply Kd.R_drewN | apply Kd.R_drew)); exact HO221.out) hb); have n4_ := Aside0.mk (below_step (by repeat (first | (with_reducible first | exact HB.out | apply below_alloc | apply pw_below_drewN | apply below_drew1) | exact HB.out | exact ⟨HB.out.os, HB.out.tape, HB.out.output, HB.out.size, HB.out.block⟩)) hb); clear HO210; clear HO214; clear HO218; clear HO221; clear HB; have HO210 := n0_; have HO214 := n1_; have HO218 := n2_; have HO221 := n3_; have HB := n4_; clear n0_ n1_ n2_ n3_ n4_; (try clear hb); (try clear hb2); (try clear hk); (try clear hi)) | ((with_reducible refine gate_dst (N := 37) rfl ?_); refine Kd.R_lit (Kd.int .u8) _ 5 ?hg (N := 37) ?hd (xs := ([1, 2, 3] : List Int)) (inner := [.int .u8 1, .int .u8 2, .int .u8 3]) (ok := fun _ => True) (okp := fun _ => True) ?hr ?hp (fun _ hk => hk) trivial (Below.refl _ _) (Nat.le_refl _) (by simp) ?_; (case hd => rfl); (case hg => rfl); (case hr => first | (go_simp; done) | (go_simp; rfl)); (case hp => exact (Reps.one (show Kd.M (Kd.int .u8) _ _ _ 1 [.int .u8 1] from rfl) (Reps.one (show Kd.M (Kd.int .u8) _ _ _ 2 [.int .u8 2] from rfl) (Reps.one (show Kd.M (Kd.int .u8) _ _ _ 3 [.int .u8 3] from rfl) (Reps.none _ _))))); intro v226 w27 ho28 hb hg_ hnew_; clear hg_ hnew_; (first | rw [← Ny225.out] at ho28 | (simp only [Int.reduceToNat] at ho28; rw [← Ny225.out] at ho28)); have n0_ := Aside0.mk (Kd.R_elder' (by (with_reducible repeat (first | apply Kd.R_alloc | apply Kd.R_drewN | apply Kd.R_drew)); exact HO210.out) (Kd.R_base ho28) hb); have n1_ := Aside0.mk (Kd.R_elder' (by (with_reducible repeat (first | apply Kd.R_alloc | apply Kd.R_drewN | apply Kd.R_drew)); exact HO214.out) (Kd.R_base ho28) hb); have n2_ := Aside0.mk (Kd.R_elder' (by (with_reducible repeat (first | apply Kd.R_alloc | apply Kd.R_drewN | apply Kd.R_drew)); exact HO218.out) (Kd.R_base ho28) hb); have n3_ := Aside0.mk (Kd.R_elder' (by (with_reducible repeat (first | apply Kd.R_alloc | apply Kd.R_drewN | apply Kd.R_drew)); exact HO221.out) (Kd.R_base ho28) hb); have n4_ := Aside0.mk (Kd.R_lower (Kd.R_new' (Kd.R_new' (Kd.R_new' (Kd.R_new' ho28 (Kd.R_lt (by (with_reducible repeat (first | apply Kd.R_alloc | apply Kd.R_drewN | apply Kd.R_drew)); exact HO210.out))) (Kd.R_lt (by (with_reducible repeat (first | apply Kd.R_alloc | apply Kd.R_drewN | apply Kd.R_drew)); exact HO214.out))) (Kd.R_lt (by (with_reducible repeat (first | apply Kd.R_alloc | apply Kd.R_drewN | apply Kd.R_drew)); exact HO218.out))) (Kd.R_lt (by (with_reducible repeat (first | apply Kd.R_alloc | apply Kd.R_drewN | apply Kd.R_drew)); exact HO221.out))) (below_size (by repeat (first | (with_reducible first | exact HB.out | apply below_alloc | apply pw_below_drewN | apply below_drew1) | exact HB.out | exact ⟨HB.out.os, HB.out.tape, HB.out.output, HB.out.size, HB.out.block⟩)))); have n5_ := Aside0.mk (below_step (by repeat (first | (with_reducible first | exact HB.out | apply below_alloc | apply pw_below_drewN | apply below_drew1) | exact HB.out | exact ⟨HB.out.os, HB.out.tape, HB.out.output, HB.out.size, HB.out.block⟩)) hb); clear HO210; clear HO214; clear HO218; clear HO221; clear HB; have HO210 := n0_; have HO214 := n1_; have HO218 := n2_; have HO221 := n3_; have HO227 := n4_; have HB := n5_; clear n0_ n1_ n2_ n3_ n4_ n5_; clear hb ho28; obtain ⟨Ao29, co29, eo29⟩ := Kd.R_slice HO227.out; subst eo29) | ((with_reducible refine gate_callee (f := 17) rfl ?_); refine goesL_ (some 38) rfl rfl Try.func17 (by kernel_rfl) rfl #[.slice Ao29 y225.length co29, .int .i64 2, .int .i64 2] rfl (by (try simp only [List.map_toArray, List.map_cons, List.map_nil]); first | done | rfl | (simp only [List.length_drop, List.length_take]; rfl)) ?_; (with_reducible refine (octet_Get.calls k _ _ y225 2 2 t228 t229 t230 _ ?side1 ?side2 A5.out).mono ?_); (case side1 => repeat (first | exact (Kd.R_reads' HO227.out).2.2 | (with_reducible refine Kd.C_alloc ?_ _) | (with_reducible refine Kd.C_drewN ?_ _) | (with_reducible refine Kd.C_drew ?_))); (case side2 => exact (Kd.R_reads' HO227.out).2.1); rintro e w30 ⟨rfl, hb⟩; refine ⟨_, rfl, ?_⟩; have n0_ := Aside0.mk (Kd.R_below (by (with_reducible repeat (first | apply Kd.R_alloc | apply Kd.R_drewN | apply Kd.R_drew)); exact HO210.out) hb); have n1_ := Aside0.mk (Kd.R_below (by (with_reducible repeat (first | apply Kd.R_alloc | apply Kd.R_drewN | apply Kd.R_drew)); exact HO214.out) hb); have n2_ := Aside0.mk (Kd.R_below (by (with_reducible repeat (first | apply Kd.R_alloc | apply Kd.R_drewN | apply Kd.R_drew)); exact HO218.out) hb); have n3_ := Aside0.mk (Kd.R_below (by (with_reducible repeat (first | apply Kd.R_alloc | apply Kd.R_drewN | apply Kd.R_drew)); exact HO221.out) hb); have n4_ := Aside0.mk (Kd.R_below (by (with_reducible repeat (first | apply Kd.R_alloc | apply Kd.R_drewN | apply Kd.R_drew)); exact HO227.out) hb); have n5_ := Aside0.mk (below_step (by repeat (first | (with_reducible first | exact HB.out | apply below_alloc | apply pw_below_drewN | apply below_drew1) | exact HB.out | exact ⟨HB.out.os, HB.out.tape, HB.out.output, HB.out.size, HB.out.block⟩)) hb); clear HO210; clear HO214; clear HO218; clear HO221; clear HO227; clear HB; have HO210 := n0_; have HO214 := n1_; have HO218 := n2_; have HO221 := n3_; have HO227 := n4_; have HB := n5_; clear n0_ n1_ n2_ n3_ n4_ n5_; (try clear hb); (try clear hb2); (try clear hk); (try clear hi)) | ((with_reducible refine gate_dst (N := 43) rfl ?_); refine Kd.R_lit (Kd.int .u8) _ 5 ?hg (N := 43) ?hd (xs := ([1, 2, 3] : List Int)) (inner := [.int .u8 1, .int .u8 2, .int .u8 3]) (ok := fun _ => True) (okp := fun _ => True) ?hr ?hp (fun _ hk => hk) trivial (Below.refl _ _) (Nat.le_refl _) (by simp) ?_; (case hd => rfl); (case hg => rfl); (case hr => first | (go_simp; done) | (go_simp; rfl)); (case hp => exact (Reps.one (show Kd.M (Kd.int .u8) _ _ _ 1 [.int .u8 1] from rfl) (Reps.one (show Kd.M (Kd.int .u8) _ _ _ 2 [.int .u8 2] from rfl) (Reps.one (show Kd.M (Kd.int .u8) _ _ _ 3 [.int .u8 3] from rfl) (Reps.none _ _))))); intro v232 w31 ho32 hb hg_ hnew_; clear hg_ hnew_; (first | rw [← Ny231.out] at ho32 | (simp only [Int.reduceToNat] at ho32; rw [← Ny231.out] at ho32)); have n0_ := Aside0.mk (Kd.R_elder' (by (with_reducible repeat (first | apply Kd.R_alloc | apply Kd.R_drewN | apply Kd.R_drew)); exact HO210.out) (Kd.R_base ho32) hb); have n1_ := Aside0.mk (Kd.R_elder' (by (with_reducible repeat (first | apply Kd.R_alloc | apply Kd.R_drewN | apply Kd.R_drew)); exact HO214.out) (Kd.R_base ho32) hb); have n2_ := Aside0.mk (Kd.R_elder' (by (with_reducible repeat (first | apply Kd.R_alloc | apply Kd.R_drewN | apply Kd.R_drew)); exact HO218.out) (Kd.R_base ho32) hb); have n3_ := Aside0.mk (Kd.R_elder' (by (with_reducible repeat (first | apply Kd.R_alloc | apply Kd.R_drewN | apply Kd.R_drew)); exact HO221.out) (Kd.R_base ho32) hb); have n4_ := Aside0.mk (Kd.R_elder' (by (with_reducible repeat (first | apply Kd.R_alloc | apply Kd.R_drewN | apply Kd.R_drew)); exact HO227.out) (Kd.R_base ho32) hb); have n5_ := Aside0.mk (Kd.R_lower (Kd.R_new' (Kd.R_new' (Kd.R_new' (Kd.R_new' (Kd.R_new' ho32 (Kd.R_lt (by (with_reducible repeat (first | apply Kd.R_alloc | apply Kd.R_drewN | apply Kd.R_drew)); exact HO210.out))) (Kd.R_lt (by (with_reducible repeat (first | apply Kd.R_alloc | apply Kd.R_drewN | apply Kd.R_drew)); exact HO214.out))) (Kd.R_lt (by (with_reducible repeat (first | apply Kd.R_alloc | apply Kd.R_drewN | apply Kd.R_drew)); exact HO218.out))) (Kd.R_lt (by (with_reducible repeat (first | apply Kd.R_alloc | apply Kd.R_drewN | apply Kd.R_drew)); exact HO221.out))) (Kd.R_lt (by (with_reducible repeat (first | apply Kd.R_alloc | apply Kd.R_drewN | apply Kd.R_drew)); exact HO227.out))) (below_size (by repeat (first | (with_reducible first | exact HB.out | apply below_alloc | apply pw_below_drewN | apply below_drew1) | exact HB.out | exact ⟨HB.out.os, HB.out.tape, HB.out.output, HB.out.size, HB.out.block⟩)))); have n6_ := Aside0.mk (below_step (by repeat (first | (with_reducible first | exact HB.out | apply below_alloc | apply pw_below_drewN | apply below_drew1) | exact HB.out | exact ⟨HB.out.os, HB.out.tape, HB.out.output, HB.out.size, HB.out.block⟩)) hb); clear HO210; clear HO214; clear HO218; clear HO221; clear HO227; clear HB; have HO210 := n0_; have HO214 := n1_; have HO218 := n2_; have HO221 := n3_; have HO227 := n4_; have HO233 := n5_; have HB := n6_; clear n0_ n1_ n2_ n3_ n4_ n5_ n6_; clear hb ho32; obtain ⟨Ao33, co33, eo33⟩ := Kd.R_slice HO233.out; subst eo33) | ((with_reducible refine gate_callee (f := 17) rfl ?_); refine goesL_ (some 44) rfl rfl Try.func17 (by kernel_rfl) rfl #[.slice Ao33 y231.length co33, .int .i64 4, .int .i64 2] rfl (by (try simp only [List.map_toArray, List.map_cons, List.map_nil]); first | done | rfl | (simp only [List.length_drop, List.length_take]; rfl)) ?_; (with_reducible refine (octet_Get.calls k _ _ y231 4 2 t234 t235 t236 _ ?side1 ?side2 A6.out).mono ?_); (case side1 => repeat (first | exact (Kd.R_reads' HO233.out).2.2 | (with_reducible refine Kd.C_alloc ?_ _) | (with_reducible refine Kd.C_drewN ?_ _) | (with_reducible refine Kd.C_drew ?_))); (case side2 => exact (Kd.R_reads' HO233.out).2.1); rintro e w34 ⟨rfl, hb⟩; refine ⟨_, rfl, ?_⟩; have n0_ := Aside0.mk (Kd.R_below (by (with_reducible repeat (first | apply Kd.R_alloc | apply Kd.R_drewN | apply Kd.R_drew)); exact HO210.out) hb); have n1_ := Aside0.mk (Kd.R_below (by (with_reducible repeat (first | apply Kd.R_alloc | apply Kd.R_drewN | apply Kd.R_drew)); exact HO214.out) hb); have n2_ := Aside0.mk (Kd.R_below (by (with_reducible repeat (first | apply Kd.R_alloc | apply Kd.R_drewN | apply Kd.R_drew)); exact HO218.out) hb); have n3_ := Aside0.mk (Kd.R_below (by (with_reducible repeat (first | apply Kd.R_alloc | apply Kd.R_drewN | apply Kd.R_drew)); exact HO221.out) hb); have n4_ := Aside0.mk (Kd.R_below (by (with_reducible repeat (first | apply Kd.R_alloc | apply Kd.R_drewN | apply Kd.R_drew)); exact HO227.out) hb); have n5_ := Aside0.mk (Kd.R_below (by (with_reducible repeat (first | apply Kd.R_alloc | apply Kd.R_drewN | apply Kd.R_drew)); exact HO233.out) hb); have n6_ := Aside0.mk (below_step (by repeat (first | (with_reducible first | exact HB.out | apply below_alloc | apply pw_below_drewN | apply below_drew1) | exact HB.out | exact ⟨HB.out.os, HB.out.tape, HB.out.output, HB.out.size, HB.out.block⟩)) hb); clear HO210; clear HO214; clear HO218; clear HO221; clear HO227; clear HO233; clear HB; have HO210 := n0_; have HO214 := n1_; have HO218 := n2_; have HO221 := n3_; have HO227 := n4_; have HO233 := n5_; have HB := n6_; clear n0_ n1_ n2_ n3_ n4_ n5_ n6_; (try clear hb); (try clear hb2); (try clear hk); (try clear hi)) | ((with_reducible refine gate_dst (N := 49) rfl ?_); refine Kd.R_lit (Kd.int .u8) _ 5 ?hg (N := 49) ?hd (xs := ([7, 8] : List Int)) (inner := [.int .u8 7, .int .u8 8]) (ok := fun _ => True) (okp := fun _ => True) ?hr ?hp (fun _ hk => hk) trivial (Below.refl _ _) (Nat.le_refl _) (by simp) ?_; (case hd => rfl); (case hg => rfl); (case hr => first | (go_simp; done) | (go_simp; rfl)); (case hp => exact (Reps.one (show Kd.M (Kd.int .u8) _ _ _ 7 [.int .u8 7] from rfl) (Reps.one (show Kd.M (Kd.int .u8) _ _ _ 8 [.int .u8 8] from rfl) (Reps.none _ _)))); intro v238 w35 ho36 hb hg_ hnew_; clear hg_ hnew_; (first | rw [← Ny237.out] at ho36 | (simp only [Int.reduceToNat] at ho36; rw [← Ny237.out] at ho36)); have n0_ := Aside0.mk (Kd.R_elder' (by (with_reducible repeat (first | apply Kd.R_alloc | apply Kd.R_drewN | apply Kd.R_drew)); exact HO210.out) (Kd.R_base ho36) hb); have n1_ := Aside0.mk (Kd.R_elder' (by (with_reducible repeat (first | apply Kd.R_alloc | apply Kd.R_drewN | apply Kd.R_drew)); exact HO214.out) (Kd.R_base ho36) hb); have n2_ := Aside0.mk (Kd.R_elder' (by (with_reducible repeat (first | apply Kd.R_alloc | apply Kd.R_drewN | apply Kd.R_drew)); exact HO218.out) (Kd.R_base ho36) hb); have n3_ := Aside0.mk (Kd.R_elder' (by (with_reducible repeat (first | apply Kd.R_alloc | apply Kd.R_drewN | apply Kd.R_drew)); exact HO221.out) (Kd.R_base ho36) hb); have n4_ := Aside0.mk (Kd.R_elder' (by (with_reducible repeat (first | apply Kd.R_alloc | apply Kd.R_drewN | apply Kd.R_drew)); exact HO227.out) (Kd.R_base ho36) hb); have n5_ := Aside0.mk (Kd.R_elder' (by (with_reducible repeat (first | apply Kd.R_alloc | apply Kd.R_drewN | apply Kd.R_drew)); exact HO233.out) (Kd.R_base ho36) hb); have n6_ := Aside0.mk (Kd.R_lower (Kd.R_new' (Kd.R_new' (Kd.R_new' (Kd.R_new' (Kd.R_new' (Kd.R_new' ho36 (Kd.R_lt (by (with_reducible repeat (first | apply Kd.R_alloc | apply Kd.R_drewN | apply Kd.R_drew)); exact HO210.out))) (Kd.R_lt (by (with_reducible repeat (first | apply Kd.R_alloc | apply Kd.R_drewN | apply Kd.R_drew)); exact HO214.out))) (Kd.R_lt (by (with_reducible repeat (first | apply Kd.R_alloc | apply Kd.R_drewN | apply Kd.R_drew)); exact HO218.out))) (Kd.R_lt (by (with_reducible repeat (first | apply Kd.R_alloc | apply Kd.R_drewN | apply Kd.R_drew)); exact HO221.out))) (Kd.R_lt (by (with_reducible repeat (first | apply Kd.R_alloc | apply Kd.R_drewN | apply Kd.R_drew)); exact HO227.out))) (Kd.R_lt (by (with_reducible repeat (first | apply Kd.R_alloc | apply Kd.R_drewN | apply Kd.R_drew)); exact HO233.out))) (below_size (by repeat (first | (with_reducible first | exact HB.out | apply below_alloc | apply pw_below_drewN | apply below_drew1) | exact HB.out | exact ⟨HB.out.os, HB.out.tape, HB.out.output, HB.out.size, HB.out.block⟩)))); have n7_ := Aside0.mk (below_step (by repeat (first | (with_reducible first | exact HB.out | apply below_alloc | apply pw_below_drewN | apply below_drew1) | exact HB.out | exact ⟨HB.out.os, HB.out.tape, HB.out.output, HB.out.size, HB.out.block⟩)) hb); clear HO210; clear HO214; clear HO218; clear HO221; clear HO227; clear HO233; clear HB; have HO210 := n0_; have HO214 := n1_; have HO218 := n2_; have HO221 := n3_; have HO227 := n4_; have HO233 := n5_; have HO239 := n6_; have HB := n7_; clear n0_ n1_ n2_ n3_ n4_ n5_ n6_ n7_; clear hb ho36; obtain ⟨Ao37, co37, eo37⟩ := Kd.R_slice HO239.out; subst eo37) | ((with_reducible refine gate_callee (f := 15) rfl ?_); refine goesL_ (some 50) rfl rfl Try.func15 (by kernel_rfl) rfl #[.slice Ao37 y237.length co37] rfl (by (try simp only [List.map_toArray, List.map_cons, List.map_nil]); first | done | rfl | (simp only [List.length_drop, List.length_take]; rfl)) ?_; (with_reducible refine (octet_Row.calls k _ _ y237 t240 t241 _ ?side1 ?side2 A7.out).mono ?_); (case side1 => repeat (first | exact (Kd.R_reads' HO239.out).2.2 | (with_reducible refine Kd.C_alloc ?_ _) | (with_reducible refine Kd.C_drewN ?_ _) | (with_reducible refine Kd.C_drew ?_))); (case side2 => exact (Kd.R_reads' HO239.out).2.1); rintro e w38 ⟨v242, rfl, ho0, hb⟩; refine ⟨_, rfl, ?_⟩; have n0_ := Aside0.mk (Kd.R_elder' (by (with_reducible repeat (first | apply Kd.R_alloc | apply Kd.R_drewN | apply Kd.R_drew)); exact HO210.out) (Kd.R_base ho0) hb); have n1_ := Aside0.mk (Kd.R_elder' (by (with_reducible repeat (first | apply Kd.R_alloc | apply Kd.R_drewN | apply Kd.R_drew)); exact HO214.out) (Kd.R_base ho0) hb); have n2_ := Aside0.mk (Kd.R_elder' (by (with_reducible repeat (first | apply Kd.R_alloc | apply Kd.R_drewN | apply Kd.R_drew)); exact HO218.out) (Kd.R_base ho0) hb); have n3_ := Aside0.mk (Kd.R_elder' (by (with_reducible repeat (first | apply Kd.R_alloc | apply Kd.R_drewN | apply Kd.R_drew)); exact HO221.out) (Kd.R_base ho0) hb); have n4_ := Aside0.mk (Kd.R_elder' (by (with_reducible repeat (first | apply Kd.R_alloc | apply Kd.R_drewN | apply Kd.R_drew)); exact HO227.out) (Kd.R_base ho0) hb); have n5_ := Aside0.mk (Kd.R_elder' (by (with_reducible repeat (first | apply Kd.R_alloc | apply Kd.R_drewN | apply Kd.R_drew)); exact HO233.out) (Kd.R_base ho0) hb); have n6_ := Aside0.mk (Kd.R_elder' (by (with_reducible repeat (first | apply Kd.R_alloc | apply Kd.R_drewN | apply Kd.R_drew)); exact HO239.out) (Kd.R_base ho0) hb); have n7_ := Aside0.mk (Kd.R_lower (Kd.R_new' (Kd.R_new' (Kd.R_new' (Kd.R_new' (Kd.R_new' (Kd.R_new' (Kd.R_new' ho0 (Kd.R_lt (by (with_reducible repeat (first | apply Kd.R_alloc | apply Kd.R_drewN | apply Kd.R_drew)); exact HO210.out))) (Kd.R_lt (by (with_reducible repeat (first | apply Kd.R_alloc | apply Kd.R_drewN | apply Kd.R_drew)); exact HO214.out))) (Kd.R_lt (by (with_reducible repeat (first | apply Kd.R_alloc | apply Kd.R_drewN | apply Kd.R_drew)); exact HO218.out))) (Kd.R_lt (by (with_reducible repeat (first | apply Kd.R_alloc | apply Kd.R_drewN | apply Kd.R_drew)); exact HO221.out))) (Kd.R_lt (by (with_reducible repeat (first | apply Kd.R_alloc | apply Kd.R_drewN | apply Kd.R_drew)); exact HO227.out))) (Kd.R_lt (by (with_reducible repeat (first | apply Kd.R_alloc | apply Kd.R_drewN | apply Kd.R_drew)); exact HO233.out))) (Kd.R_lt (by (with_reducible repeat (first | apply Kd.R_alloc | apply Kd.R_drewN | apply Kd.R_drew)); exact HO239.out))) (below_size (by repeat (first | (with_reducible first | exact HB.out | apply below_alloc | apply pw_below_drewN | apply below_drew1) | exact HB.out | exact ⟨HB.out.os, HB.out.tape, HB.out.output, HB.out.size, HB.out.block⟩)))); have n8_ := Aside0.mk (below_step (by repeat (first | (with_reducible first | exact HB.out | apply below_alloc | apply pw_below_drewN | apply below_drew1) | exact HB.out | exact ⟨HB.out.os, HB.out.tape, HB.out.output, HB.out.size, HB.out.block⟩)) hb); clear HO210; clear HO214; clear HO218; clear HO221; clear HO227; clear HO233; clear HO239; clear HB; have HO210 := n0_; have HO214 := n1_; have HO218 := n2_; have HO221 := n3_; have HO227 := n4_; have HO233 := n5_; have HO239 := n6_; have HO243 := n7_; have HB := n8_; clear n0_ n1_ n2_ n3_ n4_ n5_ n6_ n7_ n8_; (try clear hb); (try clear hb2); (try clear hk); (try clear hi); (try clear ho0); have hcv39 := own_string (P := Try.prog) Try.underlying22 Try.underlying5 Try.underlying9 (Kd.own_of_R HO210.out)) | (go_at_call 13; (with_reducible refine (octet_Signed.calls k (-2) t244 _ A12.out).mono ?_); rintro e w40 ⟨v245, rfl, ho0, hb⟩; have n0_ := Aside0.mk (Kd.R_elder' (by (with_reducible repeat (first | apply Kd.R_alloc | apply Kd.R_drewN | apply Kd.R_drew)); exact HO210.out) (Kd.R_base ho0) hb); have n1_ := Aside0.mk (Kd.R_elder' (by (with_reducible repeat (first | apply Kd.R_alloc | apply Kd.R_drewN | apply Kd.R_drew)); exact HO214.out) (Kd.R_base ho0) hb); have n2_ := Aside0.mk (Kd.R_elder' (by (with_reducible repeat (first | apply Kd.R_alloc | apply Kd.R_drewN | apply Kd.R_drew)); exact HO218.out) (Kd.R_base ho0) hb); have n3_ := Aside0.mk (Kd.R_elder' (by (with_reducible repeat (first | apply Kd.R_alloc | apply Kd.R_drewN | apply Kd.R_drew)); exact HO221.out) (Kd.R_base ho0) hb); have n4_ := Aside0.mk (Kd.R_elder' (by (with_reducible repeat (first | apply Kd.R_alloc | apply Kd.R_drewN | apply Kd.R_drew)); exact HO227.out) (Kd.R_base ho0) hb); have n5_ := Aside0.mk (Kd.R_elder' (by (with_reducible repeat (first | apply Kd.R_alloc | apply Kd.R_drewN | apply Kd.R_drew)); exact HO233.out) (Kd.R_base ho0) hb); have n6_ := Aside0.mk (Kd.R_elder' (by (with_reducible repeat (first | apply Kd.R_alloc | apply Kd.R_drewN | apply Kd.R_drew)); exact HO239.out) (Kd.R_base ho0) hb); have n7_ := Aside0.mk (Kd.R_elder' (by (with_reducible repeat (first | apply Kd.R_alloc | apply Kd.R_drewN | apply Kd.R_drew)); exact HO243.out) (Kd.R_base ho0) hb); have n8_ := Aside0.mk (Kd.R_lower (Kd.R_new' (Kd.R_new' (Kd.R_new' (Kd.R_new' (Kd.R_new' (Kd.R_new' (Kd.R_new' (Kd.R_new' ho0 (Kd.R_lt (by (with_reducible repeat (first | apply Kd.R_alloc | apply Kd.R_drewN | apply Kd.R_drew)); exact HO210.out))) (Kd.R_lt (by (with_reducible repeat (first | apply Kd.R_alloc | apply Kd.R_drewN | apply Kd.R_drew)); exact HO214.out))) (Kd.R_lt (by (with_reducible repeat (first | apply Kd.R_alloc | apply Kd.R_drewN | apply Kd.R_drew)); exact HO218.out))) (Kd.R_lt (by (with_reducible repeat (first | apply Kd.R_alloc | apply Kd.R_drewN | apply Kd.R_drew)); exact HO221.out))) (Kd.R_lt (by (with_reducible repeat (first | apply Kd.R_alloc | apply Kd.R_drewN | apply Kd.R_drew)); exact HO227.out))) (Kd.R_lt (by (with_reducible repeat (first | apply Kd.R_alloc | apply Kd.R_drewN | apply Kd.R_drew)); exact HO233.out))) (Kd.R_lt (by (with_reducible repeat (first | apply Kd.R_alloc | apply Kd.R_drewN | apply Kd.R_drew)); exact HO239.out))) (Kd.R_lt (by (with_reducible repeat (first | apply Kd.R_alloc | apply Kd.R_drewN | apply Kd.R_drew)); exact HO243.out))) (below_size (by repeat (first | (with_reducible first | exact HB.out | apply below_alloc | apply pw_below_drewN | apply below_drew1) | exact HB.out | exact ⟨HB.out.os, HB.out.tape, HB.out.output, HB.out.size, HB.out.block⟩)))); have n9_ := Aside0.mk (below_step (by repeat (first | (with_reducible first | exact HB.out | apply below_alloc | apply pw_below_drewN | apply below_drew1) | exact HB.out | exact ⟨HB.out.os, HB.out.tape, HB.out.output, HB.out.size, HB.out.block⟩)) hb); clear HO210; clear HO214; clear HO218; clear HO221; clear HO227; clear HO233; clear HO239; clear HO243; clear HB; have HO210 := n0_; have HO214 := n1_; have HO218 := n2_; have HO221 := n3_; have HO227 := n4_; have HO233 := n5_; have HO239 := n6_; have HO243 := n7_; have HO246 := n8_; have HB := n9_; clear n0_ n1_ n2_ n3_ n4_ n5_ n6_ n7_ n8_ n9_; (try clear hb); (try clear hb2); (try clear hk); (try clear hi); (try clear ho0); have hcv41 := own_string (P := Try.prog) Try.underlying22 Try.underlying5 Try.underlying9 (Kd.own_of_R HO246.out); have hcv42 := own_string (P := Try.prog) Try.underlying22 Try.underlying5 Try.underlying9 (Kd.own_of_R HO243.out)))
                        go_ret
                        exact ⟨by first | rfl | (simp [errW_none, errW_some] <;> rfl) | (simp [*, errW_none, errW_some] <;> rfl), by repeat (first | (with_reducible first | exact HB.out | apply below_alloc | apply pw_below_drewN | apply below_drew1) | exact HB.out | exact ⟨HB.out.os, HB.out.tape, HB.out.output, HB.out.size, HB.out.block⟩)⟩
                      · rw [if_neg c19] at H
                        exact absurd H (by simp)
                    · rw [if_neg c18] at H
                      exact absurd H (by simp)
                  · rw [if_neg c17] at H
                    exact absurd H (by simp)
                · rw [if_neg c16] at H
                  exact absurd H (by simp)
              · rw [if_neg c15] at H
                exact absurd H (by simp)
            · rw [if_neg c14] at H
              exact absurd H (by simp)
          · rw [if_neg c13] at H
            exact absurd H (by simp)
        · rw [if_neg c11] at H
          exact absurd H (by simp)
      · rw [if_neg c10] at H
        exact absurd H (by simp)
    · rw [if_neg c9] at H
      exact absurd H (by simp)
  · rw [if_neg c8] at H
    exact absurd H (by simp)

end Go.Proofs.Ytdcclddfdjijaaa.P
