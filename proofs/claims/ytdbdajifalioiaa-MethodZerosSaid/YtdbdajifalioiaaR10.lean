/- Contracts of the functions of this seat (each: the call of the function does what the plain Lean function of the same name tells; the conditions stand in each statement). Written by a program of this session and by hand; checked by Lean. -/
import Derived.Test.YtdbdajifalioiaaR0
import Derived.Test.YtdbdajifalioiaaR2
import Derived.Test.YtdbdajifalioiaaR4
import Derived.Test.YtdbdajifalioiaaR5
import Derived.Test.YtdbdajifalioiaaR6
import Derived.Test.YtdbdajifalioiaaR9
namespace Go.Proofs.Ytdbdajifalioiaa.R
open Go.RowKit Go.Proofs.YtdbdajifalioiaaW.PrintWords Go.Proofs.YtdbdajifalioiaaW.PrintLast Go.Proofs.YtdbdajifalioiaaW.PrintMore
attribute [local go_sem] max2_int min2_int max_two min_two max_three min_three max_four min_four   -- for this text's walks alone
set_option linter.unusedVariables false
set_option linter.unusedSimpArgs false

/-! ### capstanlaw07_MethodZeros: function 7 -/
set_option maxHeartbeats 8000000 in
set_option maxRecDepth 100000 in
theorem capstanlaw07_MethodZeros.calls (k : Nat) (A0_0 : Option Addr) (c0_0 : Nat) (l0_0 : List Int) (A0_1 : Option Addr) (c0_1 : Nat) (l0_1 : List Int) (a0_2 : Int) (a0_3 : Bool) (a0_4 : Int) (a0_5 : Int) (a0_6 : Int) (A0_7 : Option Addr) (c0_7 : Nat) (l0_7 : List (S114)) (A1 : Option Addr) (c1 : Nat) (l1 : List (S47)) (r : Bool) (w : World) (hr0_0 : Kd.C (Kd.int .u8) w A0_0 l0_0.length l0_0) (hc0_0 : l0_0.length ≤ c0_0) (hr0_1 : Kd.C (Kd.int .u8) w A0_1 l0_1.length l0_1) (hc0_1 : l0_1.length ≤ c0_1) (hr0_7 : Kd.C k114 w A0_7 l0_7.length l0_7) (hc0_7 : l0_7.length ≤ c0_7) (hr1 : Kd.C k47 w A1 l1.length l1) (hc1 : l1.length ≤ c1) (h : capstanlaw07_MethodZeros.f k l0_0 l0_1 a0_2 a0_3 a0_4 a0_5 a0_6 l0_7 l1 = some r) :
  Calls Try.prog 7 #[.agg #[.slice A0_0 l0_0.length c0_0, .slice A0_1 l0_1.length c0_1, .int .u8 a0_2, .bool a0_3, .int .i64 a0_4, .int .i64 a0_5, .int .i64 a0_6, .slice A0_7 l0_7.length c0_7], .slice A1 l1.length c1] w fun e w' => e = .returned (.bool r) ∧ Below w.heap.size w w' := by
 have hu25 := Try.underlying25
 have hu47 := Try.underlying47
 have HR0_0 := Aside0.mk hr0_0
 have HC0_0 := Aside0.mk hc0_0
 clear hr0_0 hc0_0
 have HR0_1 := Aside0.mk hr0_1
 have HC0_1 := Aside0.mk hc0_1
 clear hr0_1 hc0_1
 have HR0_7 := Aside0.mk hr0_7
 have HC0_7 := Aside0.mk hc0_7
 clear hr0_7 hc0_7
 have HR1 := Aside0.mk hr1
 have HC1 := Aside0.mk hc1
 clear hr1 hc1
 have HB := Aside0.mk (Below.refl w.heap.size w)
 have H : ((capstanlaw07_awake.f k).bind fun t260 => (if t260 = true then ((capstanlaw07_Great.f l0_0 l0_1 a0_2 a0_3 a0_4 a0_5 a0_6 l0_7).bind fun t261 => (if t261 = true then (some true) else (if (l1.length : Int) > 100 then (some true) else ((method_Zeros.f k l0_0 l0_1 a0_2 a0_3 a0_4 a0_5 a0_6 l0_7).bind fun bt262 => ((method_May.f k l0_0 l0_1 a0_2 a0_3 a0_4 a0_5 a0_6 l0_7).bind fun t266 => (if (bt262.2 != t266) = true then (none) else (if bt262.2 = true then (capstanlaw07_MethodZeros.l0 k l1 bt262.1 ([] : List (S47)) 0 l0_0 l0_1 a0_2 a0_3 a0_4 a0_5 a0_6 l0_7) else (if (bt262.1.length : Int) = 0 then ((method_Fits.f k l0_0 l0_1 a0_2 a0_3 a0_4 a0_5 a0_6 l0_7 l1).bind fun t335 => (if t335 = true then (none) else ((method_Migrates.f k l0_0 l0_1 a0_2 a0_3 a0_4 a0_5 a0_6 l0_7).bind fun t336 => (some (!t336))))) else (none))))))))) else (none))) = some r := h
 clear h
 replace H := Option.bind_eq_some_iff.mp H
 obtain ⟨t260, A30, H⟩ := H
 replace H : (if t260 = true then ((capstanlaw07_Great.f l0_0 l0_1 a0_2 a0_3 a0_4 a0_5 a0_6 l0_7).bind fun t261 => (if t261 = true then (some true) else (if (l1.length : Int) > 100 then (some true) else ((method_Zeros.f k l0_0 l0_1 a0_2 a0_3 a0_4 a0_5 a0_6 l0_7).bind fun bt262 => ((method_May.f k l0_0 l0_1 a0_2 a0_3 a0_4 a0_5 a0_6 l0_7).bind fun t266 => (if (bt262.2 != t266) = true then (none) else (if bt262.2 = true then (capstanlaw07_MethodZeros.l0 k l1 bt262.1 ([] : List (S47)) 0 l0_0 l0_1 a0_2 a0_3 a0_4 a0_5 a0_6 l0_7) else (if (bt262.1.length : Int) = 0 then ((method_Fits.f k l0_0 l0_1 a0_2 a0_3 a0_4 a0_5 a0_6 l0_7 l1).bind fun t335 => (if t335 = true then (none) else ((method_Migrates.f k l0_0 l0_1 a0_2 a0_3 a0_4 a0_5 a0_6 l0_7).bind fun t336 => (some (!t336))))) else (none))))))))) else (none)) = some r := H
 have A3 := Aside0.mk A30
 clear A30
 by_cases c4 : t260 = true
 ·
  subst c4
  have H1 : ((capstanlaw07_Great.f l0_0 l0_1 a0_2 a0_3 a0_4 a0_5 a0_6 l0_7).bind fun t261 => (if t261 = true then (some true) else (if (l1.length : Int) > 100 then (some true) else ((method_Zeros.f k l0_0 l0_1 a0_2 a0_3 a0_4 a0_5 a0_6 l0_7).bind fun bt262 => ((method_May.f k l0_0 l0_1 a0_2 a0_3 a0_4 a0_5 a0_6 l0_7).bind fun t266 => (if (bt262.2 != t266) = true then (none) else (if bt262.2 = true then (capstanlaw07_MethodZeros.l0 k l1 bt262.1 ([] : List (S47)) 0 l0_0 l0_1 a0_2 a0_3 a0_4 a0_5 a0_6 l0_7) else (if (bt262.1.length : Int) = 0 then ((method_Fits.f k l0_0 l0_1 a0_2 a0_3 a0_4 a0_5 a0_6 l0_7 l1).bind fun t335 => (if t335 = true then (none) else ((method_Migrates.f k l0_0 l0_1 a0_2 a0_3 a0_4 a0_5 a0_6 l0_7).bind fun t336 => (some (!t336))))) else (none))))))))) = some r := by rw [if_pos rfl] at H; exact H
  clear H
  have H := H1
  clear H1
  replace H := Option.bind_eq_some_iff.mp H
  obtain ⟨t261, A50, H⟩ := H
  replace H : (if t261 = true then (some true) else (if (l1.length : Int) > 100 then (some true) else ((method_Zeros.f k l0_0 l0_1 a0_2 a0_3 a0_4 a0_5 a0_6 l0_7).bind fun bt262 => ((method_May.f k l0_0 l0_1 a0_2 a0_3 a0_4 a0_5 a0_6 l0_7).bind fun t266 => (if (bt262.2 != t266) = true then (none) else (if bt262.2 = true then (capstanlaw07_MethodZeros.l0 k l1 bt262.1 ([] : List (S47)) 0 l0_0 l0_1 a0_2 a0_3 a0_4 a0_5 a0_6 l0_7) else (if (bt262.1.length : Int) = 0 then ((method_Fits.f k l0_0 l0_1 a0_2 a0_3 a0_4 a0_5 a0_6 l0_7 l1).bind fun t335 => (if t335 = true then (none) else ((method_Migrates.f k l0_0 l0_1 a0_2 a0_3 a0_4 a0_5 a0_6 l0_7).bind fun t336 => (some (!t336))))) else (none)))))))) = some r := H
  have A5 := Aside0.mk A50
  clear A50
  by_cases c6 : t261 = true
  ·
   subst c6
   have H1 : (some true) = some r := by rw [if_pos rfl] at H; exact H
   clear H
   have H := H1
   clear H1
   obtain rfl := Option.some.inj H
   go_enter Try.func7, Try.ntmps7
   go_wp2_with (first | ((with_reducible refine gate_dst (N := 2) rfl ?_); (try (refine gate_guard (by rfl) ?_; dsimp only)); refine box_event ?hg (N := 2) ?hd (cs := #[.slice A0_0 l0_0.length c0_0, .slice A0_1 l0_1.length c0_1, .int .u8 a0_2, .bool a0_3, .int .i64 a0_4, .int .i64 a0_5, .int .i64 a0_6, .slice A0_7 l0_7.length c0_7]) (t := 25) ?hr ?_; (case hd => rfl); (case hg => rfl); (case hr => first | (go_simp; done) | (go_simp; rfl)); intro gb259 hg w7 hbox hb; have n0_ := Aside0.mk (below_step (au1) hb); have n1_ := Aside0.mk (hbox); have n2_ := Aside0.mk ((au31 : w.heap.size ≤ gb259)); have n3_ := Aside0.mk ((au31 : w.heap.size ≤ gb259)); clear HB; have HB := n0_; have BK259 := n1_; have GW259 := n2_; have GE259 := n3_; clear n0_ n1_ n2_ n3_; clear hb hbox hg) | ((with_reducible refine gate_callee (f := 28) rfl ?_); refine goesL_ (some 12) rfl rfl Try.func28 (by kernel_rfl) rfl #[] rfl (au3) ?_; (with_reducible refine (capstanlaw07_awake.calls k  true _ A3.out).mono ?_); rintro e w8 ⟨rfl, hb⟩; refine ⟨_, rfl, ?_⟩; have n0_ := Aside0.mk (blk_below (g := gb259) (o := .cells #[.slice A0_0 l0_0.length c0_0, .slice A0_1 l0_1.length c0_1, .int .u8 a0_2, .bool a0_3, .int .i64 a0_4, .int .i64 a0_5, .int .i64 a0_6, .slice A0_7 l0_7.length c0_7] 25 (0, 0)) (au4) hb); have n1_ := Aside0.mk (below_step (au2) hb); clear BK259; clear HB; have BK259 := n0_; have HB := n1_; clear n0_ n1_; (try clear hb); (try clear hb2); (try clear hk); (try clear hi); obtain ⟨hcz9_0, hcz9_1, hcz9_2, hcz9_3, hcz9_4, hcz9_5, hcz9_6, hcz9_7, hfz9_0, hfz9_1, hfz9_2, hfz9_3, hfz9_4, hfz9_5, hfz9_6, hfz9_7⟩ := blk_all8 BK259.out) | ((with_reducible refine gate_callee (f := 11) rfl ?_); refine goesL_ (some 15) rfl rfl Try.func11 (by kernel_rfl) rfl #[.agg #[.slice A0_0 l0_0.length c0_0, .slice A0_1 l0_1.length c0_1, .int .u8 a0_2, .bool a0_3, .int .i64 a0_4, .int .i64 a0_5, .int .i64 a0_6, .slice A0_7 l0_7.length c0_7]] rfl (au3) ?_; (with_reducible refine (capstanlaw07_Great.calls _ _ l0_0 _ _ l0_1 a0_2 a0_3 a0_4 a0_5 a0_6 _ _ l0_7 true _ ?side1 ?side2 ?side3 ?side4 ?side5 ?side6 A5.out).mono ?_); (case side1 => exact au6); (case side2 => exact HC0_0.out); (case side3 => exact au11); (case side4 => exact HC0_1.out); (case side5 => exact au8); (case side6 => exact HC0_7.out); rintro e w10 ⟨rfl, hb⟩; refine ⟨_, rfl, ?_⟩; have n0_ := Aside0.mk (blk_below (g := gb259) (o := .cells #[.slice A0_0 l0_0.length c0_0, .slice A0_1 l0_1.length c0_1, .int .u8 a0_2, .bool a0_3, .int .i64 a0_4, .int .i64 a0_5, .int .i64 a0_6, .slice A0_7 l0_7.length c0_7] 25 (0, 0)) (au4) hb); have n1_ := Aside0.mk (below_step (au2) hb); clear BK259; clear HB; have BK259 := n0_; have HB := n1_; clear n0_ n1_; (try clear hb); (try clear hb2); (try clear hk); (try clear hi)))
   go_ret
   exact ⟨au13, au2⟩
  ·
   replace c6 := Bool.eq_false_iff.mpr c6
   subst c6
   have H1 : (if (l1.length : Int) > 100 then (some true) else ((method_Zeros.f k l0_0 l0_1 a0_2 a0_3 a0_4 a0_5 a0_6 l0_7).bind fun bt262 => ((method_May.f k l0_0 l0_1 a0_2 a0_3 a0_4 a0_5 a0_6 l0_7).bind fun t266 => (if (bt262.2 != t266) = true then (none) else (if bt262.2 = true then (capstanlaw07_MethodZeros.l0 k l1 bt262.1 ([] : List (S47)) 0 l0_0 l0_1 a0_2 a0_3 a0_4 a0_5 a0_6 l0_7) else (if (bt262.1.length : Int) = 0 then ((method_Fits.f k l0_0 l0_1 a0_2 a0_3 a0_4 a0_5 a0_6 l0_7 l1).bind fun t335 => (if t335 = true then (none) else ((method_Migrates.f k l0_0 l0_1 a0_2 a0_3 a0_4 a0_5 a0_6 l0_7).bind fun t336 => (some (!t336))))) else (none))))))) = some r := by rw [if_neg (show ¬ (false = true) by decide)] at H; exact H
   clear H
   have H := H1
   clear H1
   by_cases c11 : (l1.length : Int) > 100
   ·
    rw [if_pos c11] at H
    have c11b0 : decide (100 < (l1.length : Int)) = true := decide_eq_true c11
    have c11b1 : decide (100 < l1.length) = true := decide_eq_true (by omega)
    clear c11
    obtain rfl := Option.some.inj H
    go_enter Try.func7, Try.ntmps7
    go_wp2_with (first | ((with_reducible refine gate_dst (N := 2) rfl ?_); (try (refine gate_guard (by rfl) ?_; dsimp only)); refine box_event ?hg (N := 2) ?hd (cs := #[.slice A0_0 l0_0.length c0_0, .slice A0_1 l0_1.length c0_1, .int .u8 a0_2, .bool a0_3, .int .i64 a0_4, .int .i64 a0_5, .int .i64 a0_6, .slice A0_7 l0_7.length c0_7]) (t := 25) ?hr ?_; (case hd => rfl); (case hg => rfl); (case hr => first | (go_simp; done) | (go_simp; rfl)); intro gb259 hg w12 hbox hb; have n0_ := Aside0.mk (below_step (au1) hb); have n1_ := Aside0.mk (hbox); have n2_ := Aside0.mk ((au31 : w.heap.size ≤ gb259)); have n3_ := Aside0.mk ((au31 : w.heap.size ≤ gb259)); clear HB; have HB := n0_; have BK259 := n1_; have GW259 := n2_; have GE259 := n3_; clear n0_ n1_ n2_ n3_; clear hb hbox hg) | ((with_reducible refine gate_callee (f := 28) rfl ?_); refine goesL_ (some 12) rfl rfl Try.func28 (by kernel_rfl) rfl #[] rfl (au3) ?_; (with_reducible refine (capstanlaw07_awake.calls k  true _ A3.out).mono ?_); rintro e w13 ⟨rfl, hb⟩; refine ⟨_, rfl, ?_⟩; have n0_ := Aside0.mk (blk_below (g := gb259) (o := .cells #[.slice A0_0 l0_0.length c0_0, .slice A0_1 l0_1.length c0_1, .int .u8 a0_2, .bool a0_3, .int .i64 a0_4, .int .i64 a0_5, .int .i64 a0_6, .slice A0_7 l0_7.length c0_7] 25 (0, 0)) (au4) hb); have n1_ := Aside0.mk (below_step (au2) hb); clear BK259; clear HB; have BK259 := n0_; have HB := n1_; clear n0_ n1_; (try clear hb); (try clear hb2); (try clear hk); (try clear hi); obtain ⟨hcz14_0, hcz14_1, hcz14_2, hcz14_3, hcz14_4, hcz14_5, hcz14_6, hcz14_7, hfz14_0, hfz14_1, hfz14_2, hfz14_3, hfz14_4, hfz14_5, hfz14_6, hfz14_7⟩ := blk_all8 BK259.out) | ((with_reducible refine gate_callee (f := 11) rfl ?_); refine goesL_ (some 15) rfl rfl Try.func11 (by kernel_rfl) rfl #[.agg #[.slice A0_0 l0_0.length c0_0, .slice A0_1 l0_1.length c0_1, .int .u8 a0_2, .bool a0_3, .int .i64 a0_4, .int .i64 a0_5, .int .i64 a0_6, .slice A0_7 l0_7.length c0_7]] rfl (au3) ?_; (with_reducible refine (capstanlaw07_Great.calls _ _ l0_0 _ _ l0_1 a0_2 a0_3 a0_4 a0_5 a0_6 _ _ l0_7 false _ ?side1 ?side2 ?side3 ?side4 ?side5 ?side6 A5.out).mono ?_); (case side1 => exact au6); (case side2 => exact HC0_0.out); (case side3 => exact au11); (case side4 => exact HC0_1.out); (case side5 => exact au8); (case side6 => exact HC0_7.out); rintro e w15 ⟨rfl, hb⟩; refine ⟨_, rfl, ?_⟩; have n0_ := Aside0.mk (blk_below (g := gb259) (o := .cells #[.slice A0_0 l0_0.length c0_0, .slice A0_1 l0_1.length c0_1, .int .u8 a0_2, .bool a0_3, .int .i64 a0_4, .int .i64 a0_5, .int .i64 a0_6, .slice A0_7 l0_7.length c0_7] 25 (0, 0)) (au4) hb); have n1_ := Aside0.mk (below_step (au2) hb); clear BK259; clear HB; have BK259 := n0_; have HB := n1_; clear n0_ n1_; (try clear hb); (try clear hb2); (try clear hk); (try clear hi)))
    go_ret
    exact ⟨au13, au2⟩
   ·
    rw [if_neg c11] at H
    have c11b0 : decide (100 < (l1.length : Int)) = false := decide_eq_false c11
    have c11b1 : decide (100 < l1.length) = false := decide_eq_false (by omega)
    clear c11
    replace H := Option.bind_eq_some_iff.mp H
    obtain ⟨⟨t262, t265⟩, A160, H⟩ := H
    replace H : ((method_May.f k l0_0 l0_1 a0_2 a0_3 a0_4 a0_5 a0_6 l0_7).bind fun t266 => (if (t265 != t266) = true then (none) else (if t265 = true then (capstanlaw07_MethodZeros.l0 k l1 t262 ([] : List (S47)) 0 l0_0 l0_1 a0_2 a0_3 a0_4 a0_5 a0_6 l0_7) else (if (t262.length : Int) = 0 then ((method_Fits.f k l0_0 l0_1 a0_2 a0_3 a0_4 a0_5 a0_6 l0_7 l1).bind fun t335 => (if t335 = true then (none) else ((method_Migrates.f k l0_0 l0_1 a0_2 a0_3 a0_4 a0_5 a0_6 l0_7).bind fun t336 => (some (!t336))))) else (none))))) = some r := H
    have A16 := Aside0.mk A160
    clear A160
    replace H := Option.bind_eq_some_iff.mp H
    obtain ⟨t266, A170, H⟩ := H
    replace H : (if (t265 != t266) = true then (none) else (if t265 = true then (capstanlaw07_MethodZeros.l0 k l1 t262 ([] : List (S47)) 0 l0_0 l0_1 a0_2 a0_3 a0_4 a0_5 a0_6 l0_7) else (if (t262.length : Int) = 0 then ((method_Fits.f k l0_0 l0_1 a0_2 a0_3 a0_4 a0_5 a0_6 l0_7 l1).bind fun t335 => (if t335 = true then (none) else ((method_Migrates.f k l0_0 l0_1 a0_2 a0_3 a0_4 a0_5 a0_6 l0_7).bind fun t336 => (some (!t336))))) else (none)))) = some r := H
    have A17 := Aside0.mk A170
    clear A170
    by_cases c18 : (t265 != t266) = true
    ·
     rw [if_pos c18] at H
     exact absurd H (by simp)
    ·
     rw [if_neg c18] at H
     have c18b0 : (t265 != t266) = false := by simpa using c18
     (try (have c18b1 : decide (t265 = t266) = true := by first | (simp; done) | simpa using c18))
     (try (have c18b2 : (t265 == t266) = true := by first | (simp; done) | simpa using c18))
     clear c18
     by_cases c19 : t265 = true
     ·
      subst c19
      have H1 : (capstanlaw07_MethodZeros.l0 k l1 t262 ([] : List (S47)) 0 l0_0 l0_1 a0_2 a0_3 a0_4 a0_5 a0_6 l0_7) = some r := by rw [if_pos rfl] at H; exact H
      clear H
      have H := H1
      clear H1
      have H' := Aside0.mk H
      clear H
      go_enter Try.func7, Try.ntmps7
      go_wp2_with (first | ((with_reducible refine gate_dst (N := 2) rfl ?_); (try (refine gate_guard (by rfl) ?_; dsimp only)); refine box_event ?hg (N := 2) ?hd (cs := #[.slice A0_0 l0_0.length c0_0, .slice A0_1 l0_1.length c0_1, .int .u8 a0_2, .bool a0_3, .int .i64 a0_4, .int .i64 a0_5, .int .i64 a0_6, .slice A0_7 l0_7.length c0_7]) (t := 25) ?hr ?_; (case hd => rfl); (case hg => rfl); (case hr => first | (go_simp; done) | (go_simp; rfl)); intro gb259 hg w20 hbox hb; have n0_ := Aside0.mk (below_step (au1) hb); have n1_ := Aside0.mk (hbox); have n2_ := Aside0.mk ((au31 : w.heap.size ≤ gb259)); have n3_ := Aside0.mk ((au31 : w.heap.size ≤ gb259)); clear HB; have HB := n0_; have BK259 := n1_; have GW259 := n2_; have GE259 := n3_; clear n0_ n1_ n2_ n3_; clear hb hbox hg) | ((with_reducible refine gate_callee (f := 28) rfl ?_); refine goesL_ (some 12) rfl rfl Try.func28 (by kernel_rfl) rfl #[] rfl (au3) ?_; (with_reducible refine (capstanlaw07_awake.calls k  true _ A3.out).mono ?_); rintro e w21 ⟨rfl, hb⟩; refine ⟨_, rfl, ?_⟩; have n0_ := Aside0.mk (blk_below (g := gb259) (o := .cells #[.slice A0_0 l0_0.length c0_0, .slice A0_1 l0_1.length c0_1, .int .u8 a0_2, .bool a0_3, .int .i64 a0_4, .int .i64 a0_5, .int .i64 a0_6, .slice A0_7 l0_7.length c0_7] 25 (0, 0)) (au4) hb); have n1_ := Aside0.mk (below_step (au2) hb); clear BK259; clear HB; have BK259 := n0_; have HB := n1_; clear n0_ n1_; (try clear hb); (try clear hb2); (try clear hk); (try clear hi); obtain ⟨hcz22_0, hcz22_1, hcz22_2, hcz22_3, hcz22_4, hcz22_5, hcz22_6, hcz22_7, hfz22_0, hfz22_1, hfz22_2, hfz22_3, hfz22_4, hfz22_5, hfz22_6, hfz22_7⟩ := blk_all8 BK259.out) | ((with_reducible refine gate_callee (f := 11) rfl ?_); refine goesL_ (some 15) rfl rfl Try.func11 (by kernel_rfl) rfl #[.agg #[.slice A0_0 l0_0.length c0_0, .slice A0_1 l0_1.length c0_1, .int .u8 a0_2, .bool a0_3, .int .i64 a0_4, .int .i64 a0_5, .int .i64 a0_6, .slice A0_7 l0_7.length c0_7]] rfl (au3) ?_; (with_reducible refine (capstanlaw07_Great.calls _ _ l0_0 _ _ l0_1 a0_2 a0_3 a0_4 a0_5 a0_6 _ _ l0_7 false _ ?side1 ?side2 ?side3 ?side4 ?side5 ?side6 A5.out).mono ?_); (case side1 => exact au6); (case side2 => exact HC0_0.out); (case side3 => exact au11); (case side4 => exact HC0_1.out); (case side5 => exact au8); (case side6 => exact HC0_7.out); rintro e w23 ⟨rfl, hb⟩; refine ⟨_, rfl, ?_⟩; have n0_ := Aside0.mk (blk_below (g := gb259) (o := .cells #[.slice A0_0 l0_0.length c0_0, .slice A0_1 l0_1.length c0_1, .int .u8 a0_2, .bool a0_3, .int .i64 a0_4, .int .i64 a0_5, .int .i64 a0_6, .slice A0_7 l0_7.length c0_7] 25 (0, 0)) (au4) hb); have n1_ := Aside0.mk (below_step (au2) hb); clear BK259; clear HB; have BK259 := n0_; have HB := n1_; clear n0_ n1_; (try clear hb); (try clear hb2); (try clear hk); (try clear hi); obtain ⟨hcz24_0, hcz24_1, hcz24_2, hcz24_3, hcz24_4, hcz24_5, hcz24_6, hcz24_7, hfz24_0, hfz24_1, hfz24_2, hfz24_3, hfz24_4, hfz24_5, hfz24_6, hfz24_7⟩ := blk_all8 BK259.out) | ((with_reducible refine gate_callee (f := 23) rfl ?_); refine goesL_ (some 23) rfl rfl Try.func23 (by kernel_rfl) rfl #[.agg #[.slice A0_0 l0_0.length c0_0, .slice A0_1 l0_1.length c0_1, .int .u8 a0_2, .bool a0_3, .int .i64 a0_4, .int .i64 a0_5, .int .i64 a0_6, .slice A0_7 l0_7.length c0_7]] rfl (au3) ?_; (with_reducible refine (method_Zeros.calls k _ _ l0_0 _ _ l0_1 a0_2 a0_3 a0_4 a0_5 a0_6 _ _ l0_7 t262 true _ ?side1 ?side2 ?side3 ?side4 ?side5 ?side6 A16.out).mono ?_); (case side1 => exact au6); (case side2 => exact HC0_0.out); (case side3 => exact au11); (case side4 => exact HC0_1.out); (case side5 => exact au8); (case side6 => exact HC0_7.out); rintro e w25 ⟨v263, rfl, ho0, hb⟩; refine ⟨_, rfl, ?_⟩; have n0_ := Aside0.mk (Kd.R_lower ho0 (below_size (au2))); have n1_ := Aside0.mk (blk_below (g := gb259) (o := .cells #[.slice A0_0 l0_0.length c0_0, .slice A0_1 l0_1.length c0_1, .int .u8 a0_2, .bool a0_3, .int .i64 a0_4, .int .i64 a0_5, .int .i64 a0_6, .slice A0_7 l0_7.length c0_7] 25 (0, 0)) (au4) hb); have n2_ := Aside0.mk (below_step (au2) hb); clear BK259; clear HB; have HO264 := n0_; have BK259 := n1_; have HB := n2_; clear n0_ n1_ n2_; (try clear hb); (try clear hb2); (try clear hk); (try clear hi); (try clear ho0); obtain ⟨hcz26_0, hcz26_1, hcz26_2, hcz26_3, hcz26_4, hcz26_5, hcz26_6, hcz26_7, hfz26_0, hfz26_1, hfz26_2, hfz26_3, hfz26_4, hfz26_5, hfz26_6, hfz26_7⟩ := blk_all8 BK259.out) | ((with_reducible refine gate_callee (f := 14) rfl ?_); refine goesL_ (some 28) rfl rfl Try.func14 (by kernel_rfl) rfl #[.agg #[.slice A0_0 l0_0.length c0_0, .slice A0_1 l0_1.length c0_1, .int .u8 a0_2, .bool a0_3, .int .i64 a0_4, .int .i64 a0_5, .int .i64 a0_6, .slice A0_7 l0_7.length c0_7]] rfl (au3) ?_; (with_reducible refine (method_May.calls k _ _ l0_0 _ _ l0_1 a0_2 a0_3 a0_4 a0_5 a0_6 _ _ l0_7 t266 _ ?side1 ?side2 ?side3 ?side4 ?side5 ?side6 A17.out).mono ?_); (case side1 => exact au6); (case side2 => exact HC0_0.out); (case side3 => exact au11); (case side4 => exact HC0_1.out); (case side5 => exact au8); (case side6 => exact HC0_7.out); rintro e w27 ⟨rfl, hb⟩; refine ⟨_, rfl, ?_⟩; have n0_ := Aside0.mk (Kd.R_below (au71) hb); have n1_ := Aside0.mk (blk_below (g := gb259) (o := .cells #[.slice A0_0 l0_0.length c0_0, .slice A0_1 l0_1.length c0_1, .int .u8 a0_2, .bool a0_3, .int .i64 a0_4, .int .i64 a0_5, .int .i64 a0_6, .slice A0_7 l0_7.length c0_7] 25 (0, 0)) (au4) hb); have n2_ := Aside0.mk (below_step (au2) hb); clear HO264; clear BK259; clear HB; have HO264 := n0_; have BK259 := n1_; have HB := n2_; clear n0_ n1_ n2_; (try clear hb); (try clear hb2); (try clear hk); (try clear hi)))
      go_loopg [7, 8] k (fun kq v7 v8 w' => ∃ (x7_1 : List (S47)) (x8_1 : Int), v8 = .int .i64 x8_1 ∧ Aside0 (capstanlaw07_MethodZeros.l0 kq l1 t262 x7_1 x8_1 l0_0 l0_1 a0_2 a0_3 a0_4 a0_5 a0_6 l0_7 = some r) ∧ Aside0 (kq ≤ k) ∧ Aside0 (Kd.R k47 47 w' w.heap.size (fun k_ => some k_ ≠ (v7 : Value).ownBlock) v263 t262) ∧ Aside0 (Kd.R k47 47 w' w.heap.size (fun k_ => some k_ ≠ (v263 : Value).ownBlock) v7 x7_1) ∧ Aside0 (w'.heap[gb259]? = some (.cells #[(.slice A0_0 l0_0.length c0_0), (.slice A0_1 l0_1.length c0_1), .int .u8 a0_2, .bool a0_3, .int .i64 a0_4, .int .i64 a0_5, .int .i64 a0_6, (.slice A0_7 l0_7.length c0_7)] 25 (0, 0))) ∧ Aside0 (Below w.heap.size w w'))
      case atStart => exact ⟨(([] : List (S47))), (0), (au21), H', ⟨Nat.le_refl _⟩, ⟨by (with_reducible repeat (first | apply Kd.R_alloc | apply Kd.R_drewN | apply Kd.R_drew)); first | exact Kd.R_mono HO264.out (fun _ hk => (by simp [Value.ownBlock])) | exact Kd.R_mono (Kd.R_mono HO264.out (fun _ hk => (by simp [Value.ownBlock]))) (fun _ h_ => h_.2)⟩, ⟨au41⟩, ⟨au4⟩, ⟨au2⟩⟩
      case round =>
       clear H'
       try clear c1
       try clear c2
       try clear p2
       try clear c4
       try clear c6
       try clear c7
       try clear c11
       try clear c11b0
       try clear c11b1
       try clear c14
       try clear c18
       try clear c18b0
       try clear c18b1
       try clear c18b2
       try clear c19
       try clear c23
       try clear hcz14_0
       try clear hcz14_1
       try clear hcz14_2
       try clear hcz14_3
       try clear hcz14_4
       try clear hcz14_5
       try clear hcz14_6
       try clear hcz14_7
       try clear hcz22_0
       try clear hcz22_1
       try clear hcz22_2
       try clear hcz22_3
       try clear hcz22_4
       try clear hcz22_5
       try clear hcz22_6
       try clear hcz22_7
       try clear hcz24_0
       try clear hcz24_1
       try clear hcz24_2
       try clear hcz24_3
       try clear hcz24_4
       try clear hcz24_5
       try clear hcz24_6
       try clear hcz24_7
       try clear hcz26_0
       try clear hcz26_1
       try clear hcz26_2
       try clear hcz26_3
       try clear hcz26_4
       try clear hcz26_5
       try clear hcz26_6
       try clear hcz26_7
       try clear hcz9_0
       try clear hcz9_1
       try clear hcz9_2
       try clear hcz9_3
       try clear hcz9_4
       try clear hcz9_5
       try clear hcz9_6
       try clear hcz9_7
       try clear hfz14_0
       try clear hfz14_1
       try clear hfz14_2
       try clear hfz14_3
       try clear hfz14_4
       try clear hfz14_5
       try clear hfz14_6
       try clear hfz14_7
       try clear hfz22_0
       try clear hfz22_1
       try clear hfz22_2
       try clear hfz22_3
       try clear hfz22_4
       try clear hfz22_5
       try clear hfz22_6
       try clear hfz22_7
       try clear hfz24_0
       try clear hfz24_1
       try clear hfz24_2
       try clear hfz24_3
       try clear hfz24_4
       try clear hfz24_5
       try clear hfz24_6
       try clear hfz24_7
       try clear hfz26_0
       try clear hfz26_1
       try clear hfz26_2
       try clear hfz26_3
       try clear hfz26_4
       try clear hfz26_5
       try clear hfz26_6
       try clear hfz26_7
       try clear hfz9_0
       try clear hfz9_1
       try clear hfz9_2
       try clear hfz9_3
       try clear hfz9_4
       try clear hfz9_5
       try clear hfz9_6
       try clear hfz9_7
       obtain ⟨x7_1, x8_1, rfl, HA, HK1, HO_5, HO_7, BK259, HB⟩ := hrel
       cases gk with
       | zero => exact absurd HA.out (by simp [capstanlaw07_MethodZeros.l0])
       | succ k1 =>
        have H := HA.out
        clear HA
        simp only [capstanlaw07_MethodZeros.l0] at H
        by_cases c28 : x8_1 < (l0_0.length : Int)
        ·
         rw [if_pos c28] at H
         have c28b0 : decide (x8_1 < (l0_0.length : Int)) = true := decide_eq_true c28
         clear c28
         by_cases c29 : 0 ≤ x8_1
         ·
          rw [if_pos c29] at H
          have c29b0 : decide (0 ≤ x8_1) = true := decide_eq_true c29
          clear c29
          by_cases c30 : x7_1.length < 5864062014805
          ·
           rw [if_pos c30] at H
           have LMc30 := Aside0.mk c30
           clear c30
           obtain ⟨y268, hy268⟩ : ∃ y_ : List (S47), y_ = (x7_1 ++ [(⟨rd l0_0 x8_1, 0, 0⟩ : S47)]) := ⟨_, rfl⟩
           replace H : (capstanlaw07_MethodZeros.l0 k1 l1 t262 y268 (wrap64 (x8_1 + 1)) l0_0 l0_1 a0_2 a0_3 a0_4 a0_5 a0_6 l0_7) = some r := by first | (rw [hy268]; with_reducible exact H) | (have H2_ := (Option.bind_some _ _).symm.trans H; rw [hy268]; with_reducible exact H2_) | (have H2_ := (Option.bind_some _ _).symm.trans H; with_reducible exact H2_) | with_reducible exact H | (rw [hy268]; exact H) | exact H
           have Ny268 := Aside0.mk hy268
           clear hy268
           have H' := Aside0.mk H
           clear H
           obtain ⟨hcz31_0, hcz31_1, hcz31_2, hcz31_3, hcz31_4, hcz31_5, hcz31_6, hcz31_7, hfz31_0, hfz31_1, hfz31_2, hfz31_3, hfz31_4, hfz31_5, hfz31_6, hfz31_7⟩ := blk_all8 BK259.out
           have p267 : 0 ≤ (x8_1 : Int) := of_decide_eq_true (au15)
           have q267 : x8_1 < (l0_0.length : Int) := of_decide_eq_true (au15)
           obtain ⟨ad267, e267, hx267_0⟩ := Kd.at_int HR0_0.out x8_1 p267 q267
           cases e267
           replace hx267_0 := (HB.out.cell (World.block_lt_of_cell? w _ hx267_0)).trans hx267_0
           replace p267 := eq_true p267
           replace q267 := eq_true q267
           go_wp2_with (first | ((with_reducible refine gate_builtin (b := .append) (xs := #[.tmp 53, .tmp 60]) rfl ?_); (try (refine gate_guard (by rfl) ?_; dsimp only)); at_builtin; refine Kd.R_append k47 (w0 := w) w.heap.size rfl (.tmp 53) (.tmp 60) 33 47 (.agg #[(.int .u8 0), (.int .i64 0), (.int .i64 0)]) 24 rfl Try.underlying33 info47 rfl (by decide) (by omega) u7 x7_1 (⟨rd l0_0 x8_1, 0, 0⟩ : S47) [.int .u8 (rd l0_0 x8_1), .int .i64 0, .int .i64 0] (fun k_ => some k_ ≠ (v263 : Value).ownBlock) (fun _ => False) rfl rfl ?aP (fun _ hk => hk.elim) ?aF ?aO ?aB ?aS ?aL ?_; (case aP => exact k47_mkM _ _ _ (⟨rd l0_0 x8_1, 0, 0⟩ : S47)); (case aB => exact (au2)); (case aF => exact (fun k_ hk => Kd.fresh' (Kd.R_lt (au5)) k_ hk)); (case aO => exact (au17)); (case aS => exact (below_size (au2))); (case aL => have := LMc30.out; omega); intro v269 w32 ho hb hg hat; rw [← Ny268.out] at ho; have n0_ := Aside0.mk (Kd.R_after (ok := (fun _ => True)) (by (with_reducible repeat (first | apply Kd.R_alloc | apply Kd.R_drewN | apply Kd.R_drew)); first | exact Kd.R_mono HO_5.out (fun _ hk => ⟨trivial, hk⟩) | exact Kd.R_mono (Kd.R_mono HO_5.out (fun _ hk => ⟨trivial, hk⟩)) (fun _ h_ => h_.2)) hg hat); have n1_ := Aside0.mk (blk_grown (g := gb259) (o := .cells #[.slice (some ad267) l0_0.length c0_0, .slice A0_1 l0_1.length c0_1, .int .u8 a0_2, .bool a0_3, .int .i64 a0_4, .int .i64 a0_5, .int .i64 a0_6, .slice A0_7 l0_7.length c0_7] 25 (0, 0)) (au4) hg (Kd.R_ne HO_7.out BK259.out (by decide))); have n2_ := Aside0.mk (hb); have n3_ := Aside0.mk (ho); clear HO_5; clear BK259; clear HB; clear HO_7; have HO_5 := n0_; have BK259 := n1_; have HB := n2_; have HO270 := n3_; clear n0_ n1_ n2_ n3_; clear ho hb hg hat))
           go_roundg k1
           case measure => have := HK1.out; omega
           case rel => exact ⟨(y268), (wrap64 (x8_1 + 1)), (au21), H', ⟨by have := HK1.out; omega⟩, ⟨by (with_reducible repeat (first | apply Kd.R_alloc | apply Kd.R_drewN | apply Kd.R_drew)); first | exact Kd.R_mono HO_5.out (fun _ hk => hk.2) | exact Kd.R_mono (Kd.R_mono HO_5.out (fun _ hk => hk.2)) (fun _ h_ => h_.2)⟩, ⟨by (with_reducible repeat (first | apply Kd.R_alloc | apply Kd.R_drewN | apply Kd.R_drew)); first | exact HO270.out | exact Kd.R_mono (HO270.out) (fun _ h_ => h_.2)⟩, ⟨au4⟩, ⟨au2⟩⟩
          ·
           rw [if_neg c30] at H
           exact absurd H (by simp)
         ·
          rw [if_neg c29] at H
          exact absurd H (by simp)
        ·
         rw [if_neg c28] at H
         have c28b0 : decide (x8_1 < (l0_0.length : Int)) = false := decide_eq_false c28
         clear c28
         replace H := Option.bind_eq_some_iff.mp H
         obtain ⟨t271, A330, H⟩ := H
         replace H : (if t271 = true then (if (x7_1.length : Int) > 0 then (if 1 ≤ (x7_1.length : Int) then ((method_Fits.f k1 l0_0 l0_1 a0_2 a0_3 a0_4 a0_5 a0_6 l0_7 (x7_1.drop 1)).bind fun t276 => (if t276 = true then (none) else ((method_Fits.f k1 l0_0 l0_1 a0_2 a0_3 a0_4 a0_5 a0_6 l0_7 l1).bind fun t277 => (if t277 = true then (capstanlaw07_MethodZeros.l1 k1 t262 l1 ([] : List Int) 0 l0_0 l0_1 a0_2 a0_3 a0_4 a0_5 a0_6 l0_7) else (capstanlaw07_MethodZeros.l3 k1 t262 x7_1 ([] : List Int) 0 l0_0 l0_1 a0_2 a0_3 a0_4 a0_5 a0_6 l0_7))))) else (none)) else ((method_Fits.f k1 l0_0 l0_1 a0_2 a0_3 a0_4 a0_5 a0_6 l0_7 l1).bind fun t306 => (if t306 = true then (capstanlaw07_MethodZeros.l5 k1 t262 l1 ([] : List Int) 0 l0_0 l0_1 a0_2 a0_3 a0_4 a0_5 a0_6 l0_7) else (capstanlaw07_MethodZeros.l7 k1 t262 x7_1 ([] : List Int) 0 l0_0 l0_1 a0_2 a0_3 a0_4 a0_5 a0_6 l0_7)))) else (none)) = some r := H
         have A33 := Aside0.mk A330
         clear A330
         by_cases c34 : t271 = true
         ·
          subst c34
          have H1 : (if (x7_1.length : Int) > 0 then (if 1 ≤ (x7_1.length : Int) then ((method_Fits.f k1 l0_0 l0_1 a0_2 a0_3 a0_4 a0_5 a0_6 l0_7 (x7_1.drop 1)).bind fun t276 => (if t276 = true then (none) else ((method_Fits.f k1 l0_0 l0_1 a0_2 a0_3 a0_4 a0_5 a0_6 l0_7 l1).bind fun t277 => (if t277 = true then (capstanlaw07_MethodZeros.l1 k1 t262 l1 ([] : List Int) 0 l0_0 l0_1 a0_2 a0_3 a0_4 a0_5 a0_6 l0_7) else (capstanlaw07_MethodZeros.l3 k1 t262 x7_1 ([] : List Int) 0 l0_0 l0_1 a0_2 a0_3 a0_4 a0_5 a0_6 l0_7))))) else (none)) else ((method_Fits.f k1 l0_0 l0_1 a0_2 a0_3 a0_4 a0_5 a0_6 l0_7 l1).bind fun t306 => (if t306 = true then (capstanlaw07_MethodZeros.l5 k1 t262 l1 ([] : List Int) 0 l0_0 l0_1 a0_2 a0_3 a0_4 a0_5 a0_6 l0_7) else (capstanlaw07_MethodZeros.l7 k1 t262 x7_1 ([] : List Int) 0 l0_0 l0_1 a0_2 a0_3 a0_4 a0_5 a0_6 l0_7)))) = some r := by rw [if_pos rfl] at H; exact H
          clear H
          have H := H1
          clear H1
          by_cases c35 : (x7_1.length : Int) > 0
          ·
           rw [if_pos c35] at H
           have c35b0 : decide (0 < (x7_1.length : Int)) = true := decide_eq_true c35
           have c35b1 : decide (0 < x7_1.length) = true := decide_eq_true (by omega)
           clear c35
           by_cases c36 : 1 ≤ (x7_1.length : Int)
           ·
            rw [if_pos c36] at H
            have c36b0 := eq_true c36
            have c36b1 : decide (1 ≤ (x7_1.length : Int)) = true := decide_eq_true c36
            clear c36
            obtain ⟨y272, hy272⟩ : ∃ y_ : List (S47), y_ = (x7_1.drop 1) := ⟨_, rfl⟩
            replace H : ((method_Fits.f k1 l0_0 l0_1 a0_2 a0_3 a0_4 a0_5 a0_6 l0_7 y272).bind fun t276 => (if t276 = true then (none) else ((method_Fits.f k1 l0_0 l0_1 a0_2 a0_3 a0_4 a0_5 a0_6 l0_7 l1).bind fun t277 => (if t277 = true then (capstanlaw07_MethodZeros.l1 k1 t262 l1 ([] : List Int) 0 l0_0 l0_1 a0_2 a0_3 a0_4 a0_5 a0_6 l0_7) else (capstanlaw07_MethodZeros.l3 k1 t262 x7_1 ([] : List Int) 0 l0_0 l0_1 a0_2 a0_3 a0_4 a0_5 a0_6 l0_7))))) = some r := by first | (rw [hy272]; with_reducible exact H) | (have H2_ := (Option.bind_some _ _).symm.trans H; rw [hy272]; with_reducible exact H2_) | (have H2_ := (Option.bind_some _ _).symm.trans H; with_reducible exact H2_) | with_reducible exact H | (rw [hy272]; exact H) | exact H
            have Ny272 := Aside0.mk hy272
            clear hy272
            replace H := Option.bind_eq_some_iff.mp H
            obtain ⟨t276, A370, H⟩ := H
            replace H : (if t276 = true then (none) else ((method_Fits.f k1 l0_0 l0_1 a0_2 a0_3 a0_4 a0_5 a0_6 l0_7 l1).bind fun t277 => (if t277 = true then (capstanlaw07_MethodZeros.l1 k1 t262 l1 ([] : List Int) 0 l0_0 l0_1 a0_2 a0_3 a0_4 a0_5 a0_6 l0_7) else (capstanlaw07_MethodZeros.l3 k1 t262 x7_1 ([] : List Int) 0 l0_0 l0_1 a0_2 a0_3 a0_4 a0_5 a0_6 l0_7)))) = some r := H
            have A37 := Aside0.mk A370
            clear A370
            by_cases c38 : t276 = true
            ·
             subst c38
             have H1 : (none) = some r := by rw [if_pos rfl] at H; exact H
             clear H
             have H := H1
             clear H1
             exact absurd H (by simp)
            ·
             replace c38 := Bool.eq_false_iff.mpr c38
             subst c38
             have H1 : ((method_Fits.f k1 l0_0 l0_1 a0_2 a0_3 a0_4 a0_5 a0_6 l0_7 l1).bind fun t277 => (if t277 = true then (capstanlaw07_MethodZeros.l1 k1 t262 l1 ([] : List Int) 0 l0_0 l0_1 a0_2 a0_3 a0_4 a0_5 a0_6 l0_7) else (capstanlaw07_MethodZeros.l3 k1 t262 x7_1 ([] : List Int) 0 l0_0 l0_1 a0_2 a0_3 a0_4 a0_5 a0_6 l0_7))) = some r := by rw [if_neg (show ¬ (false = true) by decide)] at H; exact H
             clear H
             have H := H1
             clear H1
             replace H := Option.bind_eq_some_iff.mp H
             obtain ⟨t277, A390, H⟩ := H
             replace H : (if t277 = true then (capstanlaw07_MethodZeros.l1 k1 t262 l1 ([] : List Int) 0 l0_0 l0_1 a0_2 a0_3 a0_4 a0_5 a0_6 l0_7) else (capstanlaw07_MethodZeros.l3 k1 t262 x7_1 ([] : List Int) 0 l0_0 l0_1 a0_2 a0_3 a0_4 a0_5 a0_6 l0_7)) = some r := H
             have A39 := Aside0.mk A390
             clear A390
             by_cases c40 : t277 = true
             ·
              subst c40
              have H1 : (capstanlaw07_MethodZeros.l1 k1 t262 l1 ([] : List Int) 0 l0_0 l0_1 a0_2 a0_3 a0_4 a0_5 a0_6 l0_7) = some r := by rw [if_pos rfl] at H; exact H
              clear H
              have H := H1
              clear H1
              have H' := Aside0.mk H
              clear H
              obtain ⟨hcz41_0, hcz41_1, hcz41_2, hcz41_3, hcz41_4, hcz41_5, hcz41_6, hcz41_7, hfz41_0, hfz41_1, hfz41_2, hfz41_3, hfz41_4, hfz41_5, hfz41_6, hfz41_7⟩ := blk_all8 BK259.out
              try go_wp2
              (try (rw [drewN_self wr]; generalize hq_ : World.drewN wr _ = wr; have n0_ : Aside0 (Kd.R k47 47 wr w.heap.size (fun k_ => some k_ ≠ (u7 : Value).ownBlock) v263 t262) := ⟨by rw [← hq_]; exact (au5)⟩; have n1_ : Aside0 (Kd.R k47 47 wr w.heap.size (fun k_ => some k_ ≠ (v263 : Value).ownBlock) u7 x7_1) := ⟨by rw [← hq_]; exact (au17)⟩; have n2_ : Aside0 (wr.heap[gb259]? = some (.cells #[.slice A0_0 l0_0.length c0_0, .slice A0_1 l0_1.length c0_1, .int .u8 a0_2, .bool a0_3, .int .i64 a0_4, .int .i64 a0_5, .int .i64 a0_6, .slice A0_7 l0_7.length c0_7] 25 (0, 0))) := ⟨by rw [← hq_]; exact (au4)⟩; have n3_ : Aside0 (Below w.heap.size w wr) := ⟨by rw [← hq_]; exact (au2)⟩; clear HO_5 HO_7 BK259 HB hq_; have HO_5 := n0_; have HO_7 := n1_; have BK259 := n2_; have HB := n3_; clear n0_ n1_ n2_ n3_))
              (try obtain ⟨hcu42_0, hcu42_1, hcu42_2, hcu42_3, hcu42_4, hcu42_5, hcu42_6, hcu42_7, hfu42_0, hfu42_1, hfu42_2, hfu42_3, hfu42_4, hfu42_5, hfu42_6, hfu42_7⟩ := blk_all8 BK259.out)
              have n0_ := Aside0.mk (Kd.R_drew HO_5.out)
              have n1_ := Aside0.mk (Kd.R_drew HO_7.out)
              have n2_ := Aside0.mk (blk_drew BK259.out)
              have n3_ := Aside0.mk (below_drew1 HB.out)
              clear HO_5
              clear HO_7
              clear BK259
              clear HB
              have HO_5 := n0_
              have HO_7 := n1_
              have BK259 := n2_
              have HB := n3_
              clear n0_ n1_ n2_ n3_
              obtain ⟨Ao44, co44, eo44⟩ := Kd.R_slice HO_7.out
              (first | subst eo44 | (injection eo44 with f1_ f2_ f3_; have f4_ := f1_.symm; have f5_ := f3_.symm; clear f1_ f2_ f3_; subst f4_; subst f5_))
              refine start_ (n := 15) (S := fun w' => w'.cell? ⟨gb259, 0, none⟩ = some (.slice A0_0 l0_0.length c0_0) ∧ w'.cell? ⟨gb259, 1, none⟩ = some (.slice A0_1 l0_1.length c0_1) ∧ w'.cell? ⟨gb259, 2, none⟩ = some (.int .u8 a0_2) ∧ w'.cell? ⟨gb259, 3, none⟩ = some (.bool a0_3) ∧ w'.cell? ⟨gb259, 4, none⟩ = some (.int .i64 a0_4) ∧ w'.cell? ⟨gb259, 5, none⟩ = some (.int .i64 a0_5) ∧ w'.cell? ⟨gb259, 6, none⟩ = some (.int .i64 a0_6) ∧ w'.cell? ⟨gb259, 7, none⟩ = some (.slice A0_7 l0_7.length c0_7)) (ds := []) #[false, false, false, false, false, false, false, false, false, false, false, false, false, false, false] (by kernel_rfl) rfl rfl ⟨(blk_cell BK259.out 0).trans rfl, (blk_cell BK259.out 1).trans rfl, (blk_cell BK259.out 2).trans rfl, (blk_cell BK259.out 3).trans rfl, (blk_cell BK259.out 4).trans rfl, (blk_cell BK259.out 5).trans rfl, (blk_cell BK259.out 6).trans rfl, (blk_cell BK259.out 7).trans rfl⟩ (fun hHeld => ?_); refine with_tabW capstanlaw07_MethodZeros.tab15 capstanlaw07_MethodZeros.bits15 (fun HT_ HW_ => ?_)
              generalize wr.drew = w43 at HO_5 HO_7 BK259 HB hHeld ⊢
              refine pure_ (i := 1) (N := some 63) (v := ?_) (a' := ?_) #[false, true, false, false, false, false, false, false, false, false, false, false, false, false, false] rfl rfl (any_of HT_.out (by kernel_rfl)) (fun _ _ _ h => h) (Or.inl ⟨by rfl, ?_⟩) ?_ ?_
              rotate_left
              ·
               intro w'
               go_simp
               with_reducible rfl
              rotate_left
              ·
               simp only [Act.put, List.setIfInBounds_toArray, List.set_cons_zero, List.set_cons_succ, i64_w, i32_w]
               rfl
              refine take_ (i := 0) (N := some 62) (v := ?_) (a' := ?_) #[true, true, false, false, false, false, false, false, false, false, false, false, false, false, false] rfl rfl (take_ofW HT_.out HW_.out (by kernel_rfl)) (fun _ _ _ h => h) (Or.inl ⟨by rfl, ?_⟩) hHeld ?_ ?_
              rotate_left
              ·
               rintro w' ⟨s0, s1, s2, s3, s4, s5, s6, s7⟩
               go_simp
               with_reducible rfl
              rotate_left
              ·
               simp only [Act.put, List.setIfInBounds_toArray, List.set_cons_zero, List.set_cons_succ, i64_w, i32_w]
               rfl
              refine one_ (i := 2) (N := some 64) #[true, true, true, false, false, false, false, false, false, false, false, false, false, false, false] rfl rfl (one_of HT_.out (by kernel_rfl)) (by decide) (fun K hK => ?_)
              refine goes_ Try.func18 (by kernel_rfl) rfl #[.agg #[.slice A0_0 l0_0.length c0_0, .slice A0_1 l0_1.length c0_1, .int .u8 a0_2, .bool a0_3, .int .i64 a0_4, .int .i64 a0_5, .int .i64 a0_6, .slice A0_7 l0_7.length c0_7], .slice Ao44 x7_1.length co44] (by rfl) rfl rfl (au3) ?_
              with_reducible refine (method_Fits.calls k1 _ _ l0_0 _ _ l0_1 a0_2 a0_3 a0_4 a0_5 a0_6 _ _ l0_7 _ _ x7_1 true _ ?side1 ?side2 ?side3 ?side4 ?side5 ?side6 ?side7 ?side8 A33.out).mono ?_
              (case side1 => exact au6)
              (case side2 => exact HC0_0.out)
              (case side3 => exact au11)
              (case side4 => exact HC0_1.out)
              (case side5 => exact au8)
              (case side6 => exact HC0_7.out)
              (case side7 => exact au66)
              (case side8 => exact (Kd.R_reads' HO_7.out).2.1)
              rintro e w45 ⟨rfl, hb⟩
              refine ⟨_, rfl, ?_⟩
              have n0_ := Aside0.mk (Kd.R_below (au5) hb)
              have n1_ := Aside0.mk (Kd.R_below (au17) hb)
              have n2_ := Aside0.mk (blk_below (g := gb259) (o := .cells #[.slice A0_0 l0_0.length c0_0, .slice A0_1 l0_1.length c0_1, .int .u8 a0_2, .bool a0_3, .int .i64 a0_4, .int .i64 a0_5, .int .i64 a0_6, .slice A0_7 l0_7.length c0_7] 25 (0, 0)) (au4) hb)
              have n3_ := Aside0.mk (below_step (au2) hb)
              clear HO_5
              clear HO_7
              clear BK259
              clear HB
              have HO_5 := n0_
              have HO_7 := n1_
              have BK259 := n2_
              have HB := n3_
              clear n0_ n1_ n2_ n3_
              (try clear hb)
              (try clear hb2)
              (try clear hk)
              (try clear hi)
              have q46 : (1 : Int) ≤ ((x7_1.length : Int) : Int) := of_decide_eq_true (au15)
              obtain ⟨i046, hi046, _, hsz46, _⟩ := info_parts info47
              have hroom46 : x7_1.length ≤ co44 := (Kd.R_reads' HO_7.out).2.1
              have hC46 : Kd.C k47 _ Ao44 x7_1.length x7_1 := (Kd.R_reads' HO_7.out).2.2
              have hcut46 := cut_from (P := Try.prog) 33 47 .i64 Try.underlying33 hi046 3 hsz46 Ao44 x7_1.length co44 1 (by omega) q46
              have hr46 := Kd.C_drop (m := (1 : Int).toNat) (c := co44) hC46 (by omega) hroom46
              obtain ⟨A46, hA46⟩ : ∃ A1, A1 = (if co44 = (1 : Int).toNat then Ao44 else (Ao44 : Option Addr).map (·.add ((1 : Int).toNat * 3))) := ⟨_, rfl⟩
              obtain ⟨c46, hc46⟩ : ∃ c1, c1 = co44 - (1 : Int).toNat := ⟨_, rfl⟩
              have hy46 : y272.length = x7_1.length - (1 : Int).toNat := (by rw [Ny272.out, List.length_drop] <;> omega)
              rw [show (x7_1).drop (1 : Int).toNat = y272 from Ny272.out.symm] at hr46
              replace hr46 : Kd.C k47 _ A46 y272.length y272 := (by rw [hA46]; exact hr46)
              rw [← hy46, ← hA46, ← hc46] at hcut46
              have HR275 := Aside0.mk hr46
              have HC275 := Aside0.mk (show y272.length ≤ c46 from by rw [hy46, hc46]; exact Nat.sub_le_sub_right hroom46 _)
              clear hr46 hC46 hroom46 hi046 hsz46 hc46
              have KY46 := Aside0.mk hy46
              have KA46 := Aside0.mk hA46
              clear hy46 hA46
              have KL46 := Aside0.mk (show 1 ≤ x7_1.length from by omega)
              replace q46 := eq_true q46
              refine hK.out _ _ ⟨(blk_cell BK259.out 0).trans rfl, (blk_cell BK259.out 1).trans rfl, (blk_cell BK259.out 2).trans rfl, (blk_cell BK259.out 3).trans rfl, (blk_cell BK259.out 4).trans rfl, (blk_cell BK259.out 5).trans rfl, (blk_cell BK259.out 6).trans rfl, (blk_cell BK259.out 7).trans rfl⟩ (fun hHeld => ?_)
              clear hK K
              refine norm_ (a' := ?_) ?_ ?_
              rotate_left
              ·
               show Act.put _ (some 64) _ = _
               simp only [Act.put, List.setIfInBounds_toArray, List.set_cons_zero, List.set_cons_succ, i64_w, i32_w]
               rfl
              refine pure_ (i := 3) (N := some 65) (v := ?_) (a' := ?_) #[true, true, true, true, false, false, false, false, false, false, false, false, false, false, false] rfl rfl (any_of HT_.out (by kernel_rfl)) (fun _ _ _ h => h) (Or.inl ⟨by rfl, ?_⟩) ?_ ?_
              rotate_left
              ·
               intro w'
               go_simp
               with_reducible rfl
              rotate_left
              ·
               simp only [Act.put, List.setIfInBounds_toArray, List.set_cons_zero, List.set_cons_succ, i64_w, i32_w]
               rfl
              refine pure_ (i := 4) (N := some 66) (v := ?_) (a' := ?_) #[true, true, true, true, true, false, false, false, false, false, false, false, false, false, false] rfl rfl (any_of HT_.out (by kernel_rfl)) (fun _ _ _ h => h) (Or.inl ⟨by rfl, ?_⟩) ?_ ?_
              rotate_left
              ·
               intro w'
               go_simp
               with_reducible rfl
              rotate_left
              ·
               simp only [Act.put, List.setIfInBounds_toArray, List.set_cons_zero, List.set_cons_succ, i64_w, i32_w]
               rfl
              refine pure_ (i := 5) (N := some 67) (v := ?_) (a' := ?_) #[true, true, true, true, true, true, false, false, false, false, false, false, false, false, false] rfl rfl (any_of HT_.out (by kernel_rfl)) (fun _ _ _ h => h) (Or.inl ⟨by rfl, ?_⟩) ?_ ?_
              rotate_left
              ·
               intro w'
               go_simp
               with_reducible rfl
              rotate_left
              ·
               simp only [Act.put, List.setIfInBounds_toArray, List.set_cons_zero, List.set_cons_succ, i64_w, i32_w]
               rfl
              refine pure_ (i := 6) (N := some 68) (v := ?_) (a' := ?_) #[true, true, true, true, true, true, true, false, false, false, false, false, false, false, false] rfl rfl (any_of HT_.out (by kernel_rfl)) (fun _ _ _ h => h) (Or.inl ⟨by rfl, ?_⟩) ?_ ?_
              rotate_left
              ·
               intro w'
               go_simp
               with_reducible rfl
              rotate_left
              ·
               simp only [Act.put, List.setIfInBounds_toArray, List.set_cons_zero, List.set_cons_succ, i64_w, i32_w]
               rfl
              refine pure_ (i := 7) (N := some 69) (v := ?_) (a' := ?_) #[true, true, true, true, true, true, true, true, false, false, false, false, false, false, false] rfl rfl (any_of HT_.out (by kernel_rfl)) (fun _ _ _ h => h) (Or.inl ⟨by rfl, ?_⟩) ?_ ?_
              rotate_left
              ·
               intro w'
               go_simp
               with_reducible rfl
              rotate_left
              ·
               simp only [Act.put, List.setIfInBounds_toArray, List.set_cons_zero, List.set_cons_succ, i64_w, i32_w]
               rfl
              refine pure_ (i := 8) (N := some 70) (v := ?_) (a' := ?_) #[true, true, true, true, true, true, true, true, true, false, false, false, false, false, false] rfl rfl (any_of HT_.out (by kernel_rfl)) (fun _ _ _ h => h) (Or.inl ⟨by rfl, ?_⟩) ?_ ?_
              rotate_left
              ·
               intro w'
               go_simp
               with_reducible rfl
              rotate_left
              ·
               simp only [Act.put, List.setIfInBounds_toArray, List.set_cons_zero, List.set_cons_succ, i64_w, i32_w]
               rfl
              refine pure_ (i := 10) (N := some 72) (v := ?_) (a' := ?_) #[true, true, true, true, true, true, true, true, true, false, true, false, false, false, false] rfl rfl (any_of HT_.out (by kernel_rfl)) (fun _ _ _ h => h) (Or.inl ⟨by rfl, ?_⟩) ?_ ?_
              rotate_left
              ·
               intro w'
               go_simp
               with_reducible rfl
              rotate_left
              ·
               simp only [Act.put, List.setIfInBounds_toArray, List.set_cons_zero, List.set_cons_succ, i64_w, i32_w]
               rfl
              refine pure_ (i := 11) (N := some 73) (v := ?_) (a' := ?_) #[true, true, true, true, true, true, true, true, true, false, true, true, false, false, false] rfl rfl (any_of HT_.out (by kernel_rfl)) (fun _ _ _ h => h) (Or.inl ⟨by rfl, ?_⟩) ?_ ?_
              rotate_left
              ·
               intro w'
               go_simp
               with_reducible rfl
              rotate_left
              ·
               simp only [Act.put, List.setIfInBounds_toArray, List.set_cons_zero, List.set_cons_succ, i64_w, i32_w]
               rfl
              refine take_ (i := 9) (N := some 71) (v := ?_) (a' := ?_) #[true, true, true, true, true, true, true, true, true, true, true, true, false, false, false] rfl rfl (take_ofW HT_.out HW_.out (by kernel_rfl)) (fun _ _ _ h => h) (Or.inl ⟨by rfl, ?_⟩) hHeld ?_ ?_
              rotate_left
              ·
               rintro w' ⟨s0, s1, s2, s3, s4, s5, s6, s7⟩
               go_simp
               with_reducible rfl
              rotate_left
              ·
               simp only [Act.put, List.setIfInBounds_toArray, List.set_cons_zero, List.set_cons_succ, i64_w, i32_w]
               rfl
              refine one_ (i := 12) (N := some 74) #[true, true, true, true, true, true, true, true, true, true, true, true, true, false, false] rfl rfl (one_of HT_.out (by kernel_rfl)) (by decide) (fun K hK => ?_)
              refine goes_ Try.func18 (by kernel_rfl) rfl #[.agg #[.slice A0_0 l0_0.length c0_0, .slice A0_1 l0_1.length c0_1, .int .u8 a0_2, .bool a0_3, .int .i64 a0_4, .int .i64 a0_5, .int .i64 a0_6, .slice A0_7 l0_7.length c0_7], .slice A46 y272.length c46] (by rfl) rfl rfl (au3) ?_
              with_reducible refine (method_Fits.calls k1 _ _ l0_0 _ _ l0_1 a0_2 a0_3 a0_4 a0_5 a0_6 _ _ l0_7 _ _ y272 false _ ?side1 ?side2 ?side3 ?side4 ?side5 ?side6 ?side7 ?side8 A37.out).mono ?_
              (case side1 => exact au6)
              (case side2 => exact HC0_0.out)
              (case side3 => exact au11)
              (case side4 => exact HC0_1.out)
              (case side5 => exact au8)
              (case side6 => exact HC0_7.out)
              (case side7 => repeat (first | exact (au49) | (with_reducible refine Kd.C_alloc ?_ _) | (with_reducible refine Kd.C_drewN ?_ _) | (with_reducible refine Kd.C_drew ?_)))
              (case side8 => exact HC275.out)
              rintro e w47 ⟨rfl, hb⟩
              refine ⟨_, rfl, ?_⟩
              have n0_ := Aside0.mk (Kd.R_below (au5) hb)
              have n1_ := Aside0.mk (Kd.R_below (au17) hb)
              have n2_ := Aside0.mk (blk_below (g := gb259) (o := .cells #[.slice A0_0 l0_0.length c0_0, .slice A0_1 l0_1.length c0_1, .int .u8 a0_2, .bool a0_3, .int .i64 a0_4, .int .i64 a0_5, .int .i64 a0_6, .slice A0_7 l0_7.length c0_7] 25 (0, 0)) (au4) hb)
              have n3_ := Aside0.mk (Kd.C_below (au49) hb)
              have n4_ := Aside0.mk (below_step (au2) hb)
              clear HO_5
              clear HO_7
              clear BK259
              clear HR275
              clear HB
              have HO_5 := n0_
              have HO_7 := n1_
              have BK259 := n2_
              have HR275 := n3_
              have HB := n4_
              clear n0_ n1_ n2_ n3_ n4_
              (try clear hb)
              (try clear hb2)
              (try clear hk)
              (try clear hi)
              refine hK.out _ _ ⟨(blk_cell BK259.out 0).trans rfl, (blk_cell BK259.out 1).trans rfl, (blk_cell BK259.out 2).trans rfl, (blk_cell BK259.out 3).trans rfl, (blk_cell BK259.out 4).trans rfl, (blk_cell BK259.out 5).trans rfl, (blk_cell BK259.out 6).trans rfl, (blk_cell BK259.out 7).trans rfl⟩ (fun hHeld => ?_)
              clear hK K
              refine norm_ (a' := ?_) ?_ ?_
              rotate_left
              ·
               show Act.put _ (some 74) _ = _
               simp only [Act.put, List.setIfInBounds_toArray, List.set_cons_zero, List.set_cons_succ, i64_w, i32_w]
               rfl
              refine pure_ (i := 13) (N := some 75) (v := ?_) (a' := ?_) #[true, true, true, true, true, true, true, true, true, true, true, true, true, true, false] rfl rfl (any_of HT_.out (by kernel_rfl)) (fun _ _ _ h => h) (Or.inl ⟨by rfl, ?_⟩) ?_ ?_
              rotate_left
              ·
               intro w'
               go_simp
               with_reducible rfl
              rotate_left
              ·
               simp only [Act.put, List.setIfInBounds_toArray, List.set_cons_zero, List.set_cons_succ, i64_w, i32_w]
               rfl
              refine pure_ (i := 14) (N := some 76) (v := ?_) (a' := ?_) #[true, true, true, true, true, true, true, true, true, true, true, true, true, true, true] rfl rfl (any_of HT_.out (by kernel_rfl)) (fun _ _ _ h => h) (Or.inl ⟨by rfl, ?_⟩) ?_ ?_
              rotate_left
              ·
               intro w'
               go_simp
               with_reducible rfl
              rotate_left
              ·
               simp only [Act.put, List.setIfInBounds_toArray, List.set_cons_zero, List.set_cons_succ, i64_w, i32_w]
               rfl
              refine done_ (done_of HT_.out (by kernel_rfl)) ?_
              obtain ⟨hcz48_0, hcz48_1, hcz48_2, hcz48_3, hcz48_4, hcz48_5, hcz48_6, hcz48_7, hfz48_0, hfz48_1, hfz48_2, hfz48_3, hfz48_4, hfz48_5, hfz48_6, hfz48_7⟩ := blk_all8 BK259.out
              try go_wp2_with (first | ((with_reducible refine gate_callee (f := 18) rfl ?_); refine goesL_ (some 79) rfl rfl Try.func18 (by kernel_rfl) rfl #[.agg #[.slice A0_0 l0_0.length c0_0, .slice A0_1 l0_1.length c0_1, .int .u8 a0_2, .bool a0_3, .int .i64 a0_4, .int .i64 a0_5, .int .i64 a0_6, .slice A0_7 l0_7.length c0_7], .slice A1 l1.length c1] rfl (au3) ?_; (with_reducible refine (method_Fits.calls k1 _ _ l0_0 _ _ l0_1 a0_2 a0_3 a0_4 a0_5 a0_6 _ _ l0_7 _ _ l1 true _ ?side1 ?side2 ?side3 ?side4 ?side5 ?side6 ?side7 ?side8 A39.out).mono ?_); (case side1 => exact au6); (case side2 => exact HC0_0.out); (case side3 => exact au11); (case side4 => exact HC0_1.out); (case side5 => exact au8); (case side6 => exact HC0_7.out); (case side7 => exact au58); (case side8 => exact HC1.out); rintro e w49 ⟨rfl, hb⟩; refine ⟨_, rfl, ?_⟩; have n0_ := Aside0.mk (Kd.R_below (au5) hb); have n1_ := Aside0.mk (Kd.R_below (au17) hb); have n2_ := Aside0.mk (blk_below (g := gb259) (o := .cells #[.slice A0_0 l0_0.length c0_0, .slice A0_1 l0_1.length c0_1, .int .u8 a0_2, .bool a0_3, .int .i64 a0_4, .int .i64 a0_5, .int .i64 a0_6, .slice A0_7 l0_7.length c0_7] 25 (0, 0)) (au4) hb); have n3_ := Aside0.mk (Kd.C_below (au49) hb); have n4_ := Aside0.mk (below_step (au2) hb); clear HO_5; clear HO_7; clear BK259; clear HR275; clear HB; have HO_5 := n0_; have HO_7 := n1_; have BK259 := n2_; have HR275 := n3_; have HB := n4_; clear n0_ n1_ n2_ n3_ n4_; (try clear hb); (try clear hb2); (try clear hk); (try clear hi)))
              go_loopg [9, 10] k1 (fun kq v9 v10 w' => ∃ (x9_2 : List Int) (x10_2 : Int), v10 = .int .i64 x10_2 ∧ Aside0 (capstanlaw07_MethodZeros.l1 kq t262 l1 x9_2 x10_2 l0_0 l0_1 a0_2 a0_3 a0_4 a0_5 a0_6 l0_7 = some r) ∧ Aside0 (kq ≤ k1) ∧ Aside0 (Kd.R k47 47 w' w.heap.size (fun _ => True) v263 t262) ∧ Aside0 (Kd.R (Kd.int .u8) 5 w' w.heap.size (fun _ => True) v9 x9_2) ∧ Aside0 (w'.heap[gb259]? = some (.cells #[(.slice A0_0 l0_0.length c0_0), (.slice A0_1 l0_1.length c0_1), .int .u8 a0_2, .bool a0_3, .int .i64 a0_4, .int .i64 a0_5, .int .i64 a0_6, (.slice A0_7 l0_7.length c0_7)] 25 (0, 0))) ∧ Aside0 (Below w.heap.size w w'))
              case atStart => exact ⟨(([] : List Int)), (0), (au21), H', ⟨Nat.le_refl _⟩, ⟨au59⟩, ⟨au41⟩, ⟨au4⟩, ⟨au2⟩⟩
              case round =>
               clear H'
               try clear c1
               try clear c2
               try clear p2
               try clear q2
               try clear hx2
               try clear c3
               try clear c4
               try clear q4
               try clear c6
               try clear p6
               try clear c7
               try clear c11
               try clear c11b0
               try clear c11b1
               try clear c14
               try clear c18
               try clear c18b0
               try clear c18b1
               try clear c18b2
               try clear c19
               try clear c23
               try clear p26
               try clear q26
               try clear hx26
               try clear c28
               try clear c28b0
               try clear c29
               try clear c29b0
               try clear c30
               try clear c34
               try clear c35
               try clear c35b0
               try clear c35b1
               try clear c36
               try clear c36b0
               try clear c36b1
               try clear c38
               try clear c40
               try clear c46
               try clear q46
               try clear hcz14_0
               try clear hcz14_1
               try clear hcz14_2
               try clear hcz14_3
               try clear hcz14_4
               try clear hcz14_5
               try clear hcz14_6
               try clear hcz14_7
               try clear hcz22_0
               try clear hcz22_1
               try clear hcz22_2
               try clear hcz22_3
               try clear hcz22_4
               try clear hcz22_5
               try clear hcz22_6
               try clear hcz22_7
               try clear hcz24_0
               try clear hcz24_1
               try clear hcz24_2
               try clear hcz24_3
               try clear hcz24_4
               try clear hcz24_5
               try clear hcz24_6
               try clear hcz24_7
               try clear hcz26_0
               try clear hcz26_1
               try clear hcz26_2
               try clear hcz26_3
               try clear hcz26_4
               try clear hcz26_5
               try clear hcz26_6
               try clear hcz26_7
               try clear hcz31_0
               try clear hcz31_1
               try clear hcz31_2
               try clear hcz31_3
               try clear hcz31_4
               try clear hcz31_5
               try clear hcz31_6
               try clear hcz31_7
               try clear hcz41_0
               try clear hcz41_1
               try clear hcz41_2
               try clear hcz41_3
               try clear hcz41_4
               try clear hcz41_5
               try clear hcz41_6
               try clear hcz41_7
               try clear hcz48_0
               try clear hcz48_1
               try clear hcz48_2
               try clear hcz48_3
               try clear hcz48_4
               try clear hcz48_5
               try clear hcz48_6
               try clear hcz48_7
               try clear hcz9_0
               try clear hcz9_1
               try clear hcz9_2
               try clear hcz9_3
               try clear hcz9_4
               try clear hcz9_5
               try clear hcz9_6
               try clear hcz9_7
               try clear hfz14_0
               try clear hfz14_1
               try clear hfz14_2
               try clear hfz14_3
               try clear hfz14_4
               try clear hfz14_5
               try clear hfz14_6
               try clear hfz14_7
               try clear hfz22_0
               try clear hfz22_1
               try clear hfz22_2
               try clear hfz22_3
               try clear hfz22_4
               try clear hfz22_5
               try clear hfz22_6
               try clear hfz22_7
               try clear hfz24_0
               try clear hfz24_1
               try clear hfz24_2
               try clear hfz24_3
               try clear hfz24_4
               try clear hfz24_5
               try clear hfz24_6
               try clear hfz24_7
               try clear hfz26_0
               try clear hfz26_1
               try clear hfz26_2
               try clear hfz26_3
               try clear hfz26_4
               try clear hfz26_5
               try clear hfz26_6
               try clear hfz26_7
               try clear hfz31_0
               try clear hfz31_1
               try clear hfz31_2
               try clear hfz31_3
               try clear hfz31_4
               try clear hfz31_5
               try clear hfz31_6
               try clear hfz31_7
               try clear hfz41_0
               try clear hfz41_1
               try clear hfz41_2
               try clear hfz41_3
               try clear hfz41_4
               try clear hfz41_5
               try clear hfz41_6
               try clear hfz41_7
               try clear hfz48_0
               try clear hfz48_1
               try clear hfz48_2
               try clear hfz48_3
               try clear hfz48_4
               try clear hfz48_5
               try clear hfz48_6
               try clear hfz48_7
               try clear hfz9_0
               try clear hfz9_1
               try clear hfz9_2
               try clear hfz9_3
               try clear hfz9_4
               try clear hfz9_5
               try clear hfz9_6
               try clear hfz9_7
               try clear hx267_0
               try clear p2
               try clear p267
               try clear q267
               try clear q46
               obtain ⟨x9_2, x10_2, rfl, HA, HK2, HO_5, HO_9, BK259, HB⟩ := hrel
               cases gk with
               | zero => exact absurd HA.out (by simp [capstanlaw07_MethodZeros.l1])
               | succ k2 =>
                have H := HA.out
                clear HA
                simp only [capstanlaw07_MethodZeros.l1] at H
                by_cases c50 : x10_2 < (l1.length : Int)
                ·
                 rw [if_pos c50] at H
                 have c50b0 : decide (x10_2 < (l1.length : Int)) = true := decide_eq_true c50
                 clear c50
                 by_cases c51 : 0 ≤ x10_2
                 ·
                  rw [if_pos c51] at H
                  have c51b0 : decide (0 ≤ x10_2) = true := decide_eq_true c51
                  clear c51
                  by_cases c52 : x9_2.length < 140737488355328
                  ·
                   rw [if_pos c52] at H
                   have LMc52 := Aside0.mk c52
                   clear c52
                   obtain ⟨y279, hy279⟩ : ∃ y_ : List Int, y_ = (x9_2 ++ [(rd_T47 l1 x10_2).f0]) := ⟨_, rfl⟩
                   replace H : (capstanlaw07_MethodZeros.l1 k2 t262 l1 y279 (wrap64 (x10_2 + 1)) l0_0 l0_1 a0_2 a0_3 a0_4 a0_5 a0_6 l0_7) = some r := by first | (rw [hy279]; with_reducible exact H) | (have H2_ := (Option.bind_some _ _).symm.trans H; rw [hy279]; with_reducible exact H2_) | (have H2_ := (Option.bind_some _ _).symm.trans H; with_reducible exact H2_) | with_reducible exact H | (rw [hy279]; exact H) | exact H
                   have Ny279 := Aside0.mk hy279
                   clear hy279
                   have H' := Aside0.mk H
                   clear H
                   have p278 : 0 ≤ (x10_2 : Int) := of_decide_eq_true (au15)
                   have q278 : x10_2 < (l1.length : Int) := of_decide_eq_true (au15)
                   obtain ⟨ad278, e278, hx278_0, hx278_1, hx278_2⟩ := at_T47 HR1.out x10_2 p278 q278
                   cases e278
                   replace hx278_0 := (HB.out.cell (World.block_lt_of_cell? w _ hx278_0)).trans hx278_0
                   replace hx278_1 := (HB.out.cell (World.block_lt_of_cell? w _ hx278_1)).trans hx278_1
                   replace hx278_2 := (HB.out.cell (World.block_lt_of_cell? w _ hx278_2)).trans hx278_2
                   replace p278 := eq_true p278
                   replace q278 := eq_true q278
                   go_wp2_with (first | ((with_reducible refine gate_builtin (b := .append) (xs := #[.tmp 87, .tmp 93]) rfl ?_); (try (refine gate_guard (by rfl) ?_; dsimp only)); at_builtin; refine Kd.R_append (Kd.int .u8) (w0 := w) w.heap.size rfl (.tmp 87) (.tmp 93) 22 5 (.int .u8 0) 1 rfl Try.underlying22 info5 rfl (by decide) (by omega) u9 x9_2 ((rd_T47 l1 x10_2).f0) [.int .u8 ((rd_T47 l1 x10_2).f0)] (fun _ => True) (fun _ => False) rfl rfl ?aP (fun _ hk => hk.elim) ?aF ?aO ?aB ?aS ?aL ?_; (case aP => exact rfl); (case aB => exact (au2)); (case aF => exact (fun _ _ => trivial)); (case aO => exact (au12)); (case aS => exact (below_size (au2))); (case aL => have := LMc52.out; omega); intro v280 w53 ho hb hg hat; rw [← Ny279.out] at ho; have n0_ := Aside0.mk (Kd.R_over' (au5) (Kd.R_typed (au12)) (by decide) hg); have n1_ := Aside0.mk (blk_grown (g := gb259) (o := .cells #[.slice A0_0 l0_0.length c0_0, .slice A0_1 l0_1.length c0_1, .int .u8 a0_2, .bool a0_3, .int .i64 a0_4, .int .i64 a0_5, .int .i64 a0_6, .slice A0_7 l0_7.length c0_7] 25 (0, 0)) (au4) hg (Kd.R_ne HO_9.out BK259.out (by decide))); have n2_ := Aside0.mk (hb); have n3_ := Aside0.mk (ho); clear HO_5; clear BK259; clear HB; clear HO_9; have HO_5 := n0_; have BK259 := n1_; have HB := n2_; have HO281 := n3_; clear n0_ n1_ n2_ n3_; clear ho hb hg hat))
                   go_roundg k2
                   case measure => have := HK1.out; have := HK2.out; omega
                   case rel => exact ⟨(y279), (wrap64 (x10_2 + 1)), (au21), H', ⟨by have := HK1.out; have := HK2.out; omega⟩, ⟨au5⟩, ⟨by (with_reducible repeat (first | apply Kd.R_alloc | apply Kd.R_drewN | apply Kd.R_drew)); first | exact HO281.out | exact Kd.R_mono (HO281.out) (fun _ h_ => h_.2)⟩, ⟨au4⟩, ⟨au2⟩⟩
                  ·
                   rw [if_neg c52] at H
                   exact absurd H (by simp)
                 ·
                  rw [if_neg c51] at H
                  exact absurd H (by simp)
                ·
                 rw [if_neg c50] at H
                 have c50b0 : decide (x10_2 < (l1.length : Int)) = false := decide_eq_false c50
                 clear c50
                 have H' := Aside0.mk H
                 clear H
                 go_wp2
                 go_loopg [9, 11] k2 (fun kq v9 v11 w' => ∃ (x9_3 : List Int) (x11_3 : Int), v11 = .int .i64 x11_3 ∧ Aside0 (capstanlaw07_MethodZeros.l2 kq t262 x9_3 x11_3 l0_0 l0_1 a0_2 a0_3 a0_4 a0_5 a0_6 l0_7 = some r) ∧ Aside0 (kq ≤ k2) ∧ Aside0 (Kd.R k47 47 w' w.heap.size (fun _ => True) v263 t262) ∧ Aside0 (Kd.R (Kd.int .u8) 5 w' w.heap.size (fun _ => True) v9 x9_3) ∧ Aside0 (w'.heap[gb259]? = some (.cells #[(.slice A0_0 l0_0.length c0_0), (.slice A0_1 l0_1.length c0_1), .int .u8 a0_2, .bool a0_3, .int .i64 a0_4, .int .i64 a0_5, .int .i64 a0_6, (.slice A0_7 l0_7.length c0_7)] 25 (0, 0))) ∧ Aside0 (Below w.heap.size w w'))
                 case atStart => exact ⟨(x9_2), (0), (au21), H', ⟨Nat.le_refl _⟩, ⟨au5⟩, ⟨au12⟩, ⟨au4⟩, ⟨au2⟩⟩
                 case round =>
                  clear H'
                  try clear c1
                  try clear c2
                  try clear p2
                  try clear q2
                  try clear hx2
                  try clear c3
                  try clear c4
                  try clear q4
                  try clear c5
                  try clear c6
                  try clear p6
                  try clear c7
                  try clear c11
                  try clear c11b0
                  try clear c11b1
                  try clear c14
                  try clear c18
                  try clear c18b0
                  try clear c18b1
                  try clear c18b2
                  try clear c19
                  try clear c23
                  try clear p26
                  try clear q26
                  try clear hx26
                  try clear p27
                  try clear q27
                  try clear hx27
                  try clear c28
                  try clear c28b0
                  try clear c29
                  try clear c29b0
                  try clear c30
                  try clear c34
                  try clear c35
                  try clear c35b0
                  try clear c35b1
                  try clear c36
                  try clear c36b0
                  try clear c36b1
                  try clear c38
                  try clear c40
                  try clear c46
                  try clear q46
                  try clear c50
                  try clear c50b0
                  try clear c51
                  try clear c51b0
                  try clear c52
                  try clear hcz14_0
                  try clear hcz14_1
                  try clear hcz14_2
                  try clear hcz14_3
                  try clear hcz14_4
                  try clear hcz14_5
                  try clear hcz14_6
                  try clear hcz14_7
                  try clear hcz22_0
                  try clear hcz22_1
                  try clear hcz22_2
                  try clear hcz22_3
                  try clear hcz22_4
                  try clear hcz22_5
                  try clear hcz22_6
                  try clear hcz22_7
                  try clear hcz24_0
                  try clear hcz24_1
                  try clear hcz24_2
                  try clear hcz24_3
                  try clear hcz24_4
                  try clear hcz24_5
                  try clear hcz24_6
                  try clear hcz24_7
                  try clear hcz26_0
                  try clear hcz26_1
                  try clear hcz26_2
                  try clear hcz26_3
                  try clear hcz26_4
                  try clear hcz26_5
                  try clear hcz26_6
                  try clear hcz26_7
                  try clear hcz31_0
                  try clear hcz31_1
                  try clear hcz31_2
                  try clear hcz31_3
                  try clear hcz31_4
                  try clear hcz31_5
                  try clear hcz31_6
                  try clear hcz31_7
                  try clear hcz41_0
                  try clear hcz41_1
                  try clear hcz41_2
                  try clear hcz41_3
                  try clear hcz41_4
                  try clear hcz41_5
                  try clear hcz41_6
                  try clear hcz41_7
                  try clear hcz48_0
                  try clear hcz48_1
                  try clear hcz48_2
                  try clear hcz48_3
                  try clear hcz48_4
                  try clear hcz48_5
                  try clear hcz48_6
                  try clear hcz48_7
                  try clear hcz9_0
                  try clear hcz9_1
                  try clear hcz9_2
                  try clear hcz9_3
                  try clear hcz9_4
                  try clear hcz9_5
                  try clear hcz9_6
                  try clear hcz9_7
                  try clear hfz14_0
                  try clear hfz14_1
                  try clear hfz14_2
                  try clear hfz14_3
                  try clear hfz14_4
                  try clear hfz14_5
                  try clear hfz14_6
                  try clear hfz14_7
                  try clear hfz22_0
                  try clear hfz22_1
                  try clear hfz22_2
                  try clear hfz22_3
                  try clear hfz22_4
                  try clear hfz22_5
                  try clear hfz22_6
                  try clear hfz22_7
                  try clear hfz24_0
                  try clear hfz24_1
                  try clear hfz24_2
                  try clear hfz24_3
                  try clear hfz24_4
                  try clear hfz24_5
                  try clear hfz24_6
                  try clear hfz24_7
                  try clear hfz26_0
                  try clear hfz26_1
                  try clear hfz26_2
                  try clear hfz26_3
                  try clear hfz26_4
                  try clear hfz26_5
                  try clear hfz26_6
                  try clear hfz26_7
                  try clear hfz31_0
                  try clear hfz31_1
                  try clear hfz31_2
                  try clear hfz31_3
                  try clear hfz31_4
                  try clear hfz31_5
                  try clear hfz31_6
                  try clear hfz31_7
                  try clear hfz41_0
                  try clear hfz41_1
                  try clear hfz41_2
                  try clear hfz41_3
                  try clear hfz41_4
                  try clear hfz41_5
                  try clear hfz41_6
                  try clear hfz41_7
                  try clear hfz48_0
                  try clear hfz48_1
                  try clear hfz48_2
                  try clear hfz48_3
                  try clear hfz48_4
                  try clear hfz48_5
                  try clear hfz48_6
                  try clear hfz48_7
                  try clear hfz9_0
                  try clear hfz9_1
                  try clear hfz9_2
                  try clear hfz9_3
                  try clear hfz9_4
                  try clear hfz9_5
                  try clear hfz9_6
                  try clear hfz9_7
                  try clear hx267_0
                  try clear hx278_0
                  try clear hx278_1
                  try clear hx278_2
                  try clear p2
                  try clear p26
                  try clear p267
                  try clear p278
                  try clear p6
                  try clear q2
                  try clear q26
                  try clear q267
                  try clear q278
                  try clear q4
                  try clear q46
                  obtain ⟨x9_3, x11_3, rfl, HA, HK3, HO_5, HO_9, BK259, HB⟩ := hrel
                  cases gk with
                  | zero => exact absurd HA.out (by simp [capstanlaw07_MethodZeros.l2])
                  | succ k3 =>
                   have H := HA.out
                   clear HA
                   simp only [capstanlaw07_MethodZeros.l2] at H
                   by_cases c54 : x11_3 < (t262.length : Int)
                   ·
                    rw [if_pos c54] at H
                    have c54b0 : decide (x11_3 < (t262.length : Int)) = true := decide_eq_true c54
                    clear c54
                    by_cases c55 : 0 ≤ x11_3
                    ·
                     rw [if_pos c55] at H
                     have c55b0 : decide (0 ≤ x11_3) = true := decide_eq_true c55
                     clear c55
                     by_cases c56 : x9_3.length < 140737488355328
                     ·
                      rw [if_pos c56] at H
                      have LMc56 := Aside0.mk c56
                      clear c56
                      obtain ⟨y283, hy283⟩ : ∃ y_ : List Int, y_ = (x9_3 ++ [(rd_T47 t262 x11_3).f0]) := ⟨_, rfl⟩
                      replace H : (if ((rd_T47 t262 x11_3).f1) = 0 then (if ((rd_T47 t262 x11_3).f2) = 0 then (capstanlaw07_MethodZeros.l2 k3 t262 y283 (wrap64 (x11_3 + 1)) l0_0 l0_1 a0_2 a0_3 a0_4 a0_5 a0_6 l0_7) else (none)) else (none)) = some r := by first | (rw [hy283]; with_reducible exact H) | (have H2_ := (Option.bind_some _ _).symm.trans H; rw [hy283]; with_reducible exact H2_) | (have H2_ := (Option.bind_some _ _).symm.trans H; with_reducible exact H2_) | with_reducible exact H | (rw [hy283]; exact H) | exact H
                      have Ny283 := Aside0.mk hy283
                      clear hy283
                      by_cases c57 : ((rd_T47 t262 x11_3).f1) = 0
                      ·
                       rw [if_pos c57] at H
                       have c57b0 : (((rd_T47 t262 x11_3).f1) == 0) = true := beq_iff_eq.mpr c57
                       have c57b1 : (((rd_T47 t262 x11_3).f1) != 0) = false := bne_eq_false_iff_eq.mpr c57
                       clear c57
                       by_cases c58 : ((rd_T47 t262 x11_3).f2) = 0
                       ·
                        rw [if_pos c58] at H
                        have c58b0 : (((rd_T47 t262 x11_3).f2) == 0) = true := beq_iff_eq.mpr c58
                        have c58b1 : (((rd_T47 t262 x11_3).f2) != 0) = false := bne_eq_false_iff_eq.mpr c58
                        clear c58
                        have H' := Aside0.mk H
                        clear H
                        obtain ⟨Ao59, co59, eo59⟩ := Kd.R_slice HO_5.out
                        subst eo59
                        have p282 : 0 ≤ (x11_3 : Int) := of_decide_eq_true (au15)
                        have q282 : x11_3 < (t262.length : Int) := of_decide_eq_true (au15)
                        obtain ⟨ad282, e282, hx282_0, hx282_1, hx282_2⟩ := at_T47 (Kd.R_reads' HO_5.out).2.2 x11_3 p282 q282
                        cases e282
                        replace p282 := eq_true p282
                        replace q282 := eq_true q282
                        go_wp2_with (first | ((with_reducible refine gate_builtin (b := .append) (xs := #[.tmp 101, .tmp 107]) rfl ?_); (try (refine gate_guard (by rfl) ?_; dsimp only)); at_builtin; refine Kd.R_append (Kd.int .u8) (w0 := w) w.heap.size rfl (.tmp 101) (.tmp 107) 22 5 (.int .u8 0) 1 rfl Try.underlying22 info5 rfl (by decide) (by omega) u9 x9_3 ((rd_T47 t262 x11_3).f0) [.int .u8 ((rd_T47 t262 x11_3).f0)] (fun _ => True) (fun _ => False) rfl rfl ?aP (fun _ hk => hk.elim) ?aF ?aO ?aB ?aS ?aL ?_; (case aP => exact rfl); (case aB => exact (au2)); (case aF => exact (fun _ _ => trivial)); (case aO => exact (au12)); (case aS => exact (below_size (au2))); (case aL => have := LMc56.out; omega); intro v284 w60 ho hb hg hat; rw [← Ny283.out] at ho; have n0_ := Aside0.mk (Kd.R_over' (au5) (Kd.R_typed (au12)) (by decide) hg); have n1_ := Aside0.mk (blk_grown (g := gb259) (o := .cells #[.slice A0_0 l0_0.length c0_0, .slice A0_1 l0_1.length c0_1, .int .u8 a0_2, .bool a0_3, .int .i64 a0_4, .int .i64 a0_5, .int .i64 a0_6, .slice A0_7 l0_7.length c0_7] 25 (0, 0)) (au4) hg (Kd.R_ne HO_9.out BK259.out (by decide))); have n2_ := Aside0.mk (hb); have n3_ := Aside0.mk (ho); clear HO_5; clear BK259; clear HB; clear HO_9; have HO_5 := n0_; have BK259 := n1_; have HB := n2_; have HO285 := n3_; clear n0_ n1_ n2_ n3_; clear ho hb hg hat; have p286 : 0 ≤ (x11_3 : Int) := of_decide_eq_true (au15); have q286 : x11_3 < (t262.length : Int) := of_decide_eq_true (au15); obtain ⟨ad286, e286, hx286_0, hx286_1, hx286_2⟩ := at_T47 (Kd.R_reads' HO_5.out).2.2 x11_3 p286 q286; obtain rfl : ad282 = ad286 := (by injection e286); replace p286 := eq_true p286; replace q286 := eq_true q286; have p287 : 0 ≤ (x11_3 : Int) := of_decide_eq_true (au15); have q287 : x11_3 < (t262.length : Int) := of_decide_eq_true (au15); obtain ⟨ad287, e287, hx287_0, hx287_1, hx287_2⟩ := at_T47 (Kd.R_reads' HO_5.out).2.2 x11_3 p287 q287; obtain rfl : ad282 = ad287 := (by injection e287); replace p287 := eq_true p287; replace q287 := eq_true q287))
                        go_roundg k3
                        case measure => have := HK1.out; have := HK2.out; have := HK3.out; omega
                        case rel => exact ⟨(y283), (wrap64 (x11_3 + 1)), (au21), H', ⟨by have := HK1.out; have := HK2.out; have := HK3.out; omega⟩, ⟨au5⟩, ⟨by (with_reducible repeat (first | apply Kd.R_alloc | apply Kd.R_drewN | apply Kd.R_drew)); first | exact HO285.out | exact Kd.R_mono (HO285.out) (fun _ h_ => h_.2)⟩, ⟨au4⟩, ⟨au2⟩⟩
                       ·
                        rw [if_neg c58] at H
                        exact absurd H (by simp)
                      ·
                       rw [if_neg c57] at H
                       exact absurd H (by simp)
                     ·
                      rw [if_neg c56] at H
                      exact absurd H (by simp)
                    ·
                     rw [if_neg c55] at H
                     exact absurd H (by simp)
                   ·
                    rw [if_neg c54] at H
                    have c54b0 : decide (x11_3 < (t262.length : Int)) = false := decide_eq_false c54
                    clear c54
                    replace H := Option.bind_eq_some_iff.mp H
                    obtain ⟨t288, A610, H⟩ := H
                    replace H : ((capstanref07_SameKinds.f k3 x9_3 t288).bind fun t291 => (if t291 = true then (some (decide ((x9_3.length : Int) ≤ 16))) else (none))) = some r := H
                    have A61 := Aside0.mk A610
                    clear A610
                    replace H := Option.bind_eq_some_iff.mp H
                    obtain ⟨t291, A620, H⟩ := H
                    replace H : (if t291 = true then (some (decide ((x9_3.length : Int) ≤ 16))) else (none)) = some r := H
                    have A62 := Aside0.mk A620
                    clear A620
                    by_cases c63 : t291 = true
                    ·
                     subst c63
                     have H1 : (some (decide ((x9_3.length : Int) ≤ 16))) = some r := by rw [if_pos rfl] at H; exact H
                     clear H
                     have H := H1
                     clear H1
                     obtain rfl := Option.some.inj H
                     obtain ⟨Ao64, co64, eo64⟩ := Kd.R_slice HO_5.out
                     subst eo64
                     obtain ⟨hcz65_0, hcz65_1, hcz65_2, hcz65_3, hcz65_4, hcz65_5, hcz65_6, hcz65_7, hfz65_0, hfz65_1, hfz65_2, hfz65_3, hfz65_4, hfz65_5, hfz65_6, hfz65_7⟩ := blk_all8 BK259.out
                     go_wp2_with (first | ((with_reducible refine gate_callee (f := 22) rfl ?_); refine goesL_ (some 125) rfl rfl Try.func22 (by kernel_rfl) rfl #[.agg #[.slice A0_0 l0_0.length c0_0, .slice A0_1 l0_1.length c0_1, .int .u8 a0_2, .bool a0_3, .int .i64 a0_4, .int .i64 a0_5, .int .i64 a0_6, .slice A0_7 l0_7.length c0_7]] rfl (au3) ?_; (with_reducible refine (method_Kinds.calls k3 (fun k_ => k_ < w.heap.size) _ _ l0_0 (fun k_ => k_ < w.heap.size) _ _ l0_1 a0_2 a0_3 a0_4 a0_5 a0_6 _ _ l0_7 t288 _ ?side1 ?side2 ?side3 ?side4 A61.out).mono ?_); (case side1 => exact Kd.V_mk HC0_0.out (Kd.F_below (Kd.C_F (Kd.heap_int .u8) HR0_0.out) (au2))); (case side2 => exact Kd.V_mk HC0_1.out (Kd.F_below (Kd.C_F (Kd.heap_int .u8) HR0_1.out) (au2))); (case side3 => exact au8); (case side4 => exact HC0_7.out); rintro e w66 ⟨v289, rfl, ho0, hb⟩; refine ⟨_, rfl, ?_⟩; have n0_ := Aside0.mk (Kd.R_below (au5) hb); have n1_ := Aside0.mk (Kd.R_elder' (au12) (Kd.R_base ho0) hb); have n2_ := Aside0.mk (Kd.R_lower (Kd.R_new' (Kd.R_mono (ok' := fun k_ => True) ho0 (fun _ hk_ => trivial)) (Kd.R_lt (au12))) (below_size (au2))); have n3_ := Aside0.mk (blk_below (g := gb259) (o := .cells #[.slice A0_0 l0_0.length c0_0, .slice A0_1 l0_1.length c0_1, .int .u8 a0_2, .bool a0_3, .int .i64 a0_4, .int .i64 a0_5, .int .i64 a0_6, .slice A0_7 l0_7.length c0_7] 25 (0, 0)) (au4) hb); have n4_ := Aside0.mk (below_step (au2) hb); clear HO_5; clear HO_9; clear BK259; clear HB; have HO_5 := n0_; have HO_9 := n1_; have HO290 := n2_; have BK259 := n3_; have HB := n4_; clear n0_ n1_ n2_ n3_ n4_; (try clear hb); (try clear hb2); (try clear hk); (try clear hi); (try clear ho0); obtain ⟨Ao67, co67, eo67⟩ := Kd.R_slice HO_9.out; subst eo67; obtain ⟨Ao68, co68, eo68⟩ := Kd.R_slice HO290.out; subst eo68) | ((with_reducible refine gate_callee (f := 25) rfl ?_); refine goesL_ (some 126) rfl rfl Try.func25 (by kernel_rfl) rfl #[.slice Ao67 x9_3.length co67, .slice Ao68 t288.length co68] rfl (au3) ?_; (with_reducible refine (capstanref07_SameKinds.calls k3 _ _ x9_3 _ _ t288 true _ ?side1 ?side2 ?side3 ?side4 A62.out).mono ?_); (case side1 => exact au67); (case side2 => exact (Kd.R_reads' HO_9.out).2.1); (case side3 => repeat (first | exact (Kd.R_reads' HO290.out).2.2 | (with_reducible refine Kd.C_alloc ?_ _) | (with_reducible refine Kd.C_drewN ?_ _) | (with_reducible refine Kd.C_drew ?_))); (case side4 => exact (Kd.R_reads' HO290.out).2.1); rintro e w' ⟨rfl, ⟨nd, rfl⟩⟩; refine ⟨_, rfl, ?_⟩))
                     go_ret
                     exact ⟨au13, au2⟩
                    ·
                     replace c63 := Bool.eq_false_iff.mpr c63
                     subst c63
                     have H1 : (none) = some r := by rw [if_neg (show ¬ (false = true) by decide)] at H; exact H
                     clear H
                     have H := H1
                     clear H1
                     exact absurd H (by simp)
             ·
              replace c40 := Bool.eq_false_iff.mpr c40
              subst c40
              have H1 : (capstanlaw07_MethodZeros.l3 k1 t262 x7_1 ([] : List Int) 0 l0_0 l0_1 a0_2 a0_3 a0_4 a0_5 a0_6 l0_7) = some r := by rw [if_neg (show ¬ (false = true) by decide)] at H; exact H
              clear H
              have H := H1
              clear H1
              have H' := Aside0.mk H
              clear H
              obtain ⟨hcz69_0, hcz69_1, hcz69_2, hcz69_3, hcz69_4, hcz69_5, hcz69_6, hcz69_7, hfz69_0, hfz69_1, hfz69_2, hfz69_3, hfz69_4, hfz69_5, hfz69_6, hfz69_7⟩ := blk_all8 BK259.out
              try go_wp2
              (try (rw [drewN_self wr]; generalize hq_ : World.drewN wr _ = wr; have n0_ : Aside0 (Kd.R k47 47 wr w.heap.size (fun k_ => some k_ ≠ (u7 : Value).ownBlock) v263 t262) := ⟨by rw [← hq_]; exact (au5)⟩; have n1_ : Aside0 (Kd.R k47 47 wr w.heap.size (fun k_ => some k_ ≠ (v263 : Value).ownBlock) u7 x7_1) := ⟨by rw [← hq_]; exact (au17)⟩; have n2_ : Aside0 (wr.heap[gb259]? = some (.cells #[.slice A0_0 l0_0.length c0_0, .slice A0_1 l0_1.length c0_1, .int .u8 a0_2, .bool a0_3, .int .i64 a0_4, .int .i64 a0_5, .int .i64 a0_6, .slice A0_7 l0_7.length c0_7] 25 (0, 0))) := ⟨by rw [← hq_]; exact (au4)⟩; have n3_ : Aside0 (Below w.heap.size w wr) := ⟨by rw [← hq_]; exact (au2)⟩; clear HO_5 HO_7 BK259 HB hq_; have HO_5 := n0_; have HO_7 := n1_; have BK259 := n2_; have HB := n3_; clear n0_ n1_ n2_ n3_))
              (try obtain ⟨hcu70_0, hcu70_1, hcu70_2, hcu70_3, hcu70_4, hcu70_5, hcu70_6, hcu70_7, hfu70_0, hfu70_1, hfu70_2, hfu70_3, hfu70_4, hfu70_5, hfu70_6, hfu70_7⟩ := blk_all8 BK259.out)
              have n0_ := Aside0.mk (Kd.R_drew HO_5.out)
              have n1_ := Aside0.mk (Kd.R_drew HO_7.out)
              have n2_ := Aside0.mk (blk_drew BK259.out)
              have n3_ := Aside0.mk (below_drew1 HB.out)
              clear HO_5
              clear HO_7
              clear BK259
              clear HB
              have HO_5 := n0_
              have HO_7 := n1_
              have BK259 := n2_
              have HB := n3_
              clear n0_ n1_ n2_ n3_
              obtain ⟨Ao72, co72, eo72⟩ := Kd.R_slice HO_7.out
              (first | subst eo72 | (injection eo72 with f1_ f2_ f3_; have f4_ := f1_.symm; have f5_ := f3_.symm; clear f1_ f2_ f3_; subst f4_; subst f5_))
              refine start_ (n := 15) (S := fun w' => w'.cell? ⟨gb259, 0, none⟩ = some (.slice A0_0 l0_0.length c0_0) ∧ w'.cell? ⟨gb259, 1, none⟩ = some (.slice A0_1 l0_1.length c0_1) ∧ w'.cell? ⟨gb259, 2, none⟩ = some (.int .u8 a0_2) ∧ w'.cell? ⟨gb259, 3, none⟩ = some (.bool a0_3) ∧ w'.cell? ⟨gb259, 4, none⟩ = some (.int .i64 a0_4) ∧ w'.cell? ⟨gb259, 5, none⟩ = some (.int .i64 a0_5) ∧ w'.cell? ⟨gb259, 6, none⟩ = some (.int .i64 a0_6) ∧ w'.cell? ⟨gb259, 7, none⟩ = some (.slice A0_7 l0_7.length c0_7)) (ds := []) #[false, false, false, false, false, false, false, false, false, false, false, false, false, false, false] (by kernel_rfl) rfl rfl ⟨(blk_cell BK259.out 0).trans rfl, (blk_cell BK259.out 1).trans rfl, (blk_cell BK259.out 2).trans rfl, (blk_cell BK259.out 3).trans rfl, (blk_cell BK259.out 4).trans rfl, (blk_cell BK259.out 5).trans rfl, (blk_cell BK259.out 6).trans rfl, (blk_cell BK259.out 7).trans rfl⟩ (fun hHeld => ?_); refine with_tabW capstanlaw07_MethodZeros.tab15 capstanlaw07_MethodZeros.bits15 (fun HT_ HW_ => ?_)
              generalize wr.drew = w71 at HO_5 HO_7 BK259 HB hHeld ⊢
              refine pure_ (i := 1) (N := some 63) (v := ?_) (a' := ?_) #[false, true, false, false, false, false, false, false, false, false, false, false, false, false, false] rfl rfl (any_of HT_.out (by kernel_rfl)) (fun _ _ _ h => h) (Or.inl ⟨by rfl, ?_⟩) ?_ ?_
              rotate_left
              ·
               intro w'
               go_simp
               with_reducible rfl
              rotate_left
              ·
               simp only [Act.put, List.setIfInBounds_toArray, List.set_cons_zero, List.set_cons_succ, i64_w, i32_w]
               rfl
              refine take_ (i := 0) (N := some 62) (v := ?_) (a' := ?_) #[true, true, false, false, false, false, false, false, false, false, false, false, false, false, false] rfl rfl (take_ofW HT_.out HW_.out (by kernel_rfl)) (fun _ _ _ h => h) (Or.inl ⟨by rfl, ?_⟩) hHeld ?_ ?_
              rotate_left
              ·
               rintro w' ⟨s0, s1, s2, s3, s4, s5, s6, s7⟩
               go_simp
               with_reducible rfl
              rotate_left
              ·
               simp only [Act.put, List.setIfInBounds_toArray, List.set_cons_zero, List.set_cons_succ, i64_w, i32_w]
               rfl
              refine one_ (i := 2) (N := some 64) #[true, true, true, false, false, false, false, false, false, false, false, false, false, false, false] rfl rfl (one_of HT_.out (by kernel_rfl)) (by decide) (fun K hK => ?_)
              refine goes_ Try.func18 (by kernel_rfl) rfl #[.agg #[.slice A0_0 l0_0.length c0_0, .slice A0_1 l0_1.length c0_1, .int .u8 a0_2, .bool a0_3, .int .i64 a0_4, .int .i64 a0_5, .int .i64 a0_6, .slice A0_7 l0_7.length c0_7], .slice Ao72 x7_1.length co72] (by rfl) rfl rfl (au3) ?_
              with_reducible refine (method_Fits.calls k1 _ _ l0_0 _ _ l0_1 a0_2 a0_3 a0_4 a0_5 a0_6 _ _ l0_7 _ _ x7_1 true _ ?side1 ?side2 ?side3 ?side4 ?side5 ?side6 ?side7 ?side8 A33.out).mono ?_
              (case side1 => exact au6)
              (case side2 => exact HC0_0.out)
              (case side3 => exact au11)
              (case side4 => exact HC0_1.out)
              (case side5 => exact au8)
              (case side6 => exact HC0_7.out)
              (case side7 => exact au66)
              (case side8 => exact (Kd.R_reads' HO_7.out).2.1)
              rintro e w73 ⟨rfl, hb⟩
              refine ⟨_, rfl, ?_⟩
              have n0_ := Aside0.mk (Kd.R_below (au5) hb)
              have n1_ := Aside0.mk (Kd.R_below (au17) hb)
              have n2_ := Aside0.mk (blk_below (g := gb259) (o := .cells #[.slice A0_0 l0_0.length c0_0, .slice A0_1 l0_1.length c0_1, .int .u8 a0_2, .bool a0_3, .int .i64 a0_4, .int .i64 a0_5, .int .i64 a0_6, .slice A0_7 l0_7.length c0_7] 25 (0, 0)) (au4) hb)
              have n3_ := Aside0.mk (below_step (au2) hb)
              clear HO_5
              clear HO_7
              clear BK259
              clear HB
              have HO_5 := n0_
              have HO_7 := n1_
              have BK259 := n2_
              have HB := n3_
              clear n0_ n1_ n2_ n3_
              (try clear hb)
              (try clear hb2)
              (try clear hk)
              (try clear hi)
              have q74 : (1 : Int) ≤ ((x7_1.length : Int) : Int) := of_decide_eq_true (au15)
              obtain ⟨i074, hi074, _, hsz74, _⟩ := info_parts info47
              have hroom74 : x7_1.length ≤ co72 := (Kd.R_reads' HO_7.out).2.1
              have hC74 : Kd.C k47 _ Ao72 x7_1.length x7_1 := (Kd.R_reads' HO_7.out).2.2
              have hcut74 := cut_from (P := Try.prog) 33 47 .i64 Try.underlying33 hi074 3 hsz74 Ao72 x7_1.length co72 1 (by omega) q74
              have hr74 := Kd.C_drop (m := (1 : Int).toNat) (c := co72) hC74 (by omega) hroom74
              obtain ⟨A74, hA74⟩ : ∃ A1, A1 = (if co72 = (1 : Int).toNat then Ao72 else (Ao72 : Option Addr).map (·.add ((1 : Int).toNat * 3))) := ⟨_, rfl⟩
              obtain ⟨c74, hc74⟩ : ∃ c1, c1 = co72 - (1 : Int).toNat := ⟨_, rfl⟩
              have hy74 : y272.length = x7_1.length - (1 : Int).toNat := (by rw [Ny272.out, List.length_drop] <;> omega)
              rw [show (x7_1).drop (1 : Int).toNat = y272 from Ny272.out.symm] at hr74
              replace hr74 : Kd.C k47 _ A74 y272.length y272 := (by rw [hA74]; exact hr74)
              rw [← hy74, ← hA74, ← hc74] at hcut74
              have HR275 := Aside0.mk hr74
              have HC275 := Aside0.mk (show y272.length ≤ c74 from by rw [hy74, hc74]; exact Nat.sub_le_sub_right hroom74 _)
              clear hr74 hC74 hroom74 hi074 hsz74 hc74
              have KY74 := Aside0.mk hy74
              have KA74 := Aside0.mk hA74
              clear hy74 hA74
              have KL74 := Aside0.mk (show 1 ≤ x7_1.length from by omega)
              replace q74 := eq_true q74
              refine hK.out _ _ ⟨(blk_cell BK259.out 0).trans rfl, (blk_cell BK259.out 1).trans rfl, (blk_cell BK259.out 2).trans rfl, (blk_cell BK259.out 3).trans rfl, (blk_cell BK259.out 4).trans rfl, (blk_cell BK259.out 5).trans rfl, (blk_cell BK259.out 6).trans rfl, (blk_cell BK259.out 7).trans rfl⟩ (fun hHeld => ?_)
              clear hK K
              refine norm_ (a' := ?_) ?_ ?_
              rotate_left
              ·
               show Act.put _ (some 64) _ = _
               simp only [Act.put, List.setIfInBounds_toArray, List.set_cons_zero, List.set_cons_succ, i64_w, i32_w]
               rfl
              refine pure_ (i := 3) (N := some 65) (v := ?_) (a' := ?_) #[true, true, true, true, false, false, false, false, false, false, false, false, false, false, false] rfl rfl (any_of HT_.out (by kernel_rfl)) (fun _ _ _ h => h) (Or.inl ⟨by rfl, ?_⟩) ?_ ?_
              rotate_left
              ·
               intro w'
               go_simp
               with_reducible rfl
              rotate_left
              ·
               simp only [Act.put, List.setIfInBounds_toArray, List.set_cons_zero, List.set_cons_succ, i64_w, i32_w]
               rfl
              refine pure_ (i := 4) (N := some 66) (v := ?_) (a' := ?_) #[true, true, true, true, true, false, false, false, false, false, false, false, false, false, false] rfl rfl (any_of HT_.out (by kernel_rfl)) (fun _ _ _ h => h) (Or.inl ⟨by rfl, ?_⟩) ?_ ?_
              rotate_left
              ·
               intro w'
               go_simp
               with_reducible rfl
              rotate_left
              ·
               simp only [Act.put, List.setIfInBounds_toArray, List.set_cons_zero, List.set_cons_succ, i64_w, i32_w]
               rfl
              refine pure_ (i := 5) (N := some 67) (v := ?_) (a' := ?_) #[true, true, true, true, true, true, false, false, false, false, false, false, false, false, false] rfl rfl (any_of HT_.out (by kernel_rfl)) (fun _ _ _ h => h) (Or.inl ⟨by rfl, ?_⟩) ?_ ?_
              rotate_left
              ·
               intro w'
               go_simp
               with_reducible rfl
              rotate_left
              ·
               simp only [Act.put, List.setIfInBounds_toArray, List.set_cons_zero, List.set_cons_succ, i64_w, i32_w]
               rfl
              refine pure_ (i := 6) (N := some 68) (v := ?_) (a' := ?_) #[true, true, true, true, true, true, true, false, false, false, false, false, false, false, false] rfl rfl (any_of HT_.out (by kernel_rfl)) (fun _ _ _ h => h) (Or.inl ⟨by rfl, ?_⟩) ?_ ?_
              rotate_left
              ·
               intro w'
               go_simp
               with_reducible rfl
              rotate_left
              ·
               simp only [Act.put, List.setIfInBounds_toArray, List.set_cons_zero, List.set_cons_succ, i64_w, i32_w]
               rfl
              refine pure_ (i := 7) (N := some 69) (v := ?_) (a' := ?_) #[true, true, true, true, true, true, true, true, false, false, false, false, false, false, false] rfl rfl (any_of HT_.out (by kernel_rfl)) (fun _ _ _ h => h) (Or.inl ⟨by rfl, ?_⟩) ?_ ?_
              rotate_left
              ·
               intro w'
               go_simp
               with_reducible rfl
              rotate_left
              ·
               simp only [Act.put, List.setIfInBounds_toArray, List.set_cons_zero, List.set_cons_succ, i64_w, i32_w]
               rfl
              refine pure_ (i := 8) (N := some 70) (v := ?_) (a' := ?_) #[true, true, true, true, true, true, true, true, true, false, false, false, false, false, false] rfl rfl (any_of HT_.out (by kernel_rfl)) (fun _ _ _ h => h) (Or.inl ⟨by rfl, ?_⟩) ?_ ?_
              rotate_left
              ·
               intro w'
               go_simp
               with_reducible rfl
              rotate_left
              ·
               simp only [Act.put, List.setIfInBounds_toArray, List.set_cons_zero, List.set_cons_succ, i64_w, i32_w]
               rfl
              refine pure_ (i := 10) (N := some 72) (v := ?_) (a' := ?_) #[true, true, true, true, true, true, true, true, true, false, true, false, false, false, false] rfl rfl (any_of HT_.out (by kernel_rfl)) (fun _ _ _ h => h) (Or.inl ⟨by rfl, ?_⟩) ?_ ?_
              rotate_left
              ·
               intro w'
               go_simp
               with_reducible rfl
              rotate_left
              ·
               simp only [Act.put, List.setIfInBounds_toArray, List.set_cons_zero, List.set_cons_succ, i64_w, i32_w]
               rfl
              refine pure_ (i := 11) (N := some 73) (v := ?_) (a' := ?_) #[true, true, true, true, true, true, true, true, true, false, true, true, false, false, false] rfl rfl (any_of HT_.out (by kernel_rfl)) (fun _ _ _ h => h) (Or.inl ⟨by rfl, ?_⟩) ?_ ?_
              rotate_left
              ·
               intro w'
               go_simp
               with_reducible rfl
              rotate_left
              ·
               simp only [Act.put, List.setIfInBounds_toArray, List.set_cons_zero, List.set_cons_succ, i64_w, i32_w]
               rfl
              refine take_ (i := 9) (N := some 71) (v := ?_) (a' := ?_) #[true, true, true, true, true, true, true, true, true, true, true, true, false, false, false] rfl rfl (take_ofW HT_.out HW_.out (by kernel_rfl)) (fun _ _ _ h => h) (Or.inl ⟨by rfl, ?_⟩) hHeld ?_ ?_
              rotate_left
              ·
               rintro w' ⟨s0, s1, s2, s3, s4, s5, s6, s7⟩
               go_simp
               with_reducible rfl
              rotate_left
              ·
               simp only [Act.put, List.setIfInBounds_toArray, List.set_cons_zero, List.set_cons_succ, i64_w, i32_w]
               rfl
              refine one_ (i := 12) (N := some 74) #[true, true, true, true, true, true, true, true, true, true, true, true, true, false, false] rfl rfl (one_of HT_.out (by kernel_rfl)) (by decide) (fun K hK => ?_)
              refine goes_ Try.func18 (by kernel_rfl) rfl #[.agg #[.slice A0_0 l0_0.length c0_0, .slice A0_1 l0_1.length c0_1, .int .u8 a0_2, .bool a0_3, .int .i64 a0_4, .int .i64 a0_5, .int .i64 a0_6, .slice A0_7 l0_7.length c0_7], .slice A74 y272.length c74] (by rfl) rfl rfl (au3) ?_
              with_reducible refine (method_Fits.calls k1 _ _ l0_0 _ _ l0_1 a0_2 a0_3 a0_4 a0_5 a0_6 _ _ l0_7 _ _ y272 false _ ?side1 ?side2 ?side3 ?side4 ?side5 ?side6 ?side7 ?side8 A37.out).mono ?_
              (case side1 => exact au6)
              (case side2 => exact HC0_0.out)
              (case side3 => exact au11)
              (case side4 => exact HC0_1.out)
              (case side5 => exact au8)
              (case side6 => exact HC0_7.out)
              (case side7 => repeat (first | exact (au49) | (with_reducible refine Kd.C_alloc ?_ _) | (with_reducible refine Kd.C_drewN ?_ _) | (with_reducible refine Kd.C_drew ?_)))
              (case side8 => exact HC275.out)
              rintro e w75 ⟨rfl, hb⟩
              refine ⟨_, rfl, ?_⟩
              have n0_ := Aside0.mk (Kd.R_below (au5) hb)
              have n1_ := Aside0.mk (Kd.R_below (au17) hb)
              have n2_ := Aside0.mk (blk_below (g := gb259) (o := .cells #[.slice A0_0 l0_0.length c0_0, .slice A0_1 l0_1.length c0_1, .int .u8 a0_2, .bool a0_3, .int .i64 a0_4, .int .i64 a0_5, .int .i64 a0_6, .slice A0_7 l0_7.length c0_7] 25 (0, 0)) (au4) hb)
              have n3_ := Aside0.mk (Kd.C_below (au49) hb)
              have n4_ := Aside0.mk (below_step (au2) hb)
              clear HO_5
              clear HO_7
              clear BK259
              clear HR275
              clear HB
              have HO_5 := n0_
              have HO_7 := n1_
              have BK259 := n2_
              have HR275 := n3_
              have HB := n4_
              clear n0_ n1_ n2_ n3_ n4_
              (try clear hb)
              (try clear hb2)
              (try clear hk)
              (try clear hi)
              refine hK.out _ _ ⟨(blk_cell BK259.out 0).trans rfl, (blk_cell BK259.out 1).trans rfl, (blk_cell BK259.out 2).trans rfl, (blk_cell BK259.out 3).trans rfl, (blk_cell BK259.out 4).trans rfl, (blk_cell BK259.out 5).trans rfl, (blk_cell BK259.out 6).trans rfl, (blk_cell BK259.out 7).trans rfl⟩ (fun hHeld => ?_)
              clear hK K
              refine norm_ (a' := ?_) ?_ ?_
              rotate_left
              ·
               show Act.put _ (some 74) _ = _
               simp only [Act.put, List.setIfInBounds_toArray, List.set_cons_zero, List.set_cons_succ, i64_w, i32_w]
               rfl
              refine pure_ (i := 13) (N := some 75) (v := ?_) (a' := ?_) #[true, true, true, true, true, true, true, true, true, true, true, true, true, true, false] rfl rfl (any_of HT_.out (by kernel_rfl)) (fun _ _ _ h => h) (Or.inl ⟨by rfl, ?_⟩) ?_ ?_
              rotate_left
              ·
               intro w'
               go_simp
               with_reducible rfl
              rotate_left
              ·
               simp only [Act.put, List.setIfInBounds_toArray, List.set_cons_zero, List.set_cons_succ, i64_w, i32_w]
               rfl
              refine pure_ (i := 14) (N := some 76) (v := ?_) (a' := ?_) #[true, true, true, true, true, true, true, true, true, true, true, true, true, true, true] rfl rfl (any_of HT_.out (by kernel_rfl)) (fun _ _ _ h => h) (Or.inl ⟨by rfl, ?_⟩) ?_ ?_
              rotate_left
              ·
               intro w'
               go_simp
               with_reducible rfl
              rotate_left
              ·
               simp only [Act.put, List.setIfInBounds_toArray, List.set_cons_zero, List.set_cons_succ, i64_w, i32_w]
               rfl
              refine done_ (done_of HT_.out (by kernel_rfl)) ?_
              obtain ⟨hcz76_0, hcz76_1, hcz76_2, hcz76_3, hcz76_4, hcz76_5, hcz76_6, hcz76_7, hfz76_0, hfz76_1, hfz76_2, hfz76_3, hfz76_4, hfz76_5, hfz76_6, hfz76_7⟩ := blk_all8 BK259.out
              try go_wp2_with (first | ((with_reducible refine gate_callee (f := 18) rfl ?_); refine goesL_ (some 79) rfl rfl Try.func18 (by kernel_rfl) rfl #[.agg #[.slice A0_0 l0_0.length c0_0, .slice A0_1 l0_1.length c0_1, .int .u8 a0_2, .bool a0_3, .int .i64 a0_4, .int .i64 a0_5, .int .i64 a0_6, .slice A0_7 l0_7.length c0_7], .slice A1 l1.length c1] rfl (au3) ?_; (with_reducible refine (method_Fits.calls k1 _ _ l0_0 _ _ l0_1 a0_2 a0_3 a0_4 a0_5 a0_6 _ _ l0_7 _ _ l1 false _ ?side1 ?side2 ?side3 ?side4 ?side5 ?side6 ?side7 ?side8 A39.out).mono ?_); (case side1 => exact au6); (case side2 => exact HC0_0.out); (case side3 => exact au11); (case side4 => exact HC0_1.out); (case side5 => exact au8); (case side6 => exact HC0_7.out); (case side7 => exact au58); (case side8 => exact HC1.out); rintro e w77 ⟨rfl, hb⟩; refine ⟨_, rfl, ?_⟩; have n0_ := Aside0.mk (Kd.R_below (au5) hb); have n1_ := Aside0.mk (Kd.R_below (au17) hb); have n2_ := Aside0.mk (blk_below (g := gb259) (o := .cells #[.slice A0_0 l0_0.length c0_0, .slice A0_1 l0_1.length c0_1, .int .u8 a0_2, .bool a0_3, .int .i64 a0_4, .int .i64 a0_5, .int .i64 a0_6, .slice A0_7 l0_7.length c0_7] 25 (0, 0)) (au4) hb); have n3_ := Aside0.mk (Kd.C_below (au49) hb); have n4_ := Aside0.mk (below_step (au2) hb); clear HO_5; clear HO_7; clear BK259; clear HR275; clear HB; have HO_5 := n0_; have HO_7 := n1_; have BK259 := n2_; have HR275 := n3_; have HB := n4_; clear n0_ n1_ n2_ n3_ n4_; (try clear hb); (try clear hb2); (try clear hk); (try clear hi)))
              go_loopg [9, 10] k1 (fun kq v9 v10 w' => ∃ (x9_2 : List Int) (x10_2 : Int), v10 = .int .i64 x10_2 ∧ Aside0 (capstanlaw07_MethodZeros.l3 kq t262 x7_1 x9_2 x10_2 l0_0 l0_1 a0_2 a0_3 a0_4 a0_5 a0_6 l0_7 = some r) ∧ Aside0 (kq ≤ k1) ∧ Aside0 (Kd.R k47 47 w' w.heap.size (fun k_ => some k_ ≠ ((.slice Ao72 x7_1.length co72) : Value).ownBlock) v263 t262) ∧ Aside0 (Kd.R k47 47 w' w.heap.size (fun k_ => some k_ ≠ (v263 : Value).ownBlock) (.slice Ao72 x7_1.length co72) x7_1) ∧ Aside0 (Kd.R (Kd.int .u8) 5 w' w.heap.size (fun _ => True) v9 x9_2) ∧ Aside0 (w'.heap[gb259]? = some (.cells #[(.slice A0_0 l0_0.length c0_0), (.slice A0_1 l0_1.length c0_1), .int .u8 a0_2, .bool a0_3, .int .i64 a0_4, .int .i64 a0_5, .int .i64 a0_6, (.slice A0_7 l0_7.length c0_7)] 25 (0, 0))) ∧ Aside0 (Below w.heap.size w w'))
              case atStart => exact ⟨(([] : List Int)), (0), (au21), H', ⟨Nat.le_refl _⟩, ⟨au5⟩, ⟨au17⟩, ⟨au41⟩, ⟨au4⟩, ⟨au2⟩⟩
              case round =>
               clear H'
               try clear c1
               try clear c2
               try clear p2
               try clear q2
               try clear hx2
               try clear c3
               try clear c4
               try clear q4
               try clear c5
               try clear c6
               try clear p6
               try clear c7
               try clear q7
               try clear c11
               try clear c11b0
               try clear c11b1
               try clear c14
               try clear c18
               try clear c18b0
               try clear c18b1
               try clear c18b2
               try clear c19
               try clear c22
               try clear c23
               try clear c25
               try clear p26
               try clear q26
               try clear hx26
               try clear p27
               try clear q27
               try clear hx27
               try clear c28
               try clear c28b0
               try clear p28
               try clear q28
               try clear hx28
               try clear c29
               try clear c29b0
               try clear c30
               try clear c34
               try clear c35
               try clear c35b0
               try clear c35b1
               try clear c36
               try clear c36b0
               try clear c36b1
               try clear c38
               try clear c40
               try clear c46
               try clear q46
               try clear c50
               try clear c50b0
               try clear c51
               try clear c51b0
               try clear c52
               try clear c54
               try clear c54b0
               try clear c55
               try clear c55b0
               try clear c56
               try clear c57
               try clear c57b0
               try clear c57b1
               try clear c58
               try clear c58b0
               try clear c58b1
               try clear c63
               try clear p64
               try clear c74
               try clear q74
               try clear hcz14_0
               try clear hcz14_1
               try clear hcz14_2
               try clear hcz14_3
               try clear hcz14_4
               try clear hcz14_5
               try clear hcz14_6
               try clear hcz14_7
               try clear hcz22_0
               try clear hcz22_1
               try clear hcz22_2
               try clear hcz22_3
               try clear hcz22_4
               try clear hcz22_5
               try clear hcz22_6
               try clear hcz22_7
               try clear hcz24_0
               try clear hcz24_1
               try clear hcz24_2
               try clear hcz24_3
               try clear hcz24_4
               try clear hcz24_5
               try clear hcz24_6
               try clear hcz24_7
               try clear hcz26_0
               try clear hcz26_1
               try clear hcz26_2
               try clear hcz26_3
               try clear hcz26_4
               try clear hcz26_5
               try clear hcz26_6
               try clear hcz26_7
               try clear hcz31_0
               try clear hcz31_1
               try clear hcz31_2
               try clear hcz31_3
               try clear hcz31_4
               try clear hcz31_5
               try clear hcz31_6
               try clear hcz31_7
               try clear hcz41_0
               try clear hcz41_1
               try clear hcz41_2
               try clear hcz41_3
               try clear hcz41_4
               try clear hcz41_5
               try clear hcz41_6
               try clear hcz41_7
               try clear hcz48_0
               try clear hcz48_1
               try clear hcz48_2
               try clear hcz48_3
               try clear hcz48_4
               try clear hcz48_5
               try clear hcz48_6
               try clear hcz48_7
               try clear hcz65_0
               try clear hcz65_1
               try clear hcz65_2
               try clear hcz65_3
               try clear hcz65_4
               try clear hcz65_5
               try clear hcz65_6
               try clear hcz65_7
               try clear hcz69_0
               try clear hcz69_1
               try clear hcz69_2
               try clear hcz69_3
               try clear hcz69_4
               try clear hcz69_5
               try clear hcz69_6
               try clear hcz69_7
               try clear hcz76_0
               try clear hcz76_1
               try clear hcz76_2
               try clear hcz76_3
               try clear hcz76_4
               try clear hcz76_5
               try clear hcz76_6
               try clear hcz76_7
               try clear hcz9_0
               try clear hcz9_1
               try clear hcz9_2
               try clear hcz9_3
               try clear hcz9_4
               try clear hcz9_5
               try clear hcz9_6
               try clear hcz9_7
               try clear hfz14_0
               try clear hfz14_1
               try clear hfz14_2
               try clear hfz14_3
               try clear hfz14_4
               try clear hfz14_5
               try clear hfz14_6
               try clear hfz14_7
               try clear hfz22_0
               try clear hfz22_1
               try clear hfz22_2
               try clear hfz22_3
               try clear hfz22_4
               try clear hfz22_5
               try clear hfz22_6
               try clear hfz22_7
               try clear hfz24_0
               try clear hfz24_1
               try clear hfz24_2
               try clear hfz24_3
               try clear hfz24_4
               try clear hfz24_5
               try clear hfz24_6
               try clear hfz24_7
               try clear hfz26_0
               try clear hfz26_1
               try clear hfz26_2
               try clear hfz26_3
               try clear hfz26_4
               try clear hfz26_5
               try clear hfz26_6
               try clear hfz26_7
               try clear hfz31_0
               try clear hfz31_1
               try clear hfz31_2
               try clear hfz31_3
               try clear hfz31_4
               try clear hfz31_5
               try clear hfz31_6
               try clear hfz31_7
               try clear hfz41_0
               try clear hfz41_1
               try clear hfz41_2
               try clear hfz41_3
               try clear hfz41_4
               try clear hfz41_5
               try clear hfz41_6
               try clear hfz41_7
               try clear hfz48_0
               try clear hfz48_1
               try clear hfz48_2
               try clear hfz48_3
               try clear hfz48_4
               try clear hfz48_5
               try clear hfz48_6
               try clear hfz48_7
               try clear hfz65_0
               try clear hfz65_1
               try clear hfz65_2
               try clear hfz65_3
               try clear hfz65_4
               try clear hfz65_5
               try clear hfz65_6
               try clear hfz65_7
               try clear hfz69_0
               try clear hfz69_1
               try clear hfz69_2
               try clear hfz69_3
               try clear hfz69_4
               try clear hfz69_5
               try clear hfz69_6
               try clear hfz69_7
               try clear hfz76_0
               try clear hfz76_1
               try clear hfz76_2
               try clear hfz76_3
               try clear hfz76_4
               try clear hfz76_5
               try clear hfz76_6
               try clear hfz76_7
               try clear hfz9_0
               try clear hfz9_1
               try clear hfz9_2
               try clear hfz9_3
               try clear hfz9_4
               try clear hfz9_5
               try clear hfz9_6
               try clear hfz9_7
               try clear hx267_0
               try clear hx278_0
               try clear hx278_1
               try clear hx278_2
               try clear hx282_0
               try clear hx282_1
               try clear hx282_2
               try clear hx286_0
               try clear hx286_1
               try clear hx286_2
               try clear hx287_0
               try clear hx287_1
               try clear hx287_2
               try clear p2
               try clear p26
               try clear p267
               try clear p27
               try clear p278
               try clear p282
               try clear p286
               try clear p287
               try clear p6
               try clear q2
               try clear q26
               try clear q267
               try clear q27
               try clear q278
               try clear q282
               try clear q286
               try clear q287
               try clear q4
               try clear q46
               try clear q74
               obtain ⟨x9_2, x10_2, rfl, HA, HK2, HO_5, HO_7, HO_9, BK259, HB⟩ := hrel
               cases gk with
               | zero => exact absurd HA.out (by simp [capstanlaw07_MethodZeros.l3])
               | succ k2 =>
                have H := HA.out
                clear HA
                simp only [capstanlaw07_MethodZeros.l3] at H
                by_cases c78 : x10_2 < (x7_1.length : Int)
                ·
                 rw [if_pos c78] at H
                 have c78b0 : decide (x10_2 < (x7_1.length : Int)) = true := decide_eq_true c78
                 clear c78
                 by_cases c79 : 0 ≤ x10_2
                 ·
                  rw [if_pos c79] at H
                  have c79b0 : decide (0 ≤ x10_2) = true := decide_eq_true c79
                  clear c79
                  by_cases c80 : x9_2.length < 140737488355328
                  ·
                   rw [if_pos c80] at H
                   have LMc80 := Aside0.mk c80
                   clear c80
                   obtain ⟨y293, hy293⟩ : ∃ y_ : List Int, y_ = (x9_2 ++ [(rd_T47 x7_1 x10_2).f0]) := ⟨_, rfl⟩
                   replace H : (capstanlaw07_MethodZeros.l3 k2 t262 x7_1 y293 (wrap64 (x10_2 + 1)) l0_0 l0_1 a0_2 a0_3 a0_4 a0_5 a0_6 l0_7) = some r := by first | (rw [hy293]; with_reducible exact H) | (have H2_ := (Option.bind_some _ _).symm.trans H; rw [hy293]; with_reducible exact H2_) | (have H2_ := (Option.bind_some _ _).symm.trans H; with_reducible exact H2_) | with_reducible exact H | (rw [hy293]; exact H) | exact H
                   have Ny293 := Aside0.mk hy293
                   clear hy293
                   have H' := Aside0.mk H
                   clear H
                   have p292 : 0 ≤ (x10_2 : Int) := of_decide_eq_true (au15)
                   have q292 : x10_2 < (x7_1.length : Int) := of_decide_eq_true (au15)
                   obtain ⟨ad292, e292, hx292_0, hx292_1, hx292_2⟩ := at_T47 (Kd.R_reads' HO_7.out).2.2 x10_2 p292 q292
                   cases e292
                   replace p292 := eq_true p292
                   replace q292 := eq_true q292
                   go_wp2_with (first | ((with_reducible refine gate_builtin (b := .append) (xs := #[.tmp 87, .tmp 93]) rfl ?_); (try (refine gate_guard (by rfl) ?_; dsimp only)); at_builtin; refine Kd.R_append (Kd.int .u8) (w0 := w) w.heap.size rfl (.tmp 87) (.tmp 93) 22 5 (.int .u8 0) 1 rfl Try.underlying22 info5 rfl (by decide) (by omega) u9 x9_2 ((rd_T47 x7_1 x10_2).f0) [.int .u8 ((rd_T47 x7_1 x10_2).f0)] (fun _ => True) (fun _ => False) rfl rfl ?aP (fun _ hk => hk.elim) ?aF ?aO ?aB ?aS ?aL ?_; (case aP => exact rfl); (case aB => exact (au2)); (case aF => exact (fun _ _ => trivial)); (case aO => exact (au12)); (case aS => exact (below_size (au2))); (case aL => have := LMc80.out; omega); intro v294 w81 ho hb hg hat; rw [← Ny293.out] at ho; have n0_ := Aside0.mk (Kd.R_over' (au5) (Kd.R_typed (au12)) (by decide) hg); have n1_ := Aside0.mk (Kd.R_over' (au17) (Kd.R_typed (au12)) (by decide) hg); have n2_ := Aside0.mk (blk_grown (g := gb259) (o := .cells #[.slice A0_0 l0_0.length c0_0, .slice A0_1 l0_1.length c0_1, .int .u8 a0_2, .bool a0_3, .int .i64 a0_4, .int .i64 a0_5, .int .i64 a0_6, .slice A0_7 l0_7.length c0_7] 25 (0, 0)) (au4) hg (Kd.R_ne HO_9.out BK259.out (by decide))); have n3_ := Aside0.mk (hb); have n4_ := Aside0.mk (ho); clear HO_5; clear HO_7; clear BK259; clear HB; clear HO_9; have HO_5 := n0_; have HO_7 := n1_; have BK259 := n2_; have HB := n3_; have HO295 := n4_; clear n0_ n1_ n2_ n3_ n4_; clear ho hb hg hat))
                   go_roundg k2
                   case measure => have := HK1.out; have := HK2.out; omega
                   case rel => exact ⟨(y293), (wrap64 (x10_2 + 1)), (au21), H', ⟨by have := HK1.out; have := HK2.out; omega⟩, ⟨au5⟩, ⟨au17⟩, ⟨by (with_reducible repeat (first | apply Kd.R_alloc | apply Kd.R_drewN | apply Kd.R_drew)); first | exact HO295.out | exact Kd.R_mono (HO295.out) (fun _ h_ => h_.2)⟩, ⟨au4⟩, ⟨au2⟩⟩
                  ·
                   rw [if_neg c80] at H
                   exact absurd H (by simp)
                 ·
                  rw [if_neg c79] at H
                  exact absurd H (by simp)
                ·
                 rw [if_neg c78] at H
                 have c78b0 : decide (x10_2 < (x7_1.length : Int)) = false := decide_eq_false c78
                 clear c78
                 have H' := Aside0.mk H
                 clear H
                 go_wp2
                 go_loopg [9, 11] k2 (fun kq v9 v11 w' => ∃ (x9_3 : List Int) (x11_3 : Int), v11 = .int .i64 x11_3 ∧ Aside0 (capstanlaw07_MethodZeros.l4 kq t262 x9_3 x11_3 l0_0 l0_1 a0_2 a0_3 a0_4 a0_5 a0_6 l0_7 = some r) ∧ Aside0 (kq ≤ k2) ∧ Aside0 (Kd.R k47 47 w' w.heap.size (fun _ => True) v263 t262) ∧ Aside0 (Kd.R (Kd.int .u8) 5 w' w.heap.size (fun _ => True) v9 x9_3) ∧ Aside0 (w'.heap[gb259]? = some (.cells #[(.slice A0_0 l0_0.length c0_0), (.slice A0_1 l0_1.length c0_1), .int .u8 a0_2, .bool a0_3, .int .i64 a0_4, .int .i64 a0_5, .int .i64 a0_6, (.slice A0_7 l0_7.length c0_7)] 25 (0, 0))) ∧ Aside0 (Below w.heap.size w w'))
                 case atStart => exact ⟨(x9_2), (0), (au21), H', ⟨Nat.le_refl _⟩, ⟨au59⟩, ⟨au12⟩, ⟨au4⟩, ⟨au2⟩⟩
                 case round =>
                  clear H'
                  try clear c1
                  try clear c2
                  try clear p2
                  try clear q2
                  try clear hx2
                  try clear c3
                  try clear c4
                  try clear q4
                  try clear c5
                  try clear c6
                  try clear p6
                  try clear c7
                  try clear q7
                  try clear c8
                  try clear c11
                  try clear c11b0
                  try clear c11b1
                  try clear c14
                  try clear c18
                  try clear c18b0
                  try clear c18b1
                  try clear c18b2
                  try clear c19
                  try clear c22
                  try clear c23
                  try clear c25
                  try clear p26
                  try clear q26
                  try clear hx26
                  try clear p27
                  try clear q27
                  try clear hx27
                  try clear c28
                  try clear c28b0
                  try clear p28
                  try clear q28
                  try clear hx28
                  try clear c29
                  try clear c29b0
                  try clear p29
                  try clear q29
                  try clear hx29
                  try clear c30
                  try clear c34
                  try clear c35
                  try clear c35b0
                  try clear c35b1
                  try clear c36
                  try clear c36b0
                  try clear c36b1
                  try clear c38
                  try clear c40
                  try clear c46
                  try clear q46
                  try clear c50
                  try clear c50b0
                  try clear c51
                  try clear c51b0
                  try clear c52
                  try clear c54
                  try clear c54b0
                  try clear c55
                  try clear c55b0
                  try clear c56
                  try clear c57
                  try clear c57b0
                  try clear c57b1
                  try clear c58
                  try clear c58b0
                  try clear c58b1
                  try clear c63
                  try clear p64
                  try clear c74
                  try clear q74
                  try clear c78
                  try clear c78b0
                  try clear c79
                  try clear c79b0
                  try clear c80
                  try clear hcz14_0
                  try clear hcz14_1
                  try clear hcz14_2
                  try clear hcz14_3
                  try clear hcz14_4
                  try clear hcz14_5
                  try clear hcz14_6
                  try clear hcz14_7
                  try clear hcz22_0
                  try clear hcz22_1
                  try clear hcz22_2
                  try clear hcz22_3
                  try clear hcz22_4
                  try clear hcz22_5
                  try clear hcz22_6
                  try clear hcz22_7
                  try clear hcz24_0
                  try clear hcz24_1
                  try clear hcz24_2
                  try clear hcz24_3
                  try clear hcz24_4
                  try clear hcz24_5
                  try clear hcz24_6
                  try clear hcz24_7
                  try clear hcz26_0
                  try clear hcz26_1
                  try clear hcz26_2
                  try clear hcz26_3
                  try clear hcz26_4
                  try clear hcz26_5
                  try clear hcz26_6
                  try clear hcz26_7
                  try clear hcz31_0
                  try clear hcz31_1
                  try clear hcz31_2
                  try clear hcz31_3
                  try clear hcz31_4
                  try clear hcz31_5
                  try clear hcz31_6
                  try clear hcz31_7
                  try clear hcz41_0
                  try clear hcz41_1
                  try clear hcz41_2
                  try clear hcz41_3
                  try clear hcz41_4
                  try clear hcz41_5
                  try clear hcz41_6
                  try clear hcz41_7
                  try clear hcz48_0
                  try clear hcz48_1
                  try clear hcz48_2
                  try clear hcz48_3
                  try clear hcz48_4
                  try clear hcz48_5
                  try clear hcz48_6
                  try clear hcz48_7
                  try clear hcz65_0
                  try clear hcz65_1
                  try clear hcz65_2
                  try clear hcz65_3
                  try clear hcz65_4
                  try clear hcz65_5
                  try clear hcz65_6
                  try clear hcz65_7
                  try clear hcz69_0
                  try clear hcz69_1
                  try clear hcz69_2
                  try clear hcz69_3
                  try clear hcz69_4
                  try clear hcz69_5
                  try clear hcz69_6
                  try clear hcz69_7
                  try clear hcz76_0
                  try clear hcz76_1
                  try clear hcz76_2
                  try clear hcz76_3
                  try clear hcz76_4
                  try clear hcz76_5
                  try clear hcz76_6
                  try clear hcz76_7
                  try clear hcz9_0
                  try clear hcz9_1
                  try clear hcz9_2
                  try clear hcz9_3
                  try clear hcz9_4
                  try clear hcz9_5
                  try clear hcz9_6
                  try clear hcz9_7
                  try clear hfz14_0
                  try clear hfz14_1
                  try clear hfz14_2
                  try clear hfz14_3
                  try clear hfz14_4
                  try clear hfz14_5
                  try clear hfz14_6
                  try clear hfz14_7
                  try clear hfz22_0
                  try clear hfz22_1
                  try clear hfz22_2
                  try clear hfz22_3
                  try clear hfz22_4
                  try clear hfz22_5
                  try clear hfz22_6
                  try clear hfz22_7
                  try clear hfz24_0
                  try clear hfz24_1
                  try clear hfz24_2
                  try clear hfz24_3
                  try clear hfz24_4
                  try clear hfz24_5
                  try clear hfz24_6
                  try clear hfz24_7
                  try clear hfz26_0
                  try clear hfz26_1
                  try clear hfz26_2
                  try clear hfz26_3
                  try clear hfz26_4
                  try clear hfz26_5
                  try clear hfz26_6
                  try clear hfz26_7
                  try clear hfz31_0
                  try clear hfz31_1
                  try clear hfz31_2
                  try clear hfz31_3
                  try clear hfz31_4
                  try clear hfz31_5
                  try clear hfz31_6
                  try clear hfz31_7
                  try clear hfz41_0
                  try clear hfz41_1
                  try clear hfz41_2
                  try clear hfz41_3
                  try clear hfz41_4
                  try clear hfz41_5
                  try clear hfz41_6
                  try clear hfz41_7
                  try clear hfz48_0
                  try clear hfz48_1
                  try clear hfz48_2
                  try clear hfz48_3
                  try clear hfz48_4
                  try clear hfz48_5
                  try clear hfz48_6
                  try clear hfz48_7
                  try clear hfz65_0
                  try clear hfz65_1
                  try clear hfz65_2
                  try clear hfz65_3
                  try clear hfz65_4
                  try clear hfz65_5
                  try clear hfz65_6
                  try clear hfz65_7
                  try clear hfz69_0
                  try clear hfz69_1
                  try clear hfz69_2
                  try clear hfz69_3
                  try clear hfz69_4
                  try clear hfz69_5
                  try clear hfz69_6
                  try clear hfz69_7
                  try clear hfz76_0
                  try clear hfz76_1
                  try clear hfz76_2
                  try clear hfz76_3
                  try clear hfz76_4
                  try clear hfz76_5
                  try clear hfz76_6
                  try clear hfz76_7
                  try clear hfz9_0
                  try clear hfz9_1
                  try clear hfz9_2
                  try clear hfz9_3
                  try clear hfz9_4
                  try clear hfz9_5
                  try clear hfz9_6
                  try clear hfz9_7
                  try clear hx267_0
                  try clear hx278_0
                  try clear hx278_1
                  try clear hx278_2
                  try clear hx282_0
                  try clear hx282_1
                  try clear hx282_2
                  try clear hx286_0
                  try clear hx286_1
                  try clear hx286_2
                  try clear hx287_0
                  try clear hx287_1
                  try clear hx287_2
                  try clear hx292_0
                  try clear hx292_1
                  try clear hx292_2
                  try clear p2
                  try clear p26
                  try clear p267
                  try clear p27
                  try clear p278
                  try clear p28
                  try clear p282
                  try clear p286
                  try clear p287
                  try clear p292
                  try clear p6
                  try clear p64
                  try clear q2
                  try clear q26
                  try clear q267
                  try clear q27
                  try clear q278
                  try clear q28
                  try clear q282
                  try clear q286
                  try clear q287
                  try clear q292
                  try clear q4
                  try clear q46
                  try clear q7
                  try clear q74
                  obtain ⟨x9_3, x11_3, rfl, HA, HK3, HO_5, HO_9, BK259, HB⟩ := hrel
                  cases gk with
                  | zero => exact absurd HA.out (by simp [capstanlaw07_MethodZeros.l4])
                  | succ k3 =>
                   have H := HA.out
                   clear HA
                   simp only [capstanlaw07_MethodZeros.l4] at H
                   by_cases c82 : x11_3 < (t262.length : Int)
                   ·
                    rw [if_pos c82] at H
                    have c82b0 : decide (x11_3 < (t262.length : Int)) = true := decide_eq_true c82
                    clear c82
                    by_cases c83 : 0 ≤ x11_3
                    ·
                     rw [if_pos c83] at H
                     have c83b0 : decide (0 ≤ x11_3) = true := decide_eq_true c83
                     clear c83
                     by_cases c84 : x9_3.length < 140737488355328
                     ·
                      rw [if_pos c84] at H
                      have LMc84 := Aside0.mk c84
                      clear c84
                      obtain ⟨y297, hy297⟩ : ∃ y_ : List Int, y_ = (x9_3 ++ [(rd_T47 t262 x11_3).f0]) := ⟨_, rfl⟩
                      replace H : (if ((rd_T47 t262 x11_3).f1) = 0 then (if ((rd_T47 t262 x11_3).f2) = 0 then (capstanlaw07_MethodZeros.l4 k3 t262 y297 (wrap64 (x11_3 + 1)) l0_0 l0_1 a0_2 a0_3 a0_4 a0_5 a0_6 l0_7) else (none)) else (none)) = some r := by first | (rw [hy297]; with_reducible exact H) | (have H2_ := (Option.bind_some _ _).symm.trans H; rw [hy297]; with_reducible exact H2_) | (have H2_ := (Option.bind_some _ _).symm.trans H; with_reducible exact H2_) | with_reducible exact H | (rw [hy297]; exact H) | exact H
                      have Ny297 := Aside0.mk hy297
                      clear hy297
                      by_cases c85 : ((rd_T47 t262 x11_3).f1) = 0
                      ·
                       rw [if_pos c85] at H
                       have c85b0 : (((rd_T47 t262 x11_3).f1) == 0) = true := beq_iff_eq.mpr c85
                       have c85b1 : (((rd_T47 t262 x11_3).f1) != 0) = false := bne_eq_false_iff_eq.mpr c85
                       clear c85
                       by_cases c86 : ((rd_T47 t262 x11_3).f2) = 0
                       ·
                        rw [if_pos c86] at H
                        have c86b0 : (((rd_T47 t262 x11_3).f2) == 0) = true := beq_iff_eq.mpr c86
                        have c86b1 : (((rd_T47 t262 x11_3).f2) != 0) = false := bne_eq_false_iff_eq.mpr c86
                        clear c86
                        have H' := Aside0.mk H
                        clear H
                        obtain ⟨Ao87, co87, eo87⟩ := Kd.R_slice HO_5.out
                        subst eo87
                        have p296 : 0 ≤ (x11_3 : Int) := of_decide_eq_true (au15)
                        have q296 : x11_3 < (t262.length : Int) := of_decide_eq_true (au15)
                        obtain ⟨ad296, e296, hx296_0, hx296_1, hx296_2⟩ := at_T47 (Kd.R_reads' HO_5.out).2.2 x11_3 p296 q296
                        cases e296
                        replace p296 := eq_true p296
                        replace q296 := eq_true q296
                        go_wp2_with (first | ((with_reducible refine gate_builtin (b := .append) (xs := #[.tmp 101, .tmp 107]) rfl ?_); (try (refine gate_guard (by rfl) ?_; dsimp only)); at_builtin; refine Kd.R_append (Kd.int .u8) (w0 := w) w.heap.size rfl (.tmp 101) (.tmp 107) 22 5 (.int .u8 0) 1 rfl Try.underlying22 info5 rfl (by decide) (by omega) u9 x9_3 ((rd_T47 t262 x11_3).f0) [.int .u8 ((rd_T47 t262 x11_3).f0)] (fun _ => True) (fun _ => False) rfl rfl ?aP (fun _ hk => hk.elim) ?aF ?aO ?aB ?aS ?aL ?_; (case aP => exact rfl); (case aB => exact (au2)); (case aF => exact (fun _ _ => trivial)); (case aO => exact (au12)); (case aS => exact (below_size (au2))); (case aL => have := LMc84.out; omega); intro v298 w88 ho hb hg hat; rw [← Ny297.out] at ho; have n0_ := Aside0.mk (Kd.R_over' (au5) (Kd.R_typed (au12)) (by decide) hg); have n1_ := Aside0.mk (blk_grown (g := gb259) (o := .cells #[.slice A0_0 l0_0.length c0_0, .slice A0_1 l0_1.length c0_1, .int .u8 a0_2, .bool a0_3, .int .i64 a0_4, .int .i64 a0_5, .int .i64 a0_6, .slice A0_7 l0_7.length c0_7] 25 (0, 0)) (au4) hg (Kd.R_ne HO_9.out BK259.out (by decide))); have n2_ := Aside0.mk (hb); have n3_ := Aside0.mk (ho); clear HO_5; clear BK259; clear HB; clear HO_9; have HO_5 := n0_; have BK259 := n1_; have HB := n2_; have HO299 := n3_; clear n0_ n1_ n2_ n3_; clear ho hb hg hat; have p300 : 0 ≤ (x11_3 : Int) := of_decide_eq_true (au15); have q300 : x11_3 < (t262.length : Int) := of_decide_eq_true (au15); obtain ⟨ad300, e300, hx300_0, hx300_1, hx300_2⟩ := at_T47 (Kd.R_reads' HO_5.out).2.2 x11_3 p300 q300; obtain rfl : ad296 = ad300 := (by injection e300); replace p300 := eq_true p300; replace q300 := eq_true q300; have p301 : 0 ≤ (x11_3 : Int) := of_decide_eq_true (au15); have q301 : x11_3 < (t262.length : Int) := of_decide_eq_true (au15); obtain ⟨ad301, e301, hx301_0, hx301_1, hx301_2⟩ := at_T47 (Kd.R_reads' HO_5.out).2.2 x11_3 p301 q301; obtain rfl : ad296 = ad301 := (by injection e301); replace p301 := eq_true p301; replace q301 := eq_true q301))
                        go_roundg k3
                        case measure => have := HK1.out; have := HK2.out; have := HK3.out; omega
                        case rel => exact ⟨(y297), (wrap64 (x11_3 + 1)), (au21), H', ⟨by have := HK1.out; have := HK2.out; have := HK3.out; omega⟩, ⟨au5⟩, ⟨by (with_reducible repeat (first | apply Kd.R_alloc | apply Kd.R_drewN | apply Kd.R_drew)); first | exact HO299.out | exact Kd.R_mono (HO299.out) (fun _ h_ => h_.2)⟩, ⟨au4⟩, ⟨au2⟩⟩
                       ·
                        rw [if_neg c86] at H
                        exact absurd H (by simp)
                      ·
                       rw [if_neg c85] at H
                       exact absurd H (by simp)
                     ·
                      rw [if_neg c84] at H
                      exact absurd H (by simp)
                    ·
                     rw [if_neg c83] at H
                     exact absurd H (by simp)
                   ·
                    rw [if_neg c82] at H
                    have c82b0 : decide (x11_3 < (t262.length : Int)) = false := decide_eq_false c82
                    clear c82
                    replace H := Option.bind_eq_some_iff.mp H
                    obtain ⟨t302, A890, H⟩ := H
                    replace H : ((capstanref07_SameKinds.f k3 x9_3 t302).bind fun t305 => (if t305 = true then (some (decide ((x9_3.length : Int) ≤ 16))) else (none))) = some r := H
                    have A89 := Aside0.mk A890
                    clear A890
                    replace H := Option.bind_eq_some_iff.mp H
                    obtain ⟨t305, A900, H⟩ := H
                    replace H : (if t305 = true then (some (decide ((x9_3.length : Int) ≤ 16))) else (none)) = some r := H
                    have A90 := Aside0.mk A900
                    clear A900
                    by_cases c91 : t305 = true
                    ·
                     subst c91
                     have H1 : (some (decide ((x9_3.length : Int) ≤ 16))) = some r := by rw [if_pos rfl] at H; exact H
                     clear H
                     have H := H1
                     clear H1
                     obtain rfl := Option.some.inj H
                     obtain ⟨Ao92, co92, eo92⟩ := Kd.R_slice HO_5.out
                     subst eo92
                     obtain ⟨hcz93_0, hcz93_1, hcz93_2, hcz93_3, hcz93_4, hcz93_5, hcz93_6, hcz93_7, hfz93_0, hfz93_1, hfz93_2, hfz93_3, hfz93_4, hfz93_5, hfz93_6, hfz93_7⟩ := blk_all8 BK259.out
                     go_wp2_with (first | ((with_reducible refine gate_callee (f := 22) rfl ?_); refine goesL_ (some 125) rfl rfl Try.func22 (by kernel_rfl) rfl #[.agg #[.slice A0_0 l0_0.length c0_0, .slice A0_1 l0_1.length c0_1, .int .u8 a0_2, .bool a0_3, .int .i64 a0_4, .int .i64 a0_5, .int .i64 a0_6, .slice A0_7 l0_7.length c0_7]] rfl (au3) ?_; (with_reducible refine (method_Kinds.calls k3 (fun k_ => k_ < w.heap.size) _ _ l0_0 (fun k_ => k_ < w.heap.size) _ _ l0_1 a0_2 a0_3 a0_4 a0_5 a0_6 _ _ l0_7 t302 _ ?side1 ?side2 ?side3 ?side4 A89.out).mono ?_); (case side1 => exact Kd.V_mk HC0_0.out (Kd.F_below (Kd.C_F (Kd.heap_int .u8) HR0_0.out) (au2))); (case side2 => exact Kd.V_mk HC0_1.out (Kd.F_below (Kd.C_F (Kd.heap_int .u8) HR0_1.out) (au2))); (case side3 => exact au8); (case side4 => exact HC0_7.out); rintro e w94 ⟨v303, rfl, ho0, hb⟩; refine ⟨_, rfl, ?_⟩; have n0_ := Aside0.mk (Kd.R_below (au5) hb); have n1_ := Aside0.mk (Kd.R_elder' (au12) (Kd.R_base ho0) hb); have n2_ := Aside0.mk (Kd.R_lower (Kd.R_new' (Kd.R_mono (ok' := fun k_ => True) ho0 (fun _ hk_ => trivial)) (Kd.R_lt (au12))) (below_size (au2))); have n3_ := Aside0.mk (blk_below (g := gb259) (o := .cells #[.slice A0_0 l0_0.length c0_0, .slice A0_1 l0_1.length c0_1, .int .u8 a0_2, .bool a0_3, .int .i64 a0_4, .int .i64 a0_5, .int .i64 a0_6, .slice A0_7 l0_7.length c0_7] 25 (0, 0)) (au4) hb); have n4_ := Aside0.mk (below_step (au2) hb); clear HO_5; clear HO_9; clear BK259; clear HB; have HO_5 := n0_; have HO_9 := n1_; have HO304 := n2_; have BK259 := n3_; have HB := n4_; clear n0_ n1_ n2_ n3_ n4_; (try clear hb); (try clear hb2); (try clear hk); (try clear hi); (try clear ho0); obtain ⟨Ao95, co95, eo95⟩ := Kd.R_slice HO_9.out; subst eo95; obtain ⟨Ao96, co96, eo96⟩ := Kd.R_slice HO304.out; subst eo96) | ((with_reducible refine gate_callee (f := 25) rfl ?_); refine goesL_ (some 126) rfl rfl Try.func25 (by kernel_rfl) rfl #[.slice Ao95 x9_3.length co95, .slice Ao96 t302.length co96] rfl (au3) ?_; (with_reducible refine (capstanref07_SameKinds.calls k3 _ _ x9_3 _ _ t302 true _ ?side1 ?side2 ?side3 ?side4 A90.out).mono ?_); (case side1 => exact au67); (case side2 => exact (Kd.R_reads' HO_9.out).2.1); (case side3 => repeat (first | exact (Kd.R_reads' HO304.out).2.2 | (with_reducible refine Kd.C_alloc ?_ _) | (with_reducible refine Kd.C_drewN ?_ _) | (with_reducible refine Kd.C_drew ?_))); (case side4 => exact (Kd.R_reads' HO304.out).2.1); rintro e w' ⟨rfl, ⟨nd, rfl⟩⟩; refine ⟨_, rfl, ?_⟩))
                     go_ret
                     exact ⟨au13, au2⟩
                    ·
                     replace c91 := Bool.eq_false_iff.mpr c91
                     subst c91
                     have H1 : (none) = some r := by rw [if_neg (show ¬ (false = true) by decide)] at H; exact H
                     clear H
                     have H := H1
                     clear H1
                     exact absurd H (by simp)
           ·
            rw [if_neg c36] at H
            exact absurd H (by simp)
          ·
           rw [if_neg c35] at H
           have c35b0 : decide (0 < (x7_1.length : Int)) = false := decide_eq_false c35
           have c35b1 : decide (0 < x7_1.length) = false := decide_eq_false (by omega)
           clear c35
           replace H := Option.bind_eq_some_iff.mp H
           obtain ⟨t306, A970, H⟩ := H
           replace H : (if t306 = true then (capstanlaw07_MethodZeros.l5 k1 t262 l1 ([] : List Int) 0 l0_0 l0_1 a0_2 a0_3 a0_4 a0_5 a0_6 l0_7) else (capstanlaw07_MethodZeros.l7 k1 t262 x7_1 ([] : List Int) 0 l0_0 l0_1 a0_2 a0_3 a0_4 a0_5 a0_6 l0_7)) = some r := H
           have A97 := Aside0.mk A970
           clear A970
           by_cases c98 : t306 = true
           ·
            subst c98
            have H1 : (capstanlaw07_MethodZeros.l5 k1 t262 l1 ([] : List Int) 0 l0_0 l0_1 a0_2 a0_3 a0_4 a0_5 a0_6 l0_7) = some r := by rw [if_pos rfl] at H; exact H
            clear H
            have H := H1
            clear H1
            have H' := Aside0.mk H
            clear H
            obtain ⟨hcz99_0, hcz99_1, hcz99_2, hcz99_3, hcz99_4, hcz99_5, hcz99_6, hcz99_7, hfz99_0, hfz99_1, hfz99_2, hfz99_3, hfz99_4, hfz99_5, hfz99_6, hfz99_7⟩ := blk_all8 BK259.out
            try go_wp2
            (try (rw [drewN_self wr]; generalize hq_ : World.drewN wr _ = wr; have n0_ : Aside0 (Kd.R k47 47 wr w.heap.size (fun k_ => some k_ ≠ (u7 : Value).ownBlock) v263 t262) := ⟨by rw [← hq_]; exact (au5)⟩; have n1_ : Aside0 (Kd.R k47 47 wr w.heap.size (fun k_ => some k_ ≠ (v263 : Value).ownBlock) u7 x7_1) := ⟨by rw [← hq_]; exact (au17)⟩; have n2_ : Aside0 (wr.heap[gb259]? = some (.cells #[.slice A0_0 l0_0.length c0_0, .slice A0_1 l0_1.length c0_1, .int .u8 a0_2, .bool a0_3, .int .i64 a0_4, .int .i64 a0_5, .int .i64 a0_6, .slice A0_7 l0_7.length c0_7] 25 (0, 0))) := ⟨by rw [← hq_]; exact (au4)⟩; have n3_ : Aside0 (Below w.heap.size w wr) := ⟨by rw [← hq_]; exact (au2)⟩; clear HO_5 HO_7 BK259 HB hq_; have HO_5 := n0_; have HO_7 := n1_; have BK259 := n2_; have HB := n3_; clear n0_ n1_ n2_ n3_))
            (try obtain ⟨hcu100_0, hcu100_1, hcu100_2, hcu100_3, hcu100_4, hcu100_5, hcu100_6, hcu100_7, hfu100_0, hfu100_1, hfu100_2, hfu100_3, hfu100_4, hfu100_5, hfu100_6, hfu100_7⟩ := blk_all8 BK259.out)
            have n0_ := Aside0.mk (Kd.R_drew HO_5.out)
            have n1_ := Aside0.mk (Kd.R_drew HO_7.out)
            have n2_ := Aside0.mk (blk_drew BK259.out)
            have n3_ := Aside0.mk (below_drew1 HB.out)
            clear HO_5
            clear HO_7
            clear BK259
            clear HB
            have HO_5 := n0_
            have HO_7 := n1_
            have BK259 := n2_
            have HB := n3_
            clear n0_ n1_ n2_ n3_
            obtain ⟨Ao102, co102, eo102⟩ := Kd.R_slice HO_7.out
            (first | subst eo102 | (injection eo102 with f1_ f2_ f3_; have f4_ := f1_.symm; have f5_ := f3_.symm; clear f1_ f2_ f3_; subst f4_; subst f5_))
            refine start_ (n := 15) (S := fun w' => w'.cell? ⟨gb259, 0, none⟩ = some (.slice A0_0 l0_0.length c0_0) ∧ w'.cell? ⟨gb259, 1, none⟩ = some (.slice A0_1 l0_1.length c0_1) ∧ w'.cell? ⟨gb259, 2, none⟩ = some (.int .u8 a0_2) ∧ w'.cell? ⟨gb259, 3, none⟩ = some (.bool a0_3) ∧ w'.cell? ⟨gb259, 4, none⟩ = some (.int .i64 a0_4) ∧ w'.cell? ⟨gb259, 5, none⟩ = some (.int .i64 a0_5) ∧ w'.cell? ⟨gb259, 6, none⟩ = some (.int .i64 a0_6) ∧ w'.cell? ⟨gb259, 7, none⟩ = some (.slice A0_7 l0_7.length c0_7)) (ds := []) #[false, false, false, false, false, false, false, false, false, false, false, false, false, false, false] (by kernel_rfl) rfl rfl ⟨(blk_cell BK259.out 0).trans rfl, (blk_cell BK259.out 1).trans rfl, (blk_cell BK259.out 2).trans rfl, (blk_cell BK259.out 3).trans rfl, (blk_cell BK259.out 4).trans rfl, (blk_cell BK259.out 5).trans rfl, (blk_cell BK259.out 6).trans rfl, (blk_cell BK259.out 7).trans rfl⟩ (fun hHeld => ?_); refine with_tabW capstanlaw07_MethodZeros.tab15 capstanlaw07_MethodZeros.bits15 (fun HT_ HW_ => ?_)
            generalize wr.drew = w101 at HO_5 HO_7 BK259 HB hHeld ⊢
            refine pure_ (i := 1) (N := some 63) (v := ?_) (a' := ?_) #[false, true, false, false, false, false, false, false, false, false, false, false, false, false, false] rfl rfl (any_of HT_.out (by kernel_rfl)) (fun _ _ _ h => h) (Or.inl ⟨by rfl, ?_⟩) ?_ ?_
            rotate_left
            ·
             intro w'
             go_simp
             with_reducible rfl
            rotate_left
            ·
             simp only [Act.put, List.setIfInBounds_toArray, List.set_cons_zero, List.set_cons_succ, i64_w, i32_w]
             rfl
            refine take_ (i := 0) (N := some 62) (v := ?_) (a' := ?_) #[true, true, false, false, false, false, false, false, false, false, false, false, false, false, false] rfl rfl (take_ofW HT_.out HW_.out (by kernel_rfl)) (fun _ _ _ h => h) (Or.inl ⟨by rfl, ?_⟩) hHeld ?_ ?_
            rotate_left
            ·
             rintro w' ⟨s0, s1, s2, s3, s4, s5, s6, s7⟩
             go_simp
             with_reducible rfl
            rotate_left
            ·
             simp only [Act.put, List.setIfInBounds_toArray, List.set_cons_zero, List.set_cons_succ, i64_w, i32_w]
             rfl
            refine one_ (i := 2) (N := some 64) #[true, true, true, false, false, false, false, false, false, false, false, false, false, false, false] rfl rfl (one_of HT_.out (by kernel_rfl)) (by decide) (fun K hK => ?_)
            refine goes_ Try.func18 (by kernel_rfl) rfl #[.agg #[.slice A0_0 l0_0.length c0_0, .slice A0_1 l0_1.length c0_1, .int .u8 a0_2, .bool a0_3, .int .i64 a0_4, .int .i64 a0_5, .int .i64 a0_6, .slice A0_7 l0_7.length c0_7], .slice Ao102 x7_1.length co102] (by rfl) rfl rfl (au3) ?_
            with_reducible refine (method_Fits.calls k1 _ _ l0_0 _ _ l0_1 a0_2 a0_3 a0_4 a0_5 a0_6 _ _ l0_7 _ _ x7_1 true _ ?side1 ?side2 ?side3 ?side4 ?side5 ?side6 ?side7 ?side8 A33.out).mono ?_
            (case side1 => exact au6)
            (case side2 => exact HC0_0.out)
            (case side3 => exact au11)
            (case side4 => exact HC0_1.out)
            (case side5 => exact au8)
            (case side6 => exact HC0_7.out)
            (case side7 => exact au66)
            (case side8 => exact (Kd.R_reads' HO_7.out).2.1)
            rintro e w103 ⟨rfl, hb⟩
            refine ⟨_, rfl, ?_⟩
            have n0_ := Aside0.mk (Kd.R_below (au5) hb)
            have n1_ := Aside0.mk (Kd.R_below (au17) hb)
            have n2_ := Aside0.mk (blk_below (g := gb259) (o := .cells #[.slice A0_0 l0_0.length c0_0, .slice A0_1 l0_1.length c0_1, .int .u8 a0_2, .bool a0_3, .int .i64 a0_4, .int .i64 a0_5, .int .i64 a0_6, .slice A0_7 l0_7.length c0_7] 25 (0, 0)) (au4) hb)
            have n3_ := Aside0.mk (below_step (au2) hb)
            clear HO_5
            clear HO_7
            clear BK259
            clear HB
            have HO_5 := n0_
            have HO_7 := n1_
            have BK259 := n2_
            have HB := n3_
            clear n0_ n1_ n2_ n3_
            (try clear hb)
            (try clear hb2)
            (try clear hk)
            (try clear hi)
            refine hK.out _ _ ⟨(blk_cell BK259.out 0).trans rfl, (blk_cell BK259.out 1).trans rfl, (blk_cell BK259.out 2).trans rfl, (blk_cell BK259.out 3).trans rfl, (blk_cell BK259.out 4).trans rfl, (blk_cell BK259.out 5).trans rfl, (blk_cell BK259.out 6).trans rfl, (blk_cell BK259.out 7).trans rfl⟩ (fun hHeld => ?_)
            clear hK K
            refine norm_ (a' := ?_) ?_ ?_
            rotate_left
            ·
             show Act.put _ (some 64) _ = _
             simp only [Act.put, List.setIfInBounds_toArray, List.set_cons_zero, List.set_cons_succ, i64_w, i32_w]
             rfl
            refine pure_ (i := 3) (N := some 65) (v := ?_) (a' := ?_) #[true, true, true, true, false, false, false, false, false, false, false, false, false, false, false] rfl rfl (any_of HT_.out (by kernel_rfl)) (fun _ _ _ h => h) (Or.inl ⟨by rfl, ?_⟩) ?_ ?_
            rotate_left
            ·
             intro w'
             go_simp
             with_reducible rfl
            rotate_left
            ·
             simp only [Act.put, List.setIfInBounds_toArray, List.set_cons_zero, List.set_cons_succ, i64_w, i32_w]
             rfl
            refine pure_ (i := 4) (N := some 66) (v := ?_) (a' := ?_) #[true, true, true, true, true, false, false, false, false, false, false, false, false, false, false] rfl rfl (any_of HT_.out (by kernel_rfl)) (fun _ _ _ h => h) (Or.inl ⟨by rfl, ?_⟩) ?_ ?_
            rotate_left
            ·
             intro w'
             go_simp
             with_reducible rfl
            rotate_left
            ·
             simp only [Act.put, List.setIfInBounds_toArray, List.set_cons_zero, List.set_cons_succ, i64_w, i32_w]
             rfl
            refine pure_ (i := 5) (N := some 67) (v := ?_) (a' := ?_) #[true, true, true, true, true, true, false, false, false, false, false, false, false, false, false] rfl rfl (any_of HT_.out (by kernel_rfl)) (fun _ _ _ h => h) (Or.inl ⟨by rfl, ?_⟩) ?_ ?_
            rotate_left
            ·
             intro w'
             go_simp
             with_reducible rfl
            rotate_left
            ·
             simp only [Act.put, List.setIfInBounds_toArray, List.set_cons_zero, List.set_cons_succ, i64_w, i32_w]
             rfl
            refine pure_ (i := 6) (N := some 68) (v := ?_) (a' := ?_) #[true, true, true, true, true, true, true, false, false, false, false, false, false, false, false] rfl rfl (any_of HT_.out (by kernel_rfl)) (fun _ _ _ h => h) (Or.inl ⟨by rfl, ?_⟩) ?_ ?_
            rotate_left
            ·
             intro w'
             go_simp
             with_reducible rfl
            rotate_left
            ·
             simp only [Act.put, List.setIfInBounds_toArray, List.set_cons_zero, List.set_cons_succ, i64_w, i32_w]
             rfl
            refine pure_ (i := 7) (N := some 69) (v := ?_) (a' := ?_) #[true, true, true, true, true, true, true, true, false, false, false, false, false, false, false] rfl rfl (any_of HT_.out (by kernel_rfl)) (fun _ _ _ h => h) (Or.inl ⟨by rfl, ?_⟩) ?_ ?_
            rotate_left
            ·
             intro w'
             go_simp
             with_reducible rfl
            rotate_left
            ·
             simp only [Act.put, List.setIfInBounds_toArray, List.set_cons_zero, List.set_cons_succ, i64_w, i32_w]
             rfl
            refine pure_ (i := 8) (N := some 70) (v := ?_) (a' := ?_) #[true, true, true, true, true, true, true, true, true, false, false, false, false, false, false] rfl rfl (any_of HT_.out (by kernel_rfl)) (fun _ _ _ h => h) (Or.inl ⟨by rfl, ?_⟩) ?_ ?_
            rotate_left
            ·
             intro w'
             go_simp
             with_reducible rfl
            rotate_left
            ·
             simp only [Act.put, List.setIfInBounds_toArray, List.set_cons_zero, List.set_cons_succ, i64_w, i32_w]
             rfl
            refine pure_ (i := 9) (N := some 71) (v := undef) (a' := ?_) #[true, true, true, true, true, true, true, true, true, true, false, false, false, false, false] rfl rfl (any_of HT_.out (by kernel_rfl)) (fun _ _ _ h => h) (Or.inr ⟨by rfl, rfl⟩) ?_ ?_
            rotate_left
            ·
             simp only [Act.put, List.setIfInBounds_toArray, List.set_cons_zero, List.set_cons_succ, i64_w, i32_w]
             rfl
            refine pure_ (i := 10) (N := some 72) (v := undef) (a' := ?_) #[true, true, true, true, true, true, true, true, true, true, true, false, false, false, false] rfl rfl (any_of HT_.out (by kernel_rfl)) (fun _ _ _ h => h) (Or.inr ⟨by rfl, rfl⟩) ?_ ?_
            rotate_left
            ·
             simp only [Act.put, List.setIfInBounds_toArray, List.set_cons_zero, List.set_cons_succ, i64_w, i32_w]
             rfl
            refine pure_ (i := 11) (N := some 73) (v := undef) (a' := ?_) #[true, true, true, true, true, true, true, true, true, true, true, true, false, false, false] rfl rfl (any_of HT_.out (by kernel_rfl)) (fun _ _ _ h => h) (Or.inr ⟨by rfl, rfl⟩) ?_ ?_
            rotate_left
            ·
             simp only [Act.put, List.setIfInBounds_toArray, List.set_cons_zero, List.set_cons_succ, i64_w, i32_w]
             rfl
            refine pure_ (i := 12) (N := some 74) (v := undef) (a' := ?_) #[true, true, true, true, true, true, true, true, true, true, true, true, true, false, false] rfl rfl (any_of HT_.out (by kernel_rfl)) (fun _ _ _ h => h) (Or.inr ⟨by rfl, rfl⟩) ?_ ?_
            rotate_left
            ·
             simp only [Act.put, List.setIfInBounds_toArray, List.set_cons_zero, List.set_cons_succ, i64_w, i32_w]
             rfl
            refine pure_ (i := 13) (N := some 75) (v := ?_) (a' := ?_) #[true, true, true, true, true, true, true, true, true, true, true, true, true, true, false] rfl rfl (any_of HT_.out (by kernel_rfl)) (fun _ _ _ h => h) (Or.inl ⟨by rfl, ?_⟩) ?_ ?_
            rotate_left
            ·
             intro w'
             go_simp
             with_reducible rfl
            rotate_left
            ·
             simp only [Act.put, List.setIfInBounds_toArray, List.set_cons_zero, List.set_cons_succ, i64_w, i32_w]
             rfl
            refine pure_ (i := 14) (N := some 76) (v := ?_) (a' := ?_) #[true, true, true, true, true, true, true, true, true, true, true, true, true, true, true] rfl rfl (any_of HT_.out (by kernel_rfl)) (fun _ _ _ h => h) (Or.inl ⟨by rfl, ?_⟩) ?_ ?_
            rotate_left
            ·
             intro w'
             go_simp
             with_reducible rfl
            rotate_left
            ·
             simp only [Act.put, List.setIfInBounds_toArray, List.set_cons_zero, List.set_cons_succ, i64_w, i32_w]
             rfl
            refine done_ (done_of HT_.out (by kernel_rfl)) ?_
            obtain ⟨hcz104_0, hcz104_1, hcz104_2, hcz104_3, hcz104_4, hcz104_5, hcz104_6, hcz104_7, hfz104_0, hfz104_1, hfz104_2, hfz104_3, hfz104_4, hfz104_5, hfz104_6, hfz104_7⟩ := blk_all8 BK259.out
            try go_wp2_with (first | ((with_reducible refine gate_callee (f := 18) rfl ?_); refine goesL_ (some 79) rfl rfl Try.func18 (by kernel_rfl) rfl #[.agg #[.slice A0_0 l0_0.length c0_0, .slice A0_1 l0_1.length c0_1, .int .u8 a0_2, .bool a0_3, .int .i64 a0_4, .int .i64 a0_5, .int .i64 a0_6, .slice A0_7 l0_7.length c0_7], .slice A1 l1.length c1] rfl (au3) ?_; (with_reducible refine (method_Fits.calls k1 _ _ l0_0 _ _ l0_1 a0_2 a0_3 a0_4 a0_5 a0_6 _ _ l0_7 _ _ l1 true _ ?side1 ?side2 ?side3 ?side4 ?side5 ?side6 ?side7 ?side8 A97.out).mono ?_); (case side1 => exact au6); (case side2 => exact HC0_0.out); (case side3 => exact au11); (case side4 => exact HC0_1.out); (case side5 => exact au8); (case side6 => exact HC0_7.out); (case side7 => exact au58); (case side8 => exact HC1.out); rintro e w105 ⟨rfl, hb⟩; refine ⟨_, rfl, ?_⟩; have n0_ := Aside0.mk (Kd.R_below (au5) hb); have n1_ := Aside0.mk (Kd.R_below (au17) hb); have n2_ := Aside0.mk (blk_below (g := gb259) (o := .cells #[.slice A0_0 l0_0.length c0_0, .slice A0_1 l0_1.length c0_1, .int .u8 a0_2, .bool a0_3, .int .i64 a0_4, .int .i64 a0_5, .int .i64 a0_6, .slice A0_7 l0_7.length c0_7] 25 (0, 0)) (au4) hb); have n3_ := Aside0.mk (below_step (au2) hb); clear HO_5; clear HO_7; clear BK259; clear HB; have HO_5 := n0_; have HO_7 := n1_; have BK259 := n2_; have HB := n3_; clear n0_ n1_ n2_ n3_; (try clear hb); (try clear hb2); (try clear hk); (try clear hi)))
            go_loopg [9, 10] k1 (fun kq v9 v10 w' => ∃ (x9_2 : List Int) (x10_2 : Int), v10 = .int .i64 x10_2 ∧ Aside0 (capstanlaw07_MethodZeros.l5 kq t262 l1 x9_2 x10_2 l0_0 l0_1 a0_2 a0_3 a0_4 a0_5 a0_6 l0_7 = some r) ∧ Aside0 (kq ≤ k1) ∧ Aside0 (Kd.R k47 47 w' w.heap.size (fun _ => True) v263 t262) ∧ Aside0 (Kd.R (Kd.int .u8) 5 w' w.heap.size (fun _ => True) v9 x9_2) ∧ Aside0 (w'.heap[gb259]? = some (.cells #[(.slice A0_0 l0_0.length c0_0), (.slice A0_1 l0_1.length c0_1), .int .u8 a0_2, .bool a0_3, .int .i64 a0_4, .int .i64 a0_5, .int .i64 a0_6, (.slice A0_7 l0_7.length c0_7)] 25 (0, 0))) ∧ Aside0 (Below w.heap.size w w'))
            case atStart => exact ⟨(([] : List Int)), (0), (au21), H', ⟨Nat.le_refl _⟩, ⟨au59⟩, ⟨au41⟩, ⟨au4⟩, ⟨au2⟩⟩
            case round =>
             clear H'
             try clear c1
             try clear c2
             try clear p2
             try clear q2
             try clear hx2
             try clear c3
             try clear p3
             try clear q3
             try clear hx3
             try clear c4
             try clear q4
             try clear c5
             try clear c6
             try clear p6
             try clear c7
             try clear q7
             try clear c8
             try clear c9
             try clear c18
             try clear c22
             try clear c25
             try clear p26
             try clear q26
             try clear hx26
             try clear p27
             try clear q27
             try clear hx27
             try clear c28
             try clear c28b0
             try clear p28
             try clear q28
             try clear hx28
             try clear c29
             try clear c29b0
             try clear p29
             try clear q29
             try clear hx29
             try clear c30
             try clear p30
             try clear q30
             try clear hx30
             try clear c34
             try clear c35
             try clear c35b0
             try clear c35b1
             try clear c36
             try clear c36b0
             try clear c36b1
             try clear c38
             try clear c40
             try clear c46
             try clear q46
             try clear c50
             try clear c50b0
             try clear c51
             try clear c51b0
             try clear c52
             try clear c54
             try clear c54b0
             try clear c55
             try clear c55b0
             try clear c56
             try clear c57
             try clear c57b0
             try clear c57b1
             try clear c58
             try clear c58b0
             try clear c58b1
             try clear c63
             try clear p64
             try clear c74
             try clear q74
             try clear c78
             try clear c78b0
             try clear c79
             try clear c79b0
             try clear c80
             try clear c82
             try clear c82b0
             try clear c83
             try clear c83b0
             try clear c84
             try clear c85
             try clear c85b0
             try clear c85b1
             try clear c86
             try clear c86b0
             try clear c86b1
             try clear c91
             try clear c98
             try clear hcz104_0
             try clear hcz104_1
             try clear hcz104_2
             try clear hcz104_3
             try clear hcz104_4
             try clear hcz104_5
             try clear hcz104_6
             try clear hcz104_7
             try clear hcz14_0
             try clear hcz14_1
             try clear hcz14_2
             try clear hcz14_3
             try clear hcz14_4
             try clear hcz14_5
             try clear hcz14_6
             try clear hcz14_7
             try clear hcz22_0
             try clear hcz22_1
             try clear hcz22_2
             try clear hcz22_3
             try clear hcz22_4
             try clear hcz22_5
             try clear hcz22_6
             try clear hcz22_7
             try clear hcz24_0
             try clear hcz24_1
             try clear hcz24_2
             try clear hcz24_3
             try clear hcz24_4
             try clear hcz24_5
             try clear hcz24_6
             try clear hcz24_7
             try clear hcz26_0
             try clear hcz26_1
             try clear hcz26_2
             try clear hcz26_3
             try clear hcz26_4
             try clear hcz26_5
             try clear hcz26_6
             try clear hcz26_7
             try clear hcz31_0
             try clear hcz31_1
             try clear hcz31_2
             try clear hcz31_3
             try clear hcz31_4
             try clear hcz31_5
             try clear hcz31_6
             try clear hcz31_7
             try clear hcz41_0
             try clear hcz41_1
             try clear hcz41_2
             try clear hcz41_3
             try clear hcz41_4
             try clear hcz41_5
             try clear hcz41_6
             try clear hcz41_7
             try clear hcz48_0
             try clear hcz48_1
             try clear hcz48_2
             try clear hcz48_3
             try clear hcz48_4
             try clear hcz48_5
             try clear hcz48_6
             try clear hcz48_7
             try clear hcz65_0
             try clear hcz65_1
             try clear hcz65_2
             try clear hcz65_3
             try clear hcz65_4
             try clear hcz65_5
             try clear hcz65_6
             try clear hcz65_7
             try clear hcz69_0
             try clear hcz69_1
             try clear hcz69_2
             try clear hcz69_3
             try clear hcz69_4
             try clear hcz69_5
             try clear hcz69_6
             try clear hcz69_7
             try clear hcz76_0
             try clear hcz76_1
             try clear hcz76_2
             try clear hcz76_3
             try clear hcz76_4
             try clear hcz76_5
             try clear hcz76_6
             try clear hcz76_7
             try clear hcz93_0
             try clear hcz93_1
             try clear hcz93_2
             try clear hcz93_3
             try clear hcz93_4
             try clear hcz93_5
             try clear hcz93_6
             try clear hcz93_7
             try clear hcz99_0
             try clear hcz99_1
             try clear hcz99_2
             try clear hcz99_3
             try clear hcz99_4
             try clear hcz99_5
             try clear hcz99_6
             try clear hcz99_7
             try clear hcz9_0
             try clear hcz9_1
             try clear hcz9_2
             try clear hcz9_3
             try clear hcz9_4
             try clear hcz9_5
             try clear hcz9_6
             try clear hcz9_7
             try clear hfz104_0
             try clear hfz104_1
             try clear hfz104_2
             try clear hfz104_3
             try clear hfz104_4
             try clear hfz104_5
             try clear hfz104_6
             try clear hfz104_7
             try clear hfz14_0
             try clear hfz14_1
             try clear hfz14_2
             try clear hfz14_3
             try clear hfz14_4
             try clear hfz14_5
             try clear hfz14_6
             try clear hfz14_7
             try clear hfz22_0
             try clear hfz22_1
             try clear hfz22_2
             try clear hfz22_3
             try clear hfz22_4
             try clear hfz22_5
             try clear hfz22_6
             try clear hfz22_7
             try clear hfz24_0
             try clear hfz24_1
             try clear hfz24_2
             try clear hfz24_3
             try clear hfz24_4
             try clear hfz24_5
             try clear hfz24_6
             try clear hfz24_7
             try clear hfz26_0
             try clear hfz26_1
             try clear hfz26_2
             try clear hfz26_3
             try clear hfz26_4
             try clear hfz26_5
             try clear hfz26_6
             try clear hfz26_7
             try clear hfz31_0
             try clear hfz31_1
             try clear hfz31_2
             try clear hfz31_3
             try clear hfz31_4
             try clear hfz31_5
             try clear hfz31_6
             try clear hfz31_7
             try clear hfz41_0
             try clear hfz41_1
             try clear hfz41_2
             try clear hfz41_3
             try clear hfz41_4
             try clear hfz41_5
             try clear hfz41_6
             try clear hfz41_7
             try clear hfz48_0
             try clear hfz48_1
             try clear hfz48_2
             try clear hfz48_3
             try clear hfz48_4
             try clear hfz48_5
             try clear hfz48_6
             try clear hfz48_7
             try clear hfz65_0
             try clear hfz65_1
             try clear hfz65_2
             try clear hfz65_3
             try clear hfz65_4
             try clear hfz65_5
             try clear hfz65_6
             try clear hfz65_7
             try clear hfz69_0
             try clear hfz69_1
             try clear hfz69_2
             try clear hfz69_3
             try clear hfz69_4
             try clear hfz69_5
             try clear hfz69_6
             try clear hfz69_7
             try clear hfz76_0
             try clear hfz76_1
             try clear hfz76_2
             try clear hfz76_3
             try clear hfz76_4
             try clear hfz76_5
             try clear hfz76_6
             try clear hfz76_7
             try clear hfz93_0
             try clear hfz93_1
             try clear hfz93_2
             try clear hfz93_3
             try clear hfz93_4
             try clear hfz93_5
             try clear hfz93_6
             try clear hfz93_7
             try clear hfz99_0
             try clear hfz99_1
             try clear hfz99_2
             try clear hfz99_3
             try clear hfz99_4
             try clear hfz99_5
             try clear hfz99_6
             try clear hfz99_7
             try clear hfz9_0
             try clear hfz9_1
             try clear hfz9_2
             try clear hfz9_3
             try clear hfz9_4
             try clear hfz9_5
             try clear hfz9_6
             try clear hfz9_7
             try clear hx267_0
             try clear hx278_0
             try clear hx278_1
             try clear hx278_2
             try clear hx282_0
             try clear hx282_1
             try clear hx282_2
             try clear hx286_0
             try clear hx286_1
             try clear hx286_2
             try clear hx287_0
             try clear hx287_1
             try clear hx287_2
             try clear hx292_0
             try clear hx292_1
             try clear hx292_2
             try clear hx296_0
             try clear hx296_1
             try clear hx296_2
             try clear hx300_0
             try clear hx300_1
             try clear hx300_2
             try clear hx301_0
             try clear hx301_1
             try clear hx301_2
             try clear p2
             try clear p26
             try clear p267
             try clear p27
             try clear p278
             try clear p28
             try clear p282
             try clear p286
             try clear p287
             try clear p29
             try clear p292
             try clear p296
             try clear p300
             try clear p301
             try clear p6
             try clear p64
             try clear q2
             try clear q26
             try clear q267
             try clear q27
             try clear q278
             try clear q28
             try clear q282
             try clear q286
             try clear q287
             try clear q29
             try clear q292
             try clear q296
             try clear q300
             try clear q301
             try clear q4
             try clear q46
             try clear q7
             try clear q74
             obtain ⟨x9_2, x10_2, rfl, HA, HK2, HO_5, HO_9, BK259, HB⟩ := hrel
             cases gk with
             | zero => exact absurd HA.out (by simp [capstanlaw07_MethodZeros.l5])
             | succ k2 =>
              have H := HA.out
              clear HA
              simp only [capstanlaw07_MethodZeros.l5] at H
              by_cases c106 : x10_2 < (l1.length : Int)
              ·
               rw [if_pos c106] at H
               have c106b0 : decide (x10_2 < (l1.length : Int)) = true := decide_eq_true c106
               clear c106
               by_cases c107 : 0 ≤ x10_2
               ·
                rw [if_pos c107] at H
                have c107b0 : decide (0 ≤ x10_2) = true := decide_eq_true c107
                clear c107
                by_cases c108 : x9_2.length < 140737488355328
                ·
                 rw [if_pos c108] at H
                 have LMc108 := Aside0.mk c108
                 clear c108
                 obtain ⟨y308, hy308⟩ : ∃ y_ : List Int, y_ = (x9_2 ++ [(rd_T47 l1 x10_2).f0]) := ⟨_, rfl⟩
                 replace H : (capstanlaw07_MethodZeros.l5 k2 t262 l1 y308 (wrap64 (x10_2 + 1)) l0_0 l0_1 a0_2 a0_3 a0_4 a0_5 a0_6 l0_7) = some r := by first | (rw [hy308]; with_reducible exact H) | (have H2_ := (Option.bind_some _ _).symm.trans H; rw [hy308]; with_reducible exact H2_) | (have H2_ := (Option.bind_some _ _).symm.trans H; with_reducible exact H2_) | with_reducible exact H | (rw [hy308]; exact H) | exact H
                 have Ny308 := Aside0.mk hy308
                 clear hy308
                 have H' := Aside0.mk H
                 clear H
                 have p307 : 0 ≤ (x10_2 : Int) := of_decide_eq_true (au15)
                 have q307 : x10_2 < (l1.length : Int) := of_decide_eq_true (au15)
                 obtain ⟨ad307, e307, hx307_0, hx307_1, hx307_2⟩ := at_T47 HR1.out x10_2 p307 q307
                 cases e307
                 replace hx307_0 := (HB.out.cell (World.block_lt_of_cell? w _ hx307_0)).trans hx307_0
                 replace hx307_1 := (HB.out.cell (World.block_lt_of_cell? w _ hx307_1)).trans hx307_1
                 replace hx307_2 := (HB.out.cell (World.block_lt_of_cell? w _ hx307_2)).trans hx307_2
                 replace p307 := eq_true p307
                 replace q307 := eq_true q307
                 go_wp2_with (first | ((with_reducible refine gate_builtin (b := .append) (xs := #[.tmp 87, .tmp 93]) rfl ?_); (try (refine gate_guard (by rfl) ?_; dsimp only)); at_builtin; refine Kd.R_append (Kd.int .u8) (w0 := w) w.heap.size rfl (.tmp 87) (.tmp 93) 22 5 (.int .u8 0) 1 rfl Try.underlying22 info5 rfl (by decide) (by omega) u9 x9_2 ((rd_T47 l1 x10_2).f0) [.int .u8 ((rd_T47 l1 x10_2).f0)] (fun _ => True) (fun _ => False) rfl rfl ?aP (fun _ hk => hk.elim) ?aF ?aO ?aB ?aS ?aL ?_; (case aP => exact rfl); (case aB => exact (au2)); (case aF => exact (fun _ _ => trivial)); (case aO => exact (au12)); (case aS => exact (below_size (au2))); (case aL => have := LMc108.out; omega); intro v309 w109 ho hb hg hat; rw [← Ny308.out] at ho; have n0_ := Aside0.mk (Kd.R_over' (au5) (Kd.R_typed (au12)) (by decide) hg); have n1_ := Aside0.mk (blk_grown (g := gb259) (o := .cells #[.slice A0_0 l0_0.length c0_0, .slice A0_1 l0_1.length c0_1, .int .u8 a0_2, .bool a0_3, .int .i64 a0_4, .int .i64 a0_5, .int .i64 a0_6, .slice A0_7 l0_7.length c0_7] 25 (0, 0)) (au4) hg (Kd.R_ne HO_9.out BK259.out (by decide))); have n2_ := Aside0.mk (hb); have n3_ := Aside0.mk (ho); clear HO_5; clear BK259; clear HB; clear HO_9; have HO_5 := n0_; have BK259 := n1_; have HB := n2_; have HO310 := n3_; clear n0_ n1_ n2_ n3_; clear ho hb hg hat))
                 go_roundg k2
                 case measure => have := HK1.out; have := HK2.out; omega
                 case rel => exact ⟨(y308), (wrap64 (x10_2 + 1)), (au21), H', ⟨by have := HK1.out; have := HK2.out; omega⟩, ⟨au5⟩, ⟨by (with_reducible repeat (first | apply Kd.R_alloc | apply Kd.R_drewN | apply Kd.R_drew)); first | exact HO310.out | exact Kd.R_mono (HO310.out) (fun _ h_ => h_.2)⟩, ⟨au4⟩, ⟨au2⟩⟩
                ·
                 rw [if_neg c108] at H
                 exact absurd H (by simp)
               ·
                rw [if_neg c107] at H
                exact absurd H (by simp)
              ·
               rw [if_neg c106] at H
               have c106b0 : decide (x10_2 < (l1.length : Int)) = false := decide_eq_false c106
               clear c106
               have H' := Aside0.mk H
               clear H
               go_wp2
               go_loopg [9, 11] k2 (fun kq v9 v11 w' => ∃ (x9_3 : List Int) (x11_3 : Int), v11 = .int .i64 x11_3 ∧ Aside0 (capstanlaw07_MethodZeros.l6 kq t262 x9_3 x11_3 l0_0 l0_1 a0_2 a0_3 a0_4 a0_5 a0_6 l0_7 = some r) ∧ Aside0 (kq ≤ k2) ∧ Aside0 (Kd.R k47 47 w' w.heap.size (fun _ => True) v263 t262) ∧ Aside0 (Kd.R (Kd.int .u8) 5 w' w.heap.size (fun _ => True) v9 x9_3) ∧ Aside0 (w'.heap[gb259]? = some (.cells #[(.slice A0_0 l0_0.length c0_0), (.slice A0_1 l0_1.length c0_1), .int .u8 a0_2, .bool a0_3, .int .i64 a0_4, .int .i64 a0_5, .int .i64 a0_6, (.slice A0_7 l0_7.length c0_7)] 25 (0, 0))) ∧ Aside0 (Below w.heap.size w w'))
               case atStart => exact ⟨(x9_2), (0), (au21), H', ⟨Nat.le_refl _⟩, ⟨au5⟩, ⟨au12⟩, ⟨au4⟩, ⟨au2⟩⟩
               case round =>
                clear H'
                try clear c1
                try clear c2
                try clear p2
                try clear q2
                try clear hx2
                try clear c3
                try clear p3
                try clear q3
                try clear hx3
                try clear c4
                try clear q4
                try clear c5
                try clear c6
                try clear p6
                try clear c7
                try clear q7
                try clear c8
                try clear c9
                try clear c10
                try clear c18
                try clear c22
                try clear c25
                try clear p26
                try clear q26
                try clear hx26
                try clear p27
                try clear q27
                try clear hx27
                try clear c28
                try clear c28b0
                try clear p28
                try clear q28
                try clear hx28
                try clear c29
                try clear c29b0
                try clear p29
                try clear q29
                try clear hx29
                try clear c30
                try clear p30
                try clear q30
                try clear hx30
                try clear c34
                try clear c35
                try clear c35b0
                try clear c35b1
                try clear c36
                try clear c36b0
                try clear c36b1
                try clear c38
                try clear c40
                try clear c46
                try clear q46
                try clear c50
                try clear c50b0
                try clear c51
                try clear c51b0
                try clear c52
                try clear c54
                try clear c54b0
                try clear c55
                try clear c55b0
                try clear c56
                try clear c57
                try clear c57b0
                try clear c57b1
                try clear c58
                try clear c58b0
                try clear c58b1
                try clear c63
                try clear p64
                try clear c74
                try clear q74
                try clear c78
                try clear c78b0
                try clear c79
                try clear c79b0
                try clear c80
                try clear c82
                try clear c82b0
                try clear c83
                try clear c83b0
                try clear c84
                try clear c85
                try clear c85b0
                try clear c85b1
                try clear c86
                try clear c86b0
                try clear c86b1
                try clear c91
                try clear c98
                try clear c106
                try clear c106b0
                try clear c107
                try clear c107b0
                try clear c108
                try clear hcz104_0
                try clear hcz104_1
                try clear hcz104_2
                try clear hcz104_3
                try clear hcz104_4
                try clear hcz104_5
                try clear hcz104_6
                try clear hcz104_7
                try clear hcz14_0
                try clear hcz14_1
                try clear hcz14_2
                try clear hcz14_3
                try clear hcz14_4
                try clear hcz14_5
                try clear hcz14_6
                try clear hcz14_7
                try clear hcz22_0
                try clear hcz22_1
                try clear hcz22_2
                try clear hcz22_3
                try clear hcz22_4
                try clear hcz22_5
                try clear hcz22_6
                try clear hcz22_7
                try clear hcz24_0
                try clear hcz24_1
                try clear hcz24_2
                try clear hcz24_3
                try clear hcz24_4
                try clear hcz24_5
                try clear hcz24_6
                try clear hcz24_7
                try clear hcz26_0
                try clear hcz26_1
                try clear hcz26_2
                try clear hcz26_3
                try clear hcz26_4
                try clear hcz26_5
                try clear hcz26_6
                try clear hcz26_7
                try clear hcz31_0
                try clear hcz31_1
                try clear hcz31_2
                try clear hcz31_3
                try clear hcz31_4
                try clear hcz31_5
                try clear hcz31_6
                try clear hcz31_7
                try clear hcz41_0
                try clear hcz41_1
                try clear hcz41_2
                try clear hcz41_3
                try clear hcz41_4
                try clear hcz41_5
                try clear hcz41_6
                try clear hcz41_7
                try clear hcz48_0
                try clear hcz48_1
                try clear hcz48_2
                try clear hcz48_3
                try clear hcz48_4
                try clear hcz48_5
                try clear hcz48_6
                try clear hcz48_7
                try clear hcz65_0
                try clear hcz65_1
                try clear hcz65_2
                try clear hcz65_3
                try clear hcz65_4
                try clear hcz65_5
                try clear hcz65_6
                try clear hcz65_7
                try clear hcz69_0
                try clear hcz69_1
                try clear hcz69_2
                try clear hcz69_3
                try clear hcz69_4
                try clear hcz69_5
                try clear hcz69_6
                try clear hcz69_7
                try clear hcz76_0
                try clear hcz76_1
                try clear hcz76_2
                try clear hcz76_3
                try clear hcz76_4
                try clear hcz76_5
                try clear hcz76_6
                try clear hcz76_7
                try clear hcz93_0
                try clear hcz93_1
                try clear hcz93_2
                try clear hcz93_3
                try clear hcz93_4
                try clear hcz93_5
                try clear hcz93_6
                try clear hcz93_7
                try clear hcz99_0
                try clear hcz99_1
                try clear hcz99_2
                try clear hcz99_3
                try clear hcz99_4
                try clear hcz99_5
                try clear hcz99_6
                try clear hcz99_7
                try clear hcz9_0
                try clear hcz9_1
                try clear hcz9_2
                try clear hcz9_3
                try clear hcz9_4
                try clear hcz9_5
                try clear hcz9_6
                try clear hcz9_7
                try clear hfz104_0
                try clear hfz104_1
                try clear hfz104_2
                try clear hfz104_3
                try clear hfz104_4
                try clear hfz104_5
                try clear hfz104_6
                try clear hfz104_7
                try clear hfz14_0
                try clear hfz14_1
                try clear hfz14_2
                try clear hfz14_3
                try clear hfz14_4
                try clear hfz14_5
                try clear hfz14_6
                try clear hfz14_7
                try clear hfz22_0
                try clear hfz22_1
                try clear hfz22_2
                try clear hfz22_3
                try clear hfz22_4
                try clear hfz22_5
                try clear hfz22_6
                try clear hfz22_7
                try clear hfz24_0
                try clear hfz24_1
                try clear hfz24_2
                try clear hfz24_3
                try clear hfz24_4
                try clear hfz24_5
                try clear hfz24_6
                try clear hfz24_7
                try clear hfz26_0
                try clear hfz26_1
                try clear hfz26_2
                try clear hfz26_3
                try clear hfz26_4
                try clear hfz26_5
                try clear hfz26_6
                try clear hfz26_7
                try clear hfz31_0
                try clear hfz31_1
                try clear hfz31_2
                try clear hfz31_3
                try clear hfz31_4
                try clear hfz31_5
                try clear hfz31_6
                try clear hfz31_7
                try clear hfz41_0
                try clear hfz41_1
                try clear hfz41_2
                try clear hfz41_3
                try clear hfz41_4
                try clear hfz41_5
                try clear hfz41_6
                try clear hfz41_7
                try clear hfz48_0
                try clear hfz48_1
                try clear hfz48_2
                try clear hfz48_3
                try clear hfz48_4
                try clear hfz48_5
                try clear hfz48_6
                try clear hfz48_7
                try clear hfz65_0
                try clear hfz65_1
                try clear hfz65_2
                try clear hfz65_3
                try clear hfz65_4
                try clear hfz65_5
                try clear hfz65_6
                try clear hfz65_7
                try clear hfz69_0
                try clear hfz69_1
                try clear hfz69_2
                try clear hfz69_3
                try clear hfz69_4
                try clear hfz69_5
                try clear hfz69_6
                try clear hfz69_7
                try clear hfz76_0
                try clear hfz76_1
                try clear hfz76_2
                try clear hfz76_3
                try clear hfz76_4
                try clear hfz76_5
                try clear hfz76_6
                try clear hfz76_7
                try clear hfz93_0
                try clear hfz93_1
                try clear hfz93_2
                try clear hfz93_3
                try clear hfz93_4
                try clear hfz93_5
                try clear hfz93_6
                try clear hfz93_7
                try clear hfz99_0
                try clear hfz99_1
                try clear hfz99_2
                try clear hfz99_3
                try clear hfz99_4
                try clear hfz99_5
                try clear hfz99_6
                try clear hfz99_7
                try clear hfz9_0
                try clear hfz9_1
                try clear hfz9_2
                try clear hfz9_3
                try clear hfz9_4
                try clear hfz9_5
                try clear hfz9_6
                try clear hfz9_7
                try clear hx267_0
                try clear hx278_0
                try clear hx278_1
                try clear hx278_2
                try clear hx282_0
                try clear hx282_1
                try clear hx282_2
                try clear hx286_0
                try clear hx286_1
                try clear hx286_2
                try clear hx287_0
                try clear hx287_1
                try clear hx287_2
                try clear hx292_0
                try clear hx292_1
                try clear hx292_2
                try clear hx296_0
                try clear hx296_1
                try clear hx296_2
                try clear hx300_0
                try clear hx300_1
                try clear hx300_2
                try clear hx301_0
                try clear hx301_1
                try clear hx301_2
                try clear hx307_0
                try clear hx307_1
                try clear hx307_2
                try clear p2
                try clear p26
                try clear p267
                try clear p27
                try clear p278
                try clear p28
                try clear p282
                try clear p286
                try clear p287
                try clear p29
                try clear p292
                try clear p296
                try clear p3
                try clear p30
                try clear p300
                try clear p301
                try clear p307
                try clear p6
                try clear p64
                try clear q2
                try clear q26
                try clear q267
                try clear q27
                try clear q278
                try clear q28
                try clear q282
                try clear q286
                try clear q287
                try clear q29
                try clear q292
                try clear q296
                try clear q3
                try clear q30
                try clear q300
                try clear q301
                try clear q307
                try clear q4
                try clear q46
                try clear q7
                try clear q74
                obtain ⟨x9_3, x11_3, rfl, HA, HK3, HO_5, HO_9, BK259, HB⟩ := hrel
                cases gk with
                | zero => exact absurd HA.out (by simp [capstanlaw07_MethodZeros.l6])
                | succ k3 =>
                 have H := HA.out
                 clear HA
                 simp only [capstanlaw07_MethodZeros.l6] at H
                 by_cases c110 : x11_3 < (t262.length : Int)
                 ·
                  rw [if_pos c110] at H
                  have c110b0 : decide (x11_3 < (t262.length : Int)) = true := decide_eq_true c110
                  clear c110
                  by_cases c111 : 0 ≤ x11_3
                  ·
                   rw [if_pos c111] at H
                   have c111b0 : decide (0 ≤ x11_3) = true := decide_eq_true c111
                   clear c111
                   by_cases c112 : x9_3.length < 140737488355328
                   ·
                    rw [if_pos c112] at H
                    have LMc112 := Aside0.mk c112
                    clear c112
                    obtain ⟨y312, hy312⟩ : ∃ y_ : List Int, y_ = (x9_3 ++ [(rd_T47 t262 x11_3).f0]) := ⟨_, rfl⟩
                    replace H : (if ((rd_T47 t262 x11_3).f1) = 0 then (if ((rd_T47 t262 x11_3).f2) = 0 then (capstanlaw07_MethodZeros.l6 k3 t262 y312 (wrap64 (x11_3 + 1)) l0_0 l0_1 a0_2 a0_3 a0_4 a0_5 a0_6 l0_7) else (none)) else (none)) = some r := by first | (rw [hy312]; with_reducible exact H) | (have H2_ := (Option.bind_some _ _).symm.trans H; rw [hy312]; with_reducible exact H2_) | (have H2_ := (Option.bind_some _ _).symm.trans H; with_reducible exact H2_) | with_reducible exact H | (rw [hy312]; exact H) | exact H
                    have Ny312 := Aside0.mk hy312
                    clear hy312
                    by_cases c113 : ((rd_T47 t262 x11_3).f1) = 0
                    ·
                     rw [if_pos c113] at H
                     have c113b0 : (((rd_T47 t262 x11_3).f1) == 0) = true := beq_iff_eq.mpr c113
                     have c113b1 : (((rd_T47 t262 x11_3).f1) != 0) = false := bne_eq_false_iff_eq.mpr c113
                     clear c113
                     by_cases c114 : ((rd_T47 t262 x11_3).f2) = 0
                     ·
                      rw [if_pos c114] at H
                      have c114b0 : (((rd_T47 t262 x11_3).f2) == 0) = true := beq_iff_eq.mpr c114
                      have c114b1 : (((rd_T47 t262 x11_3).f2) != 0) = false := bne_eq_false_iff_eq.mpr c114
                      clear c114
                      have H' := Aside0.mk H
                      clear H
                      obtain ⟨Ao115, co115, eo115⟩ := Kd.R_slice HO_5.out
                      subst eo115
                      have p311 : 0 ≤ (x11_3 : Int) := of_decide_eq_true (au15)
                      have q311 : x11_3 < (t262.length : Int) := of_decide_eq_true (au15)
                      obtain ⟨ad311, e311, hx311_0, hx311_1, hx311_2⟩ := at_T47 (Kd.R_reads' HO_5.out).2.2 x11_3 p311 q311
                      cases e311
                      replace p311 := eq_true p311
                      replace q311 := eq_true q311
                      go_wp2_with (first | ((with_reducible refine gate_builtin (b := .append) (xs := #[.tmp 101, .tmp 107]) rfl ?_); (try (refine gate_guard (by rfl) ?_; dsimp only)); at_builtin; refine Kd.R_append (Kd.int .u8) (w0 := w) w.heap.size rfl (.tmp 101) (.tmp 107) 22 5 (.int .u8 0) 1 rfl Try.underlying22 info5 rfl (by decide) (by omega) u9 x9_3 ((rd_T47 t262 x11_3).f0) [.int .u8 ((rd_T47 t262 x11_3).f0)] (fun _ => True) (fun _ => False) rfl rfl ?aP (fun _ hk => hk.elim) ?aF ?aO ?aB ?aS ?aL ?_; (case aP => exact rfl); (case aB => exact (au2)); (case aF => exact (fun _ _ => trivial)); (case aO => exact (au12)); (case aS => exact (below_size (au2))); (case aL => have := LMc112.out; omega); intro v313 w116 ho hb hg hat; rw [← Ny312.out] at ho; have n0_ := Aside0.mk (Kd.R_over' (au5) (Kd.R_typed (au12)) (by decide) hg); have n1_ := Aside0.mk (blk_grown (g := gb259) (o := .cells #[.slice A0_0 l0_0.length c0_0, .slice A0_1 l0_1.length c0_1, .int .u8 a0_2, .bool a0_3, .int .i64 a0_4, .int .i64 a0_5, .int .i64 a0_6, .slice A0_7 l0_7.length c0_7] 25 (0, 0)) (au4) hg (Kd.R_ne HO_9.out BK259.out (by decide))); have n2_ := Aside0.mk (hb); have n3_ := Aside0.mk (ho); clear HO_5; clear BK259; clear HB; clear HO_9; have HO_5 := n0_; have BK259 := n1_; have HB := n2_; have HO314 := n3_; clear n0_ n1_ n2_ n3_; clear ho hb hg hat; have p315 : 0 ≤ (x11_3 : Int) := of_decide_eq_true (au15); have q315 : x11_3 < (t262.length : Int) := of_decide_eq_true (au15); obtain ⟨ad315, e315, hx315_0, hx315_1, hx315_2⟩ := at_T47 (Kd.R_reads' HO_5.out).2.2 x11_3 p315 q315; obtain rfl : ad311 = ad315 := (by injection e315); replace p315 := eq_true p315; replace q315 := eq_true q315; have p316 : 0 ≤ (x11_3 : Int) := of_decide_eq_true (au15); have q316 : x11_3 < (t262.length : Int) := of_decide_eq_true (au15); obtain ⟨ad316, e316, hx316_0, hx316_1, hx316_2⟩ := at_T47 (Kd.R_reads' HO_5.out).2.2 x11_3 p316 q316; obtain rfl : ad311 = ad316 := (by injection e316); replace p316 := eq_true p316; replace q316 := eq_true q316))
                      go_roundg k3
                      case measure => have := HK1.out; have := HK2.out; have := HK3.out; omega
                      case rel => exact ⟨(y312), (wrap64 (x11_3 + 1)), (au21), H', ⟨by have := HK1.out; have := HK2.out; have := HK3.out; omega⟩, ⟨au5⟩, ⟨by (with_reducible repeat (first | apply Kd.R_alloc | apply Kd.R_drewN | apply Kd.R_drew)); first | exact HO314.out | exact Kd.R_mono (HO314.out) (fun _ h_ => h_.2)⟩, ⟨au4⟩, ⟨au2⟩⟩
                     ·
                      rw [if_neg c114] at H
                      exact absurd H (by simp)
                    ·
                     rw [if_neg c113] at H
                     exact absurd H (by simp)
                   ·
                    rw [if_neg c112] at H
                    exact absurd H (by simp)
                  ·
                   rw [if_neg c111] at H
                   exact absurd H (by simp)
                 ·
                  rw [if_neg c110] at H
                  have c110b0 : decide (x11_3 < (t262.length : Int)) = false := decide_eq_false c110
                  clear c110
                  replace H := Option.bind_eq_some_iff.mp H
                  obtain ⟨t317, A1170, H⟩ := H
                  replace H : ((capstanref07_SameKinds.f k3 x9_3 t317).bind fun t320 => (if t320 = true then (some (decide ((x9_3.length : Int) ≤ 16))) else (none))) = some r := H
                  have A117 := Aside0.mk A1170
                  clear A1170
                  replace H := Option.bind_eq_some_iff.mp H
                  obtain ⟨t320, A1180, H⟩ := H
                  replace H : (if t320 = true then (some (decide ((x9_3.length : Int) ≤ 16))) else (none)) = some r := H
                  have A118 := Aside0.mk A1180
                  clear A1180
                  by_cases c119 : t320 = true
                  ·
                   subst c119
                   have H1 : (some (decide ((x9_3.length : Int) ≤ 16))) = some r := by rw [if_pos rfl] at H; exact H
                   clear H
                   have H := H1
                   clear H1
                   obtain rfl := Option.some.inj H
                   obtain ⟨Ao120, co120, eo120⟩ := Kd.R_slice HO_5.out
                   subst eo120
                   obtain ⟨hcz121_0, hcz121_1, hcz121_2, hcz121_3, hcz121_4, hcz121_5, hcz121_6, hcz121_7, hfz121_0, hfz121_1, hfz121_2, hfz121_3, hfz121_4, hfz121_5, hfz121_6, hfz121_7⟩ := blk_all8 BK259.out
                   go_wp2_with (first | ((with_reducible refine gate_callee (f := 22) rfl ?_); refine goesL_ (some 125) rfl rfl Try.func22 (by kernel_rfl) rfl #[.agg #[.slice A0_0 l0_0.length c0_0, .slice A0_1 l0_1.length c0_1, .int .u8 a0_2, .bool a0_3, .int .i64 a0_4, .int .i64 a0_5, .int .i64 a0_6, .slice A0_7 l0_7.length c0_7]] rfl (au3) ?_; (with_reducible refine (method_Kinds.calls k3 (fun k_ => k_ < w.heap.size) _ _ l0_0 (fun k_ => k_ < w.heap.size) _ _ l0_1 a0_2 a0_3 a0_4 a0_5 a0_6 _ _ l0_7 t317 _ ?side1 ?side2 ?side3 ?side4 A117.out).mono ?_); (case side1 => exact Kd.V_mk HC0_0.out (Kd.F_below (Kd.C_F (Kd.heap_int .u8) HR0_0.out) (au2))); (case side2 => exact Kd.V_mk HC0_1.out (Kd.F_below (Kd.C_F (Kd.heap_int .u8) HR0_1.out) (au2))); (case side3 => exact au8); (case side4 => exact HC0_7.out); rintro e w122 ⟨v318, rfl, ho0, hb⟩; refine ⟨_, rfl, ?_⟩; have n0_ := Aside0.mk (Kd.R_below (au5) hb); have n1_ := Aside0.mk (Kd.R_elder' (au12) (Kd.R_base ho0) hb); have n2_ := Aside0.mk (Kd.R_lower (Kd.R_new' (Kd.R_mono (ok' := fun k_ => True) ho0 (fun _ hk_ => trivial)) (Kd.R_lt (au12))) (below_size (au2))); have n3_ := Aside0.mk (blk_below (g := gb259) (o := .cells #[.slice A0_0 l0_0.length c0_0, .slice A0_1 l0_1.length c0_1, .int .u8 a0_2, .bool a0_3, .int .i64 a0_4, .int .i64 a0_5, .int .i64 a0_6, .slice A0_7 l0_7.length c0_7] 25 (0, 0)) (au4) hb); have n4_ := Aside0.mk (below_step (au2) hb); clear HO_5; clear HO_9; clear BK259; clear HB; have HO_5 := n0_; have HO_9 := n1_; have HO319 := n2_; have BK259 := n3_; have HB := n4_; clear n0_ n1_ n2_ n3_ n4_; (try clear hb); (try clear hb2); (try clear hk); (try clear hi); (try clear ho0); obtain ⟨Ao123, co123, eo123⟩ := Kd.R_slice HO_9.out; subst eo123; obtain ⟨Ao124, co124, eo124⟩ := Kd.R_slice HO319.out; subst eo124) | ((with_reducible refine gate_callee (f := 25) rfl ?_); refine goesL_ (some 126) rfl rfl Try.func25 (by kernel_rfl) rfl #[.slice Ao123 x9_3.length co123, .slice Ao124 t317.length co124] rfl (au3) ?_; (with_reducible refine (capstanref07_SameKinds.calls k3 _ _ x9_3 _ _ t317 true _ ?side1 ?side2 ?side3 ?side4 A118.out).mono ?_); (case side1 => exact au67); (case side2 => exact (Kd.R_reads' HO_9.out).2.1); (case side3 => repeat (first | exact (Kd.R_reads' HO319.out).2.2 | (with_reducible refine Kd.C_alloc ?_ _) | (with_reducible refine Kd.C_drewN ?_ _) | (with_reducible refine Kd.C_drew ?_))); (case side4 => exact (Kd.R_reads' HO319.out).2.1); rintro e w' ⟨rfl, ⟨nd, rfl⟩⟩; refine ⟨_, rfl, ?_⟩))
                   go_ret
                   exact ⟨au13, au2⟩
                  ·
                   replace c119 := Bool.eq_false_iff.mpr c119
                   subst c119
                   have H1 : (none) = some r := by rw [if_neg (show ¬ (false = true) by decide)] at H; exact H
                   clear H
                   have H := H1
                   clear H1
                   exact absurd H (by simp)
           ·
            replace c98 := Bool.eq_false_iff.mpr c98
            subst c98
            have H1 : (capstanlaw07_MethodZeros.l7 k1 t262 x7_1 ([] : List Int) 0 l0_0 l0_1 a0_2 a0_3 a0_4 a0_5 a0_6 l0_7) = some r := by rw [if_neg (show ¬ (false = true) by decide)] at H; exact H
            clear H
            have H := H1
            clear H1
            have H' := Aside0.mk H
            clear H
            obtain ⟨hcz125_0, hcz125_1, hcz125_2, hcz125_3, hcz125_4, hcz125_5, hcz125_6, hcz125_7, hfz125_0, hfz125_1, hfz125_2, hfz125_3, hfz125_4, hfz125_5, hfz125_6, hfz125_7⟩ := blk_all8 BK259.out
            try go_wp2
            (try (rw [drewN_self wr]; generalize hq_ : World.drewN wr _ = wr; have n0_ : Aside0 (Kd.R k47 47 wr w.heap.size (fun k_ => some k_ ≠ (u7 : Value).ownBlock) v263 t262) := ⟨by rw [← hq_]; exact (au5)⟩; have n1_ : Aside0 (Kd.R k47 47 wr w.heap.size (fun k_ => some k_ ≠ (v263 : Value).ownBlock) u7 x7_1) := ⟨by rw [← hq_]; exact (au17)⟩; have n2_ : Aside0 (wr.heap[gb259]? = some (.cells #[.slice A0_0 l0_0.length c0_0, .slice A0_1 l0_1.length c0_1, .int .u8 a0_2, .bool a0_3, .int .i64 a0_4, .int .i64 a0_5, .int .i64 a0_6, .slice A0_7 l0_7.length c0_7] 25 (0, 0))) := ⟨by rw [← hq_]; exact (au4)⟩; have n3_ : Aside0 (Below w.heap.size w wr) := ⟨by rw [← hq_]; exact (au2)⟩; clear HO_5 HO_7 BK259 HB hq_; have HO_5 := n0_; have HO_7 := n1_; have BK259 := n2_; have HB := n3_; clear n0_ n1_ n2_ n3_))
            (try obtain ⟨hcu126_0, hcu126_1, hcu126_2, hcu126_3, hcu126_4, hcu126_5, hcu126_6, hcu126_7, hfu126_0, hfu126_1, hfu126_2, hfu126_3, hfu126_4, hfu126_5, hfu126_6, hfu126_7⟩ := blk_all8 BK259.out)
            have n0_ := Aside0.mk (Kd.R_drew HO_5.out)
            have n1_ := Aside0.mk (Kd.R_drew HO_7.out)
            have n2_ := Aside0.mk (blk_drew BK259.out)
            have n3_ := Aside0.mk (below_drew1 HB.out)
            clear HO_5
            clear HO_7
            clear BK259
            clear HB
            have HO_5 := n0_
            have HO_7 := n1_
            have BK259 := n2_
            have HB := n3_
            clear n0_ n1_ n2_ n3_
            obtain ⟨Ao128, co128, eo128⟩ := Kd.R_slice HO_7.out
            (first | subst eo128 | (injection eo128 with f1_ f2_ f3_; have f4_ := f1_.symm; have f5_ := f3_.symm; clear f1_ f2_ f3_; subst f4_; subst f5_))
            refine start_ (n := 15) (S := fun w' => w'.cell? ⟨gb259, 0, none⟩ = some (.slice A0_0 l0_0.length c0_0) ∧ w'.cell? ⟨gb259, 1, none⟩ = some (.slice A0_1 l0_1.length c0_1) ∧ w'.cell? ⟨gb259, 2, none⟩ = some (.int .u8 a0_2) ∧ w'.cell? ⟨gb259, 3, none⟩ = some (.bool a0_3) ∧ w'.cell? ⟨gb259, 4, none⟩ = some (.int .i64 a0_4) ∧ w'.cell? ⟨gb259, 5, none⟩ = some (.int .i64 a0_5) ∧ w'.cell? ⟨gb259, 6, none⟩ = some (.int .i64 a0_6) ∧ w'.cell? ⟨gb259, 7, none⟩ = some (.slice A0_7 l0_7.length c0_7)) (ds := []) #[false, false, false, false, false, false, false, false, false, false, false, false, false, false, false] (by kernel_rfl) rfl rfl ⟨(blk_cell BK259.out 0).trans rfl, (blk_cell BK259.out 1).trans rfl, (blk_cell BK259.out 2).trans rfl, (blk_cell BK259.out 3).trans rfl, (blk_cell BK259.out 4).trans rfl, (blk_cell BK259.out 5).trans rfl, (blk_cell BK259.out 6).trans rfl, (blk_cell BK259.out 7).trans rfl⟩ (fun hHeld => ?_); refine with_tabW capstanlaw07_MethodZeros.tab15 capstanlaw07_MethodZeros.bits15 (fun HT_ HW_ => ?_)
            generalize wr.drew = w127 at HO_5 HO_7 BK259 HB hHeld ⊢
            refine pure_ (i := 1) (N := some 63) (v := ?_) (a' := ?_) #[false, true, false, false, false, false, false, false, false, false, false, false, false, false, false] rfl rfl (any_of HT_.out (by kernel_rfl)) (fun _ _ _ h => h) (Or.inl ⟨by rfl, ?_⟩) ?_ ?_
            rotate_left
            ·
             intro w'
             go_simp
             with_reducible rfl
            rotate_left
            ·
             simp only [Act.put, List.setIfInBounds_toArray, List.set_cons_zero, List.set_cons_succ, i64_w, i32_w]
             rfl
            refine take_ (i := 0) (N := some 62) (v := ?_) (a' := ?_) #[true, true, false, false, false, false, false, false, false, false, false, false, false, false, false] rfl rfl (take_ofW HT_.out HW_.out (by kernel_rfl)) (fun _ _ _ h => h) (Or.inl ⟨by rfl, ?_⟩) hHeld ?_ ?_
            rotate_left
            ·
             rintro w' ⟨s0, s1, s2, s3, s4, s5, s6, s7⟩
             go_simp
             with_reducible rfl
            rotate_left
            ·
             simp only [Act.put, List.setIfInBounds_toArray, List.set_cons_zero, List.set_cons_succ, i64_w, i32_w]
             rfl
            refine one_ (i := 2) (N := some 64) #[true, true, true, false, false, false, false, false, false, false, false, false, false, false, false] rfl rfl (one_of HT_.out (by kernel_rfl)) (by decide) (fun K hK => ?_)
            refine goes_ Try.func18 (by kernel_rfl) rfl #[.agg #[.slice A0_0 l0_0.length c0_0, .slice A0_1 l0_1.length c0_1, .int .u8 a0_2, .bool a0_3, .int .i64 a0_4, .int .i64 a0_5, .int .i64 a0_6, .slice A0_7 l0_7.length c0_7], .slice Ao128 x7_1.length co128] (by rfl) rfl rfl (au3) ?_
            with_reducible refine (method_Fits.calls k1 _ _ l0_0 _ _ l0_1 a0_2 a0_3 a0_4 a0_5 a0_6 _ _ l0_7 _ _ x7_1 true _ ?side1 ?side2 ?side3 ?side4 ?side5 ?side6 ?side7 ?side8 A33.out).mono ?_
            (case side1 => exact au6)
            (case side2 => exact HC0_0.out)
            (case side3 => exact au11)
            (case side4 => exact HC0_1.out)
            (case side5 => exact au8)
            (case side6 => exact HC0_7.out)
            (case side7 => exact au66)
            (case side8 => exact (Kd.R_reads' HO_7.out).2.1)
            rintro e w129 ⟨rfl, hb⟩
            refine ⟨_, rfl, ?_⟩
            have n0_ := Aside0.mk (Kd.R_below (au5) hb)
            have n1_ := Aside0.mk (Kd.R_below (au17) hb)
            have n2_ := Aside0.mk (blk_below (g := gb259) (o := .cells #[.slice A0_0 l0_0.length c0_0, .slice A0_1 l0_1.length c0_1, .int .u8 a0_2, .bool a0_3, .int .i64 a0_4, .int .i64 a0_5, .int .i64 a0_6, .slice A0_7 l0_7.length c0_7] 25 (0, 0)) (au4) hb)
            have n3_ := Aside0.mk (below_step (au2) hb)
            clear HO_5
            clear HO_7
            clear BK259
            clear HB
            have HO_5 := n0_
            have HO_7 := n1_
            have BK259 := n2_
            have HB := n3_
            clear n0_ n1_ n2_ n3_
            (try clear hb)
            (try clear hb2)
            (try clear hk)
            (try clear hi)
            refine hK.out _ _ ⟨(blk_cell BK259.out 0).trans rfl, (blk_cell BK259.out 1).trans rfl, (blk_cell BK259.out 2).trans rfl, (blk_cell BK259.out 3).trans rfl, (blk_cell BK259.out 4).trans rfl, (blk_cell BK259.out 5).trans rfl, (blk_cell BK259.out 6).trans rfl, (blk_cell BK259.out 7).trans rfl⟩ (fun hHeld => ?_)
            clear hK K
            refine norm_ (a' := ?_) ?_ ?_
            rotate_left
            ·
             show Act.put _ (some 64) _ = _
             simp only [Act.put, List.setIfInBounds_toArray, List.set_cons_zero, List.set_cons_succ, i64_w, i32_w]
             rfl
            refine pure_ (i := 3) (N := some 65) (v := ?_) (a' := ?_) #[true, true, true, true, false, false, false, false, false, false, false, false, false, false, false] rfl rfl (any_of HT_.out (by kernel_rfl)) (fun _ _ _ h => h) (Or.inl ⟨by rfl, ?_⟩) ?_ ?_
            rotate_left
            ·
             intro w'
             go_simp
             with_reducible rfl
            rotate_left
            ·
             simp only [Act.put, List.setIfInBounds_toArray, List.set_cons_zero, List.set_cons_succ, i64_w, i32_w]
             rfl
            refine pure_ (i := 4) (N := some 66) (v := ?_) (a' := ?_) #[true, true, true, true, true, false, false, false, false, false, false, false, false, false, false] rfl rfl (any_of HT_.out (by kernel_rfl)) (fun _ _ _ h => h) (Or.inl ⟨by rfl, ?_⟩) ?_ ?_
            rotate_left
            ·
             intro w'
             go_simp
             with_reducible rfl
            rotate_left
            ·
             simp only [Act.put, List.setIfInBounds_toArray, List.set_cons_zero, List.set_cons_succ, i64_w, i32_w]
             rfl
            refine pure_ (i := 5) (N := some 67) (v := ?_) (a' := ?_) #[true, true, true, true, true, true, false, false, false, false, false, false, false, false, false] rfl rfl (any_of HT_.out (by kernel_rfl)) (fun _ _ _ h => h) (Or.inl ⟨by rfl, ?_⟩) ?_ ?_
            rotate_left
            ·
             intro w'
             go_simp
             with_reducible rfl
            rotate_left
            ·
             simp only [Act.put, List.setIfInBounds_toArray, List.set_cons_zero, List.set_cons_succ, i64_w, i32_w]
             rfl
            refine pure_ (i := 6) (N := some 68) (v := ?_) (a' := ?_) #[true, true, true, true, true, true, true, false, false, false, false, false, false, false, false] rfl rfl (any_of HT_.out (by kernel_rfl)) (fun _ _ _ h => h) (Or.inl ⟨by rfl, ?_⟩) ?_ ?_
            rotate_left
            ·
             intro w'
             go_simp
             with_reducible rfl
            rotate_left
            ·
             simp only [Act.put, List.setIfInBounds_toArray, List.set_cons_zero, List.set_cons_succ, i64_w, i32_w]
             rfl
            refine pure_ (i := 7) (N := some 69) (v := ?_) (a' := ?_) #[true, true, true, true, true, true, true, true, false, false, false, false, false, false, false] rfl rfl (any_of HT_.out (by kernel_rfl)) (fun _ _ _ h => h) (Or.inl ⟨by rfl, ?_⟩) ?_ ?_
            rotate_left
            ·
             intro w'
             go_simp
             with_reducible rfl
            rotate_left
            ·
             simp only [Act.put, List.setIfInBounds_toArray, List.set_cons_zero, List.set_cons_succ, i64_w, i32_w]
             rfl
            refine pure_ (i := 8) (N := some 70) (v := ?_) (a' := ?_) #[true, true, true, true, true, true, true, true, true, false, false, false, false, false, false] rfl rfl (any_of HT_.out (by kernel_rfl)) (fun _ _ _ h => h) (Or.inl ⟨by rfl, ?_⟩) ?_ ?_
            rotate_left
            ·
             intro w'
             go_simp
             with_reducible rfl
            rotate_left
            ·
             simp only [Act.put, List.setIfInBounds_toArray, List.set_cons_zero, List.set_cons_succ, i64_w, i32_w]
             rfl
            refine pure_ (i := 9) (N := some 71) (v := undef) (a' := ?_) #[true, true, true, true, true, true, true, true, true, true, false, false, false, false, false] rfl rfl (any_of HT_.out (by kernel_rfl)) (fun _ _ _ h => h) (Or.inr ⟨by rfl, rfl⟩) ?_ ?_
            rotate_left
            ·
             simp only [Act.put, List.setIfInBounds_toArray, List.set_cons_zero, List.set_cons_succ, i64_w, i32_w]
             rfl
            refine pure_ (i := 10) (N := some 72) (v := undef) (a' := ?_) #[true, true, true, true, true, true, true, true, true, true, true, false, false, false, false] rfl rfl (any_of HT_.out (by kernel_rfl)) (fun _ _ _ h => h) (Or.inr ⟨by rfl, rfl⟩) ?_ ?_
            rotate_left
            ·
             simp only [Act.put, List.setIfInBounds_toArray, List.set_cons_zero, List.set_cons_succ, i64_w, i32_w]
             rfl
            refine pure_ (i := 11) (N := some 73) (v := undef) (a' := ?_) #[true, true, true, true, true, true, true, true, true, true, true, true, false, false, false] rfl rfl (any_of HT_.out (by kernel_rfl)) (fun _ _ _ h => h) (Or.inr ⟨by rfl, rfl⟩) ?_ ?_
            rotate_left
            ·
             simp only [Act.put, List.setIfInBounds_toArray, List.set_cons_zero, List.set_cons_succ, i64_w, i32_w]
             rfl
            refine pure_ (i := 12) (N := some 74) (v := undef) (a' := ?_) #[true, true, true, true, true, true, true, true, true, true, true, true, true, false, false] rfl rfl (any_of HT_.out (by kernel_rfl)) (fun _ _ _ h => h) (Or.inr ⟨by rfl, rfl⟩) ?_ ?_
            rotate_left
            ·
             simp only [Act.put, List.setIfInBounds_toArray, List.set_cons_zero, List.set_cons_succ, i64_w, i32_w]
             rfl
            refine pure_ (i := 13) (N := some 75) (v := ?_) (a' := ?_) #[true, true, true, true, true, true, true, true, true, true, true, true, true, true, false] rfl rfl (any_of HT_.out (by kernel_rfl)) (fun _ _ _ h => h) (Or.inl ⟨by rfl, ?_⟩) ?_ ?_
            rotate_left
            ·
             intro w'
             go_simp
             with_reducible rfl
            rotate_left
            ·
             simp only [Act.put, List.setIfInBounds_toArray, List.set_cons_zero, List.set_cons_succ, i64_w, i32_w]
             rfl
            refine pure_ (i := 14) (N := some 76) (v := ?_) (a' := ?_) #[true, true, true, true, true, true, true, true, true, true, true, true, true, true, true] rfl rfl (any_of HT_.out (by kernel_rfl)) (fun _ _ _ h => h) (Or.inl ⟨by rfl, ?_⟩) ?_ ?_
            rotate_left
            ·
             intro w'
             go_simp
             with_reducible rfl
            rotate_left
            ·
             simp only [Act.put, List.setIfInBounds_toArray, List.set_cons_zero, List.set_cons_succ, i64_w, i32_w]
             rfl
            refine done_ (done_of HT_.out (by kernel_rfl)) ?_
            obtain ⟨hcz130_0, hcz130_1, hcz130_2, hcz130_3, hcz130_4, hcz130_5, hcz130_6, hcz130_7, hfz130_0, hfz130_1, hfz130_2, hfz130_3, hfz130_4, hfz130_5, hfz130_6, hfz130_7⟩ := blk_all8 BK259.out
            try go_wp2_with (first | ((with_reducible refine gate_callee (f := 18) rfl ?_); refine goesL_ (some 79) rfl rfl Try.func18 (by kernel_rfl) rfl #[.agg #[.slice A0_0 l0_0.length c0_0, .slice A0_1 l0_1.length c0_1, .int .u8 a0_2, .bool a0_3, .int .i64 a0_4, .int .i64 a0_5, .int .i64 a0_6, .slice A0_7 l0_7.length c0_7], .slice A1 l1.length c1] rfl (au3) ?_; (with_reducible refine (method_Fits.calls k1 _ _ l0_0 _ _ l0_1 a0_2 a0_3 a0_4 a0_5 a0_6 _ _ l0_7 _ _ l1 false _ ?side1 ?side2 ?side3 ?side4 ?side5 ?side6 ?side7 ?side8 A97.out).mono ?_); (case side1 => exact au6); (case side2 => exact HC0_0.out); (case side3 => exact au11); (case side4 => exact HC0_1.out); (case side5 => exact au8); (case side6 => exact HC0_7.out); (case side7 => exact au58); (case side8 => exact HC1.out); rintro e w131 ⟨rfl, hb⟩; refine ⟨_, rfl, ?_⟩; have n0_ := Aside0.mk (Kd.R_below (au5) hb); have n1_ := Aside0.mk (Kd.R_below (au17) hb); have n2_ := Aside0.mk (blk_below (g := gb259) (o := .cells #[.slice A0_0 l0_0.length c0_0, .slice A0_1 l0_1.length c0_1, .int .u8 a0_2, .bool a0_3, .int .i64 a0_4, .int .i64 a0_5, .int .i64 a0_6, .slice A0_7 l0_7.length c0_7] 25 (0, 0)) (au4) hb); have n3_ := Aside0.mk (below_step (au2) hb); clear HO_5; clear HO_7; clear BK259; clear HB; have HO_5 := n0_; have HO_7 := n1_; have BK259 := n2_; have HB := n3_; clear n0_ n1_ n2_ n3_; (try clear hb); (try clear hb2); (try clear hk); (try clear hi)))
            go_loopg [9, 10] k1 (fun kq v9 v10 w' => ∃ (x9_2 : List Int) (x10_2 : Int), v10 = .int .i64 x10_2 ∧ Aside0 (capstanlaw07_MethodZeros.l7 kq t262 x7_1 x9_2 x10_2 l0_0 l0_1 a0_2 a0_3 a0_4 a0_5 a0_6 l0_7 = some r) ∧ Aside0 (kq ≤ k1) ∧ Aside0 (Kd.R k47 47 w' w.heap.size (fun k_ => some k_ ≠ ((.slice Ao128 x7_1.length co128) : Value).ownBlock) v263 t262) ∧ Aside0 (Kd.R k47 47 w' w.heap.size (fun k_ => some k_ ≠ (v263 : Value).ownBlock) (.slice Ao128 x7_1.length co128) x7_1) ∧ Aside0 (Kd.R (Kd.int .u8) 5 w' w.heap.size (fun _ => True) v9 x9_2) ∧ Aside0 (w'.heap[gb259]? = some (.cells #[(.slice A0_0 l0_0.length c0_0), (.slice A0_1 l0_1.length c0_1), .int .u8 a0_2, .bool a0_3, .int .i64 a0_4, .int .i64 a0_5, .int .i64 a0_6, (.slice A0_7 l0_7.length c0_7)] 25 (0, 0))) ∧ Aside0 (Below w.heap.size w w'))
            case atStart => exact ⟨(([] : List Int)), (0), (au21), H', ⟨Nat.le_refl _⟩, ⟨au5⟩, ⟨au17⟩, ⟨au41⟩, ⟨au4⟩, ⟨au2⟩⟩
            case round =>
             clear H'
             try clear c1
             try clear c2
             try clear p2
             try clear q2
             try clear hx2
             try clear p3
             try clear q3
             try clear hx3
             try clear q4
             try clear p6
             try clear q7
             try clear c9
             try clear c11
             try clear c18
             try clear c22
             try clear c25
             try clear p26
             try clear q26
             try clear hx26
             try clear p27
             try clear q27
             try clear hx27
             try clear p28
             try clear q28
             try clear hx28
             try clear p29
             try clear q29
             try clear hx29
             try clear p30
             try clear q30
             try clear hx30
             try clear p31
             try clear q31
             try clear hx31
             try clear q46
             try clear p64
             try clear q74
             try clear c98
             try clear c110
             try clear c110b0
             try clear c111
             try clear c111b0
             try clear c112
             try clear c113
             try clear c113b0
             try clear c113b1
             try clear c114
             try clear c114b0
             try clear c114b1
             try clear c119
             try clear hcz121_0
             try clear hcz121_1
             try clear hcz121_2
             try clear hcz121_3
             try clear hcz121_4
             try clear hcz121_5
             try clear hcz121_6
             try clear hcz121_7
             try clear hcz125_0
             try clear hcz125_1
             try clear hcz125_2
             try clear hcz125_3
             try clear hcz125_4
             try clear hcz125_5
             try clear hcz125_6
             try clear hcz125_7
             try clear hcz130_0
             try clear hcz130_1
             try clear hcz130_2
             try clear hcz130_3
             try clear hcz130_4
             try clear hcz130_5
             try clear hcz130_6
             try clear hcz130_7
             try clear hcz14_1
             try clear hcz14_2
             try clear hcz14_3
             try clear hcz14_4
             try clear hcz14_5
             try clear hcz14_6
             try clear hcz14_7
             try clear hcz22_0
             try clear hcz22_1
             try clear hcz22_2
             try clear hcz22_3
             try clear hcz22_4
             try clear hcz22_5
             try clear hcz22_6
             try clear hcz22_7
             try clear hcz24_0
             try clear hcz24_1
             try clear hcz24_2
             try clear hcz24_3
             try clear hcz24_4
             try clear hcz24_5
             try clear hcz24_6
             try clear hcz24_7
             try clear hcz26_0
             try clear hcz26_1
             try clear hcz26_2
             try clear hcz26_3
             try clear hcz26_4
             try clear hcz26_5
             try clear hcz26_6
             try clear hcz26_7
             try clear hcz31_0
             try clear hcz31_1
             try clear hcz31_2
             try clear hcz31_3
             try clear hcz31_4
             try clear hcz31_5
             try clear hcz31_6
             try clear hcz31_7
             try clear hcz41_0
             try clear hcz41_1
             try clear hcz41_2
             try clear hcz41_3
             try clear hcz41_4
             try clear hcz41_5
             try clear hcz41_6
             try clear hcz41_7
             try clear hcz48_0
             try clear hcz48_1
             try clear hcz48_2
             try clear hcz48_3
             try clear hcz48_4
             try clear hcz48_5
             try clear hcz48_6
             try clear hcz48_7
             try clear hcz65_0
             try clear hcz65_1
             try clear hcz65_2
             try clear hcz65_3
             try clear hcz65_4
             try clear hcz65_5
             try clear hcz65_6
             try clear hcz65_7
             try clear hcz69_0
             try clear hcz69_1
             try clear hcz69_2
             try clear hcz69_3
             try clear hcz69_4
             try clear hcz69_5
             try clear hcz69_6
             try clear hcz69_7
             try clear hcz76_0
             try clear hcz76_1
             try clear hcz76_2
             try clear hcz76_3
             try clear hcz76_4
             try clear hcz76_5
             try clear hcz76_6
             try clear hcz76_7
             try clear hcz93_0
             try clear hcz93_1
             try clear hcz93_2
             try clear hcz93_3
             try clear hcz93_4
             try clear hcz93_5
             try clear hcz93_6
             try clear hcz93_7
             try clear hcz99_0
             try clear hcz99_1
             try clear hcz99_2
             try clear hcz99_3
             try clear hcz99_4
             try clear hcz99_5
             try clear hcz99_6
             try clear hcz99_7
             try clear hcz9_0
             try clear hcz9_1
             try clear hcz9_2
             try clear hcz9_3
             try clear hcz9_4
             try clear hcz9_5
             try clear hcz9_6
             try clear hcz9_7
             try clear hfz104_0
             try clear hfz104_1
             try clear hfz104_2
             try clear hfz104_3
             try clear hfz104_4
             try clear hfz104_5
             try clear hfz104_6
             try clear hfz104_7
             try clear hfz121_0
             try clear hfz121_1
             try clear hfz121_2
             try clear hfz121_3
             try clear hfz121_4
             try clear hfz121_5
             try clear hfz121_6
             try clear hfz121_7
             try clear hfz125_0
             try clear hfz125_1
             try clear hfz125_2
             try clear hfz125_3
             try clear hfz125_4
             try clear hfz125_5
             try clear hfz125_6
             try clear hfz125_7
             try clear hfz130_0
             try clear hfz130_1
             try clear hfz130_2
             try clear hfz130_3
             try clear hfz130_4
             try clear hfz130_5
             try clear hfz130_6
             try clear hfz130_7
             try clear hfz14_0
             try clear hfz14_1
             try clear hfz14_2
             try clear hfz14_3
             try clear hfz14_4
             try clear hfz14_5
             try clear hfz14_6
             try clear hfz14_7
             try clear hfz22_0
             try clear hfz22_1
             try clear hfz22_2
             try clear hfz22_3
             try clear hfz22_4
             try clear hfz22_5
             try clear hfz22_6
             try clear hfz22_7
             try clear hfz24_0
             try clear hfz24_1
             try clear hfz24_2
             try clear hfz24_3
             try clear hfz24_4
             try clear hfz24_5
             try clear hfz24_6
             try clear hfz24_7
             try clear hfz26_0
             try clear hfz26_1
             try clear hfz26_2
             try clear hfz26_3
             try clear hfz26_4
             try clear hfz26_5
             try clear hfz26_6
             try clear hfz26_7
             try clear hfz31_0
             try clear hfz31_1
             try clear hfz31_2
             try clear hfz31_3
             try clear hfz31_4
             try clear hfz31_5
             try clear hfz31_6
             try clear hfz31_7
             try clear hfz41_0
             try clear hfz41_1
             try clear hfz41_2
             try clear hfz41_3
             try clear hfz41_4
             try clear hfz41_5
             try clear hfz41_6
             try clear hfz41_7
             try clear hfz48_0
             try clear hfz48_1
             try clear hfz48_2
             try clear hfz48_3
             try clear hfz48_4
             try clear hfz48_5
             try clear hfz48_6
             try clear hfz48_7
             try clear hfz65_0
             try clear hfz65_1
             try clear hfz65_2
             try clear hfz65_3
             try clear hfz65_4
             try clear hfz65_5
             try clear hfz65_6
             try clear hfz65_7
             try clear hfz69_0
             try clear hfz69_1
             try clear hfz69_2
             try clear hfz69_3
             try clear hfz69_4
             try clear hfz69_5
             try clear hfz69_6
             try clear hfz69_7
             try clear hfz76_0
             try clear hfz76_1
             try clear hfz76_2
             try clear hfz76_3
             try clear hfz76_4
             try clear hfz76_5
             try clear hfz76_6
             try clear hfz76_7
             try clear hfz93_0
             try clear hfz93_1
             try clear hfz93_2
             try clear hfz93_3
             try clear hfz93_4
             try clear hfz93_5
             try clear hfz93_6
             try clear hfz93_7
             try clear hfz99_0
             try clear hfz99_1
             try clear hfz99_2
             try clear hfz99_3
             try clear hfz99_4
             try clear hfz99_5
             try clear hfz99_6
             try clear hfz99_7
             try clear hfz9_0
             try clear hfz9_1
             try clear hfz9_2
             try clear hfz9_3
             try clear hfz9_4
             try clear hfz9_5
             try clear hfz9_6
             try clear hfz9_7
             try clear hx267_0
             try clear hx278_0
             try clear hx278_1
             try clear hx278_2
             try clear hx282_0
             try clear hx282_1
             try clear hx282_2
             try clear hx286_0
             try clear hx286_1
             try clear hx286_2
             try clear hx287_0
             try clear hx287_1
             try clear hx287_2
             try clear hx292_0
             try clear hx292_1
             try clear hx292_2
             try clear hx296_0
             try clear hx296_1
             try clear hx296_2
             try clear hx300_0
             try clear hx300_1
             try clear hx300_2
             try clear hx301_0
             try clear hx301_1
             try clear hx301_2
             try clear hx307_0
             try clear hx307_1
             try clear hx307_2
             try clear hx311_0
             try clear hx311_1
             try clear hx311_2
             try clear hx315_0
             try clear hx315_1
             try clear hx315_2
             try clear hx316_0
             try clear hx316_1
             try clear hx316_2
             try clear p2
             try clear p26
             try clear p267
             try clear p27
             try clear p278
             try clear p28
             try clear p282
             try clear p286
             try clear p287
             try clear p29
             try clear p292
             try clear p296
             try clear p3
             try clear p30
             try clear p300
             try clear p301
             try clear p307
             try clear p311
             try clear p315
             try clear p316
             try clear p6
             try clear p64
             try clear q2
             try clear q26
             try clear q267
             try clear q27
             try clear q278
             try clear q28
             try clear q282
             try clear q286
             try clear q287
             try clear q29
             try clear q292
             try clear q296
             try clear q3
             try clear q30
             try clear q300
             try clear q301
             try clear q307
             try clear q311
             try clear q315
             try clear q316
             try clear q4
             try clear q46
             try clear q7
             try clear q74
             obtain ⟨x9_2, x10_2, rfl, HA, HK2, HO_5, HO_7, HO_9, BK259, HB⟩ := hrel
             cases gk with
             | zero => exact absurd HA.out (by simp [capstanlaw07_MethodZeros.l7])
             | succ k2 =>
              have H := HA.out
              clear HA
              simp only [capstanlaw07_MethodZeros.l7] at H
              by_cases c132 : x10_2 < (x7_1.length : Int)
              ·
               rw [if_pos c132] at H
               have c132b0 : decide (x10_2 < (x7_1.length : Int)) = true := decide_eq_true c132
               clear c132
               by_cases c133 : 0 ≤ x10_2
               ·
                rw [if_pos c133] at H
                have c133b0 : decide (0 ≤ x10_2) = true := decide_eq_true c133
                clear c133
                by_cases c134 : x9_2.length < 140737488355328
                ·
                 rw [if_pos c134] at H
                 have LMc134 := Aside0.mk c134
                 clear c134
                 obtain ⟨y322, hy322⟩ : ∃ y_ : List Int, y_ = (x9_2 ++ [(rd_T47 x7_1 x10_2).f0]) := ⟨_, rfl⟩
                 replace H : (capstanlaw07_MethodZeros.l7 k2 t262 x7_1 y322 (wrap64 (x10_2 + 1)) l0_0 l0_1 a0_2 a0_3 a0_4 a0_5 a0_6 l0_7) = some r := by first | (rw [hy322]; with_reducible exact H) | (have H2_ := (Option.bind_some _ _).symm.trans H; rw [hy322]; with_reducible exact H2_) | (have H2_ := (Option.bind_some _ _).symm.trans H; with_reducible exact H2_) | with_reducible exact H | (rw [hy322]; exact H) | exact H
                 have Ny322 := Aside0.mk hy322
                 clear hy322
                 have H' := Aside0.mk H
                 clear H
                 have p321 : 0 ≤ (x10_2 : Int) := of_decide_eq_true (au15)
                 have q321 : x10_2 < (x7_1.length : Int) := of_decide_eq_true (au15)
                 obtain ⟨ad321, e321, hx321_0, hx321_1, hx321_2⟩ := at_T47 (Kd.R_reads' HO_7.out).2.2 x10_2 p321 q321
                 cases e321
                 replace p321 := eq_true p321
                 replace q321 := eq_true q321
                 go_wp2_with (first | ((with_reducible refine gate_builtin (b := .append) (xs := #[.tmp 87, .tmp 93]) rfl ?_); (try (refine gate_guard (by rfl) ?_; dsimp only)); at_builtin; refine Kd.R_append (Kd.int .u8) (w0 := w) w.heap.size rfl (.tmp 87) (.tmp 93) 22 5 (.int .u8 0) 1 rfl Try.underlying22 info5 rfl (by decide) (by omega) u9 x9_2 ((rd_T47 x7_1 x10_2).f0) [.int .u8 ((rd_T47 x7_1 x10_2).f0)] (fun _ => True) (fun _ => False) rfl rfl ?aP (fun _ hk => hk.elim) ?aF ?aO ?aB ?aS ?aL ?_; (case aP => exact rfl); (case aB => exact (au2)); (case aF => exact (fun _ _ => trivial)); (case aO => exact (au12)); (case aS => exact (below_size (au2))); (case aL => have := LMc134.out; omega); intro v323 w135 ho hb hg hat; rw [← Ny322.out] at ho; have n0_ := Aside0.mk (Kd.R_over' (au5) (Kd.R_typed (au12)) (by decide) hg); have n1_ := Aside0.mk (Kd.R_over' (au17) (Kd.R_typed (au12)) (by decide) hg); have n2_ := Aside0.mk (blk_grown (g := gb259) (o := .cells #[.slice A0_0 l0_0.length c0_0, .slice A0_1 l0_1.length c0_1, .int .u8 a0_2, .bool a0_3, .int .i64 a0_4, .int .i64 a0_5, .int .i64 a0_6, .slice A0_7 l0_7.length c0_7] 25 (0, 0)) (au4) hg (Kd.R_ne HO_9.out BK259.out (by decide))); have n3_ := Aside0.mk (hb); have n4_ := Aside0.mk (ho); clear HO_5; clear HO_7; clear BK259; clear HB; clear HO_9; have HO_5 := n0_; have HO_7 := n1_; have BK259 := n2_; have HB := n3_; have HO324 := n4_; clear n0_ n1_ n2_ n3_ n4_; clear ho hb hg hat))
                 go_roundg k2
                 case measure => have := HK1.out; have := HK2.out; omega
                 case rel => exact ⟨(y322), (wrap64 (x10_2 + 1)), (au21), H', ⟨by have := HK1.out; have := HK2.out; omega⟩, ⟨au5⟩, ⟨au17⟩, ⟨by (with_reducible repeat (first | apply Kd.R_alloc | apply Kd.R_drewN | apply Kd.R_drew)); first | exact HO324.out | exact Kd.R_mono (HO324.out) (fun _ h_ => h_.2)⟩, ⟨au4⟩, ⟨au2⟩⟩
                ·
                 rw [if_neg c134] at H
                 exact absurd H (by simp)
               ·
                rw [if_neg c133] at H
                exact absurd H (by simp)
              ·
               rw [if_neg c132] at H
               have c132b0 : decide (x10_2 < (x7_1.length : Int)) = false := decide_eq_false c132
               clear c132
               have H' := Aside0.mk H
               clear H
               go_wp2
               go_loopg [9, 11] k2 (fun kq v9 v11 w' => ∃ (x9_3 : List Int) (x11_3 : Int), v11 = .int .i64 x11_3 ∧ Aside0 (capstanlaw07_MethodZeros.l8 kq t262 x9_3 x11_3 l0_0 l0_1 a0_2 a0_3 a0_4 a0_5 a0_6 l0_7 = some r) ∧ Aside0 (kq ≤ k2) ∧ Aside0 (Kd.R k47 47 w' w.heap.size (fun _ => True) v263 t262) ∧ Aside0 (Kd.R (Kd.int .u8) 5 w' w.heap.size (fun _ => True) v9 x9_3) ∧ Aside0 (w'.heap[gb259]? = some (.cells #[(.slice A0_0 l0_0.length c0_0), (.slice A0_1 l0_1.length c0_1), .int .u8 a0_2, .bool a0_3, .int .i64 a0_4, .int .i64 a0_5, .int .i64 a0_6, (.slice A0_7 l0_7.length c0_7)] 25 (0, 0))) ∧ Aside0 (Below w.heap.size w w'))
               case atStart => exact ⟨(x9_2), (0), (au21), H', ⟨Nat.le_refl _⟩, ⟨au59⟩, ⟨au12⟩, ⟨au4⟩, ⟨au2⟩⟩
               case round =>
                clear H'
                try clear c1
                try clear c2
                try clear p2
                try clear q2
                try clear hx2
                try clear p3
                try clear q3
                try clear hx3
                try clear q4
                try clear p6
                try clear q7
                try clear c9
                try clear c11
                try clear c13
                try clear c18
                try clear c22
                try clear c25
                try clear p26
                try clear q26
                try clear hx26
                try clear p27
                try clear q27
                try clear hx27
                try clear p28
                try clear q28
                try clear hx28
                try clear p29
                try clear q29
                try clear hx29
                try clear p30
                try clear q30
                try clear hx30
                try clear p31
                try clear q31
                try clear hx31
                try clear p32
                try clear q32
                try clear hx32
                try clear q46
                try clear p64
                try clear q74
                try clear c98
                try clear c110
                try clear c110b0
                try clear c111
                try clear c111b0
                try clear c112
                try clear c113
                try clear c113b0
                try clear c113b1
                try clear c114
                try clear c114b0
                try clear c114b1
                try clear c119
                try clear c132
                try clear c132b0
                try clear c133
                try clear c133b0
                try clear c134
                try clear hcz121_0
                try clear hcz121_1
                try clear hcz121_2
                try clear hcz121_3
                try clear hcz121_4
                try clear hcz121_5
                try clear hcz121_6
                try clear hcz121_7
                try clear hcz125_0
                try clear hcz125_1
                try clear hcz125_2
                try clear hcz125_3
                try clear hcz125_4
                try clear hcz125_5
                try clear hcz125_6
                try clear hcz125_7
                try clear hcz130_0
                try clear hcz130_1
                try clear hcz130_2
                try clear hcz130_3
                try clear hcz130_4
                try clear hcz130_5
                try clear hcz130_6
                try clear hcz130_7
                try clear hcz14_1
                try clear hcz14_2
                try clear hcz14_3
                try clear hcz14_4
                try clear hcz14_5
                try clear hcz14_6
                try clear hcz14_7
                try clear hcz22_0
                try clear hcz22_1
                try clear hcz22_2
                try clear hcz22_3
                try clear hcz22_4
                try clear hcz22_5
                try clear hcz22_6
                try clear hcz22_7
                try clear hcz24_0
                try clear hcz24_1
                try clear hcz24_2
                try clear hcz24_3
                try clear hcz24_4
                try clear hcz24_5
                try clear hcz24_6
                try clear hcz24_7
                try clear hcz26_0
                try clear hcz26_1
                try clear hcz26_2
                try clear hcz26_3
                try clear hcz26_4
                try clear hcz26_5
                try clear hcz26_6
                try clear hcz26_7
                try clear hcz31_0
                try clear hcz31_1
                try clear hcz31_2
                try clear hcz31_3
                try clear hcz31_4
                try clear hcz31_5
                try clear hcz31_6
                try clear hcz31_7
                try clear hcz41_0
                try clear hcz41_1
                try clear hcz41_2
                try clear hcz41_3
                try clear hcz41_4
                try clear hcz41_5
                try clear hcz41_6
                try clear hcz41_7
                try clear hcz48_0
                try clear hcz48_1
                try clear hcz48_2
                try clear hcz48_3
                try clear hcz48_4
                try clear hcz48_5
                try clear hcz48_6
                try clear hcz48_7
                try clear hcz65_0
                try clear hcz65_1
                try clear hcz65_2
                try clear hcz65_3
                try clear hcz65_4
                try clear hcz65_5
                try clear hcz65_6
                try clear hcz65_7
                try clear hcz69_0
                try clear hcz69_1
                try clear hcz69_2
                try clear hcz69_3
                try clear hcz69_4
                try clear hcz69_5
                try clear hcz69_6
                try clear hcz69_7
                try clear hcz76_0
                try clear hcz76_1
                try clear hcz76_2
                try clear hcz76_3
                try clear hcz76_4
                try clear hcz76_5
                try clear hcz76_6
                try clear hcz76_7
                try clear hcz93_0
                try clear hcz93_1
                try clear hcz93_2
                try clear hcz93_3
                try clear hcz93_4
                try clear hcz93_5
                try clear hcz93_6
                try clear hcz93_7
                try clear hcz99_0
                try clear hcz99_1
                try clear hcz99_2
                try clear hcz99_3
                try clear hcz99_4
                try clear hcz99_5
                try clear hcz99_6
                try clear hcz99_7
                try clear hcz9_0
                try clear hcz9_1
                try clear hcz9_2
                try clear hcz9_3
                try clear hcz9_4
                try clear hcz9_5
                try clear hcz9_6
                try clear hcz9_7
                try clear hfz104_0
                try clear hfz104_1
                try clear hfz104_2
                try clear hfz104_3
                try clear hfz104_4
                try clear hfz104_5
                try clear hfz104_6
                try clear hfz104_7
                try clear hfz121_0
                try clear hfz121_1
                try clear hfz121_2
                try clear hfz121_3
                try clear hfz121_4
                try clear hfz121_5
                try clear hfz121_6
                try clear hfz121_7
                try clear hfz125_0
                try clear hfz125_1
                try clear hfz125_2
                try clear hfz125_3
                try clear hfz125_4
                try clear hfz125_5
                try clear hfz125_6
                try clear hfz125_7
                try clear hfz130_0
                try clear hfz130_1
                try clear hfz130_2
                try clear hfz130_3
                try clear hfz130_4
                try clear hfz130_5
                try clear hfz130_6
                try clear hfz130_7
                try clear hfz14_0
                try clear hfz14_1
                try clear hfz14_2
                try clear hfz14_3
                try clear hfz14_4
                try clear hfz14_5
                try clear hfz14_6
                try clear hfz14_7
                try clear hfz22_0
                try clear hfz22_1
                try clear hfz22_2
                try clear hfz22_3
                try clear hfz22_4
                try clear hfz22_5
                try clear hfz22_6
                try clear hfz22_7
                try clear hfz24_0
                try clear hfz24_1
                try clear hfz24_2
                try clear hfz24_3
                try clear hfz24_4
                try clear hfz24_5
                try clear hfz24_6
                try clear hfz24_7
                try clear hfz26_0
                try clear hfz26_1
                try clear hfz26_2
                try clear hfz26_3
                try clear hfz26_4
                try clear hfz26_5
                try clear hfz26_6
                try clear hfz26_7
                try clear hfz31_0
                try clear hfz31_1
                try clear hfz31_2
                try clear hfz31_3
                try clear hfz31_4
                try clear hfz31_5
                try clear hfz31_6
                try clear hfz31_7
                try clear hfz41_0
                try clear hfz41_1
                try clear hfz41_2
                try clear hfz41_3
                try clear hfz41_4
                try clear hfz41_5
                try clear hfz41_6
                try clear hfz41_7
                try clear hfz48_0
                try clear hfz48_1
                try clear hfz48_2
                try clear hfz48_3
                try clear hfz48_4
                try clear hfz48_5
                try clear hfz48_6
                try clear hfz48_7
                try clear hfz65_0
                try clear hfz65_1
                try clear hfz65_2
                try clear hfz65_3
                try clear hfz65_4
                try clear hfz65_5
                try clear hfz65_6
                try clear hfz65_7
                try clear hfz69_0
                try clear hfz69_1
                try clear hfz69_2
                try clear hfz69_3
                try clear hfz69_4
                try clear hfz69_5
                try clear hfz69_6
                try clear hfz69_7
                try clear hfz76_0
                try clear hfz76_1
                try clear hfz76_2
                try clear hfz76_3
                try clear hfz76_4
                try clear hfz76_5
                try clear hfz76_6
                try clear hfz76_7
                try clear hfz93_0
                try clear hfz93_1
                try clear hfz93_2
                try clear hfz93_3
                try clear hfz93_4
                try clear hfz93_5
                try clear hfz93_6
                try clear hfz93_7
                try clear hfz99_0
                try clear hfz99_1
                try clear hfz99_2
                try clear hfz99_3
                try clear hfz99_4
                try clear hfz99_5
                try clear hfz99_6
                try clear hfz99_7
                try clear hfz9_0
                try clear hfz9_1
                try clear hfz9_2
                try clear hfz9_3
                try clear hfz9_4
                try clear hfz9_5
                try clear hfz9_6
                try clear hfz9_7
                try clear hx267_0
                try clear hx278_0
                try clear hx278_1
                try clear hx278_2
                try clear hx282_0
                try clear hx282_1
                try clear hx282_2
                try clear hx286_0
                try clear hx286_1
                try clear hx286_2
                try clear hx287_0
                try clear hx287_1
                try clear hx287_2
                try clear hx292_0
                try clear hx292_1
                try clear hx292_2
                try clear hx296_0
                try clear hx296_1
                try clear hx296_2
                try clear hx300_0
                try clear hx300_1
                try clear hx300_2
                try clear hx301_0
                try clear hx301_1
                try clear hx301_2
                try clear hx307_0
                try clear hx307_1
                try clear hx307_2
                try clear hx311_0
                try clear hx311_1
                try clear hx311_2
                try clear hx315_0
                try clear hx315_1
                try clear hx315_2
                try clear hx316_0
                try clear hx316_1
                try clear hx316_2
                try clear hx321_0
                try clear hx321_1
                try clear hx321_2
                try clear p2
                try clear p26
                try clear p267
                try clear p27
                try clear p278
                try clear p28
                try clear p282
                try clear p286
                try clear p287
                try clear p29
                try clear p292
                try clear p296
                try clear p3
                try clear p30
                try clear p300
                try clear p301
                try clear p307
                try clear p31
                try clear p311
                try clear p315
                try clear p316
                try clear p321
                try clear p6
                try clear p64
                try clear q2
                try clear q26
                try clear q267
                try clear q27
                try clear q278
                try clear q28
                try clear q282
                try clear q286
                try clear q287
                try clear q29
                try clear q292
                try clear q296
                try clear q3
                try clear q30
                try clear q300
                try clear q301
                try clear q307
                try clear q31
                try clear q311
                try clear q315
                try clear q316
                try clear q321
                try clear q4
                try clear q46
                try clear q7
                try clear q74
                obtain ⟨x9_3, x11_3, rfl, HA, HK3, HO_5, HO_9, BK259, HB⟩ := hrel
                cases gk with
                | zero => exact absurd HA.out (by simp [capstanlaw07_MethodZeros.l8])
                | succ k3 =>
                 have H := HA.out
                 clear HA
                 simp only [capstanlaw07_MethodZeros.l8] at H
                 by_cases c136 : x11_3 < (t262.length : Int)
                 ·
                  rw [if_pos c136] at H
                  have c136b0 : decide (x11_3 < (t262.length : Int)) = true := decide_eq_true c136
                  clear c136
                  by_cases c137 : 0 ≤ x11_3
                  ·
                   rw [if_pos c137] at H
                   have c137b0 : decide (0 ≤ x11_3) = true := decide_eq_true c137
                   clear c137
                   by_cases c138 : x9_3.length < 140737488355328
                   ·
                    rw [if_pos c138] at H
                    have LMc138 := Aside0.mk c138
                    clear c138
                    obtain ⟨y326, hy326⟩ : ∃ y_ : List Int, y_ = (x9_3 ++ [(rd_T47 t262 x11_3).f0]) := ⟨_, rfl⟩
                    replace H : (if ((rd_T47 t262 x11_3).f1) = 0 then (if ((rd_T47 t262 x11_3).f2) = 0 then (capstanlaw07_MethodZeros.l8 k3 t262 y326 (wrap64 (x11_3 + 1)) l0_0 l0_1 a0_2 a0_3 a0_4 a0_5 a0_6 l0_7) else (none)) else (none)) = some r := by first | (rw [hy326]; with_reducible exact H) | (have H2_ := (Option.bind_some _ _).symm.trans H; rw [hy326]; with_reducible exact H2_) | (have H2_ := (Option.bind_some _ _).symm.trans H; with_reducible exact H2_) | with_reducible exact H | (rw [hy326]; exact H) | exact H
                    have Ny326 := Aside0.mk hy326
                    clear hy326
                    by_cases c139 : ((rd_T47 t262 x11_3).f1) = 0
                    ·
                     rw [if_pos c139] at H
                     have c139b0 : (((rd_T47 t262 x11_3).f1) == 0) = true := beq_iff_eq.mpr c139
                     have c139b1 : (((rd_T47 t262 x11_3).f1) != 0) = false := bne_eq_false_iff_eq.mpr c139
                     clear c139
                     by_cases c140 : ((rd_T47 t262 x11_3).f2) = 0
                     ·
                      rw [if_pos c140] at H
                      have c140b0 : (((rd_T47 t262 x11_3).f2) == 0) = true := beq_iff_eq.mpr c140
                      have c140b1 : (((rd_T47 t262 x11_3).f2) != 0) = false := bne_eq_false_iff_eq.mpr c140
                      clear c140
                      have H' := Aside0.mk H
                      clear H
                      obtain ⟨Ao141, co141, eo141⟩ := Kd.R_slice HO_5.out
                      subst eo141
                      have p325 : 0 ≤ (x11_3 : Int) := of_decide_eq_true (au15)
                      have q325 : x11_3 < (t262.length : Int) := of_decide_eq_true (au15)
                      obtain ⟨ad325, e325, hx325_0, hx325_1, hx325_2⟩ := at_T47 (Kd.R_reads' HO_5.out).2.2 x11_3 p325 q325
                      cases e325
                      replace p325 := eq_true p325
                      replace q325 := eq_true q325
                      go_wp2_with (first | ((with_reducible refine gate_builtin (b := .append) (xs := #[.tmp 101, .tmp 107]) rfl ?_); (try (refine gate_guard (by rfl) ?_; dsimp only)); at_builtin; refine Kd.R_append (Kd.int .u8) (w0 := w) w.heap.size rfl (.tmp 101) (.tmp 107) 22 5 (.int .u8 0) 1 rfl Try.underlying22 info5 rfl (by decide) (by omega) u9 x9_3 ((rd_T47 t262 x11_3).f0) [.int .u8 ((rd_T47 t262 x11_3).f0)] (fun _ => True) (fun _ => False) rfl rfl ?aP (fun _ hk => hk.elim) ?aF ?aO ?aB ?aS ?aL ?_; (case aP => exact rfl); (case aB => exact (au2)); (case aF => exact (fun _ _ => trivial)); (case aO => exact (au12)); (case aS => exact (below_size (au2))); (case aL => have := LMc138.out; omega); intro v327 w142 ho hb hg hat; rw [← Ny326.out] at ho; have n0_ := Aside0.mk (Kd.R_over' (au5) (Kd.R_typed (au12)) (by decide) hg); have n1_ := Aside0.mk (blk_grown (g := gb259) (o := .cells #[.slice A0_0 l0_0.length c0_0, .slice A0_1 l0_1.length c0_1, .int .u8 a0_2, .bool a0_3, .int .i64 a0_4, .int .i64 a0_5, .int .i64 a0_6, .slice A0_7 l0_7.length c0_7] 25 (0, 0)) (au4) hg (Kd.R_ne HO_9.out BK259.out (by decide))); have n2_ := Aside0.mk (hb); have n3_ := Aside0.mk (ho); clear HO_5; clear BK259; clear HB; clear HO_9; have HO_5 := n0_; have BK259 := n1_; have HB := n2_; have HO328 := n3_; clear n0_ n1_ n2_ n3_; clear ho hb hg hat; have p329 : 0 ≤ (x11_3 : Int) := of_decide_eq_true (au15); have q329 : x11_3 < (t262.length : Int) := of_decide_eq_true (au15); obtain ⟨ad329, e329, hx329_0, hx329_1, hx329_2⟩ := at_T47 (Kd.R_reads' HO_5.out).2.2 x11_3 p329 q329; obtain rfl : ad325 = ad329 := (by injection e329); replace p329 := eq_true p329; replace q329 := eq_true q329; have p330 : 0 ≤ (x11_3 : Int) := of_decide_eq_true (au15); have q330 : x11_3 < (t262.length : Int) := of_decide_eq_true (au15); obtain ⟨ad330, e330, hx330_0, hx330_1, hx330_2⟩ := at_T47 (Kd.R_reads' HO_5.out).2.2 x11_3 p330 q330; obtain rfl : ad325 = ad330 := (by injection e330); replace p330 := eq_true p330; replace q330 := eq_true q330))
                      go_roundg k3
                      case measure => have := HK1.out; have := HK2.out; have := HK3.out; omega
                      case rel => exact ⟨(y326), (wrap64 (x11_3 + 1)), (au21), H', ⟨by have := HK1.out; have := HK2.out; have := HK3.out; omega⟩, ⟨au5⟩, ⟨by (with_reducible repeat (first | apply Kd.R_alloc | apply Kd.R_drewN | apply Kd.R_drew)); first | exact HO328.out | exact Kd.R_mono (HO328.out) (fun _ h_ => h_.2)⟩, ⟨au4⟩, ⟨au2⟩⟩
                     ·
                      rw [if_neg c140] at H
                      exact absurd H (by simp)
                    ·
                     rw [if_neg c139] at H
                     exact absurd H (by simp)
                   ·
                    rw [if_neg c138] at H
                    exact absurd H (by simp)
                  ·
                   rw [if_neg c137] at H
                   exact absurd H (by simp)
                 ·
                  rw [if_neg c136] at H
                  have c136b0 : decide (x11_3 < (t262.length : Int)) = false := decide_eq_false c136
                  clear c136
                  replace H := Option.bind_eq_some_iff.mp H
                  obtain ⟨t331, A1430, H⟩ := H
                  replace H : ((capstanref07_SameKinds.f k3 x9_3 t331).bind fun t334 => (if t334 = true then (some (decide ((x9_3.length : Int) ≤ 16))) else (none))) = some r := H
                  have A143 := Aside0.mk A1430
                  clear A1430
                  replace H := Option.bind_eq_some_iff.mp H
                  obtain ⟨t334, A1440, H⟩ := H
                  replace H : (if t334 = true then (some (decide ((x9_3.length : Int) ≤ 16))) else (none)) = some r := H
                  have A144 := Aside0.mk A1440
                  clear A1440
                  by_cases c145 : t334 = true
                  ·
                   subst c145
                   have H1 : (some (decide ((x9_3.length : Int) ≤ 16))) = some r := by rw [if_pos rfl] at H; exact H
                   clear H
                   have H := H1
                   clear H1
                   obtain rfl := Option.some.inj H
                   obtain ⟨Ao146, co146, eo146⟩ := Kd.R_slice HO_5.out
                   subst eo146
                   obtain ⟨hcz147_0, hcz147_1, hcz147_2, hcz147_3, hcz147_4, hcz147_5, hcz147_6, hcz147_7, hfz147_0, hfz147_1, hfz147_2, hfz147_3, hfz147_4, hfz147_5, hfz147_6, hfz147_7⟩ := blk_all8 BK259.out
                   go_wp2_with (first | ((with_reducible refine gate_callee (f := 22) rfl ?_); refine goesL_ (some 125) rfl rfl Try.func22 (by kernel_rfl) rfl #[.agg #[.slice A0_0 l0_0.length c0_0, .slice A0_1 l0_1.length c0_1, .int .u8 a0_2, .bool a0_3, .int .i64 a0_4, .int .i64 a0_5, .int .i64 a0_6, .slice A0_7 l0_7.length c0_7]] rfl (au3) ?_; (with_reducible refine (method_Kinds.calls k3 (fun k_ => k_ < w.heap.size) _ _ l0_0 (fun k_ => k_ < w.heap.size) _ _ l0_1 a0_2 a0_3 a0_4 a0_5 a0_6 _ _ l0_7 t331 _ ?side1 ?side2 ?side3 ?side4 A143.out).mono ?_); (case side1 => exact Kd.V_mk HC0_0.out (Kd.F_below (Kd.C_F (Kd.heap_int .u8) HR0_0.out) (au2))); (case side2 => exact Kd.V_mk HC0_1.out (Kd.F_below (Kd.C_F (Kd.heap_int .u8) HR0_1.out) (au2))); (case side3 => exact au8); (case side4 => exact HC0_7.out); rintro e w148 ⟨v332, rfl, ho0, hb⟩; refine ⟨_, rfl, ?_⟩; have n0_ := Aside0.mk (Kd.R_below (au5) hb); have n1_ := Aside0.mk (Kd.R_elder' (au12) (Kd.R_base ho0) hb); have n2_ := Aside0.mk (Kd.R_lower (Kd.R_new' (Kd.R_mono (ok' := fun k_ => True) ho0 (fun _ hk_ => trivial)) (Kd.R_lt (au12))) (below_size (au2))); have n3_ := Aside0.mk (blk_below (g := gb259) (o := .cells #[.slice A0_0 l0_0.length c0_0, .slice A0_1 l0_1.length c0_1, .int .u8 a0_2, .bool a0_3, .int .i64 a0_4, .int .i64 a0_5, .int .i64 a0_6, .slice A0_7 l0_7.length c0_7] 25 (0, 0)) (au4) hb); have n4_ := Aside0.mk (below_step (au2) hb); clear HO_5; clear HO_9; clear BK259; clear HB; have HO_5 := n0_; have HO_9 := n1_; have HO333 := n2_; have BK259 := n3_; have HB := n4_; clear n0_ n1_ n2_ n3_ n4_; (try clear hb); (try clear hb2); (try clear hk); (try clear hi); (try clear ho0); obtain ⟨Ao149, co149, eo149⟩ := Kd.R_slice HO_9.out; subst eo149; obtain ⟨Ao150, co150, eo150⟩ := Kd.R_slice HO333.out; subst eo150) | ((with_reducible refine gate_callee (f := 25) rfl ?_); refine goesL_ (some 126) rfl rfl Try.func25 (by kernel_rfl) rfl #[.slice Ao149 x9_3.length co149, .slice Ao150 t331.length co150] rfl (au3) ?_; (with_reducible refine (capstanref07_SameKinds.calls k3 _ _ x9_3 _ _ t331 true _ ?side1 ?side2 ?side3 ?side4 A144.out).mono ?_); (case side1 => exact au67); (case side2 => exact (Kd.R_reads' HO_9.out).2.1); (case side3 => repeat (first | exact (Kd.R_reads' HO333.out).2.2 | (with_reducible refine Kd.C_alloc ?_ _) | (with_reducible refine Kd.C_drewN ?_ _) | (with_reducible refine Kd.C_drew ?_))); (case side4 => exact (Kd.R_reads' HO333.out).2.1); rintro e w' ⟨rfl, ⟨nd, rfl⟩⟩; refine ⟨_, rfl, ?_⟩))
                   go_ret
                   exact ⟨au13, au2⟩
                  ·
                   replace c145 := Bool.eq_false_iff.mpr c145
                   subst c145
                   have H1 : (none) = some r := by rw [if_neg (show ¬ (false = true) by decide)] at H; exact H
                   clear H
                   have H := H1
                   clear H1
                   exact absurd H (by simp)
         ·
          replace c34 := Bool.eq_false_iff.mpr c34
          subst c34
          have H1 : (none) = some r := by rw [if_neg (show ¬ (false = true) by decide)] at H; exact H
          clear H
          have H := H1
          clear H1
          exact absurd H (by simp)
     ·
      replace c19 := Bool.eq_false_iff.mpr c19
      subst c19
      have H1 : (if (t262.length : Int) = 0 then ((method_Fits.f k l0_0 l0_1 a0_2 a0_3 a0_4 a0_5 a0_6 l0_7 l1).bind fun t335 => (if t335 = true then (none) else ((method_Migrates.f k l0_0 l0_1 a0_2 a0_3 a0_4 a0_5 a0_6 l0_7).bind fun t336 => (some (!t336))))) else (none)) = some r := by rw [if_neg (show ¬ (false = true) by decide)] at H; exact H
      clear H
      have H := H1
      clear H1
      by_cases c151 : (t262.length : Int) = 0
      ·
       rw [if_pos c151] at H
       have c151b0 : ((t262.length : Int) == 0) = true := beq_iff_eq.mpr c151
       have c151b1 : ((t262.length : Int) != 0) = false := bne_eq_false_iff_eq.mpr c151
       clear c151
       replace H := Option.bind_eq_some_iff.mp H
       obtain ⟨t335, A1520, H⟩ := H
       replace H : (if t335 = true then (none) else ((method_Migrates.f k l0_0 l0_1 a0_2 a0_3 a0_4 a0_5 a0_6 l0_7).bind fun t336 => (some (!t336)))) = some r := H
       have A152 := Aside0.mk A1520
       clear A1520
       by_cases c153 : t335 = true
       ·
        subst c153
        have H1 : (none) = some r := by rw [if_pos rfl] at H; exact H
        clear H
        have H := H1
        clear H1
        exact absurd H (by simp)
       ·
        replace c153 := Bool.eq_false_iff.mpr c153
        subst c153
        have H1 : ((method_Migrates.f k l0_0 l0_1 a0_2 a0_3 a0_4 a0_5 a0_6 l0_7).bind fun t336 => (some (!t336))) = some r := by rw [if_neg (show ¬ (false = true) by decide)] at H; exact H
        clear H
        have H := H1
        clear H1
        replace H := Option.bind_eq_some_iff.mp H
        obtain ⟨t336, A1540, H⟩ := H
        replace H : (some (!t336)) = some r := H
        have A154 := Aside0.mk A1540
        clear A1540
        obtain rfl := Option.some.inj H
        go_enter Try.func7, Try.ntmps7
        go_wp2_with (first | ((with_reducible refine gate_dst (N := 2) rfl ?_); (try (refine gate_guard (by rfl) ?_; dsimp only)); refine box_event ?hg (N := 2) ?hd (cs := #[.slice A0_0 l0_0.length c0_0, .slice A0_1 l0_1.length c0_1, .int .u8 a0_2, .bool a0_3, .int .i64 a0_4, .int .i64 a0_5, .int .i64 a0_6, .slice A0_7 l0_7.length c0_7]) (t := 25) ?hr ?_; (case hd => rfl); (case hg => rfl); (case hr => first | (go_simp; done) | (go_simp; rfl)); intro gb259 hg w155 hbox hb; have n0_ := Aside0.mk (below_step (au1) hb); have n1_ := Aside0.mk (hbox); have n2_ := Aside0.mk ((au31 : w.heap.size ≤ gb259)); have n3_ := Aside0.mk ((au31 : w.heap.size ≤ gb259)); clear HB; have HB := n0_; have BK259 := n1_; have GW259 := n2_; have GE259 := n3_; clear n0_ n1_ n2_ n3_; clear hb hbox hg) | ((with_reducible refine gate_callee (f := 28) rfl ?_); refine goesL_ (some 12) rfl rfl Try.func28 (by kernel_rfl) rfl #[] rfl (au3) ?_; (with_reducible refine (capstanlaw07_awake.calls k  true _ A3.out).mono ?_); rintro e w156 ⟨rfl, hb⟩; refine ⟨_, rfl, ?_⟩; have n0_ := Aside0.mk (blk_below (g := gb259) (o := .cells #[.slice A0_0 l0_0.length c0_0, .slice A0_1 l0_1.length c0_1, .int .u8 a0_2, .bool a0_3, .int .i64 a0_4, .int .i64 a0_5, .int .i64 a0_6, .slice A0_7 l0_7.length c0_7] 25 (0, 0)) (au4) hb); have n1_ := Aside0.mk (below_step (au2) hb); clear BK259; clear HB; have BK259 := n0_; have HB := n1_; clear n0_ n1_; (try clear hb); (try clear hb2); (try clear hk); (try clear hi); obtain ⟨hcz157_0, hcz157_1, hcz157_2, hcz157_3, hcz157_4, hcz157_5, hcz157_6, hcz157_7, hfz157_0, hfz157_1, hfz157_2, hfz157_3, hfz157_4, hfz157_5, hfz157_6, hfz157_7⟩ := blk_all8 BK259.out) | ((with_reducible refine gate_callee (f := 11) rfl ?_); refine goesL_ (some 15) rfl rfl Try.func11 (by kernel_rfl) rfl #[.agg #[.slice A0_0 l0_0.length c0_0, .slice A0_1 l0_1.length c0_1, .int .u8 a0_2, .bool a0_3, .int .i64 a0_4, .int .i64 a0_5, .int .i64 a0_6, .slice A0_7 l0_7.length c0_7]] rfl (au3) ?_; (with_reducible refine (capstanlaw07_Great.calls _ _ l0_0 _ _ l0_1 a0_2 a0_3 a0_4 a0_5 a0_6 _ _ l0_7 false _ ?side1 ?side2 ?side3 ?side4 ?side5 ?side6 A5.out).mono ?_); (case side1 => exact au6); (case side2 => exact HC0_0.out); (case side3 => exact au11); (case side4 => exact HC0_1.out); (case side5 => exact au8); (case side6 => exact HC0_7.out); rintro e w158 ⟨rfl, hb⟩; refine ⟨_, rfl, ?_⟩; have n0_ := Aside0.mk (blk_below (g := gb259) (o := .cells #[.slice A0_0 l0_0.length c0_0, .slice A0_1 l0_1.length c0_1, .int .u8 a0_2, .bool a0_3, .int .i64 a0_4, .int .i64 a0_5, .int .i64 a0_6, .slice A0_7 l0_7.length c0_7] 25 (0, 0)) (au4) hb); have n1_ := Aside0.mk (below_step (au2) hb); clear BK259; clear HB; have BK259 := n0_; have HB := n1_; clear n0_ n1_; (try clear hb); (try clear hb2); (try clear hk); (try clear hi); obtain ⟨hcz159_0, hcz159_1, hcz159_2, hcz159_3, hcz159_4, hcz159_5, hcz159_6, hcz159_7, hfz159_0, hfz159_1, hfz159_2, hfz159_3, hfz159_4, hfz159_5, hfz159_6, hfz159_7⟩ := blk_all8 BK259.out) | ((with_reducible refine gate_callee (f := 23) rfl ?_); refine goesL_ (some 23) rfl rfl Try.func23 (by kernel_rfl) rfl #[.agg #[.slice A0_0 l0_0.length c0_0, .slice A0_1 l0_1.length c0_1, .int .u8 a0_2, .bool a0_3, .int .i64 a0_4, .int .i64 a0_5, .int .i64 a0_6, .slice A0_7 l0_7.length c0_7]] rfl (au3) ?_; (with_reducible refine (method_Zeros.calls k _ _ l0_0 _ _ l0_1 a0_2 a0_3 a0_4 a0_5 a0_6 _ _ l0_7 t262 false _ ?side1 ?side2 ?side3 ?side4 ?side5 ?side6 A16.out).mono ?_); (case side1 => exact au6); (case side2 => exact HC0_0.out); (case side3 => exact au11); (case side4 => exact HC0_1.out); (case side5 => exact au8); (case side6 => exact HC0_7.out); rintro e w160 ⟨v263, rfl, ho0, hb⟩; refine ⟨_, rfl, ?_⟩; have n0_ := Aside0.mk (Kd.R_lower ho0 (below_size (au2))); have n1_ := Aside0.mk (blk_below (g := gb259) (o := .cells #[.slice A0_0 l0_0.length c0_0, .slice A0_1 l0_1.length c0_1, .int .u8 a0_2, .bool a0_3, .int .i64 a0_4, .int .i64 a0_5, .int .i64 a0_6, .slice A0_7 l0_7.length c0_7] 25 (0, 0)) (au4) hb); have n2_ := Aside0.mk (below_step (au2) hb); clear BK259; clear HB; have HO264 := n0_; have BK259 := n1_; have HB := n2_; clear n0_ n1_ n2_; (try clear hb); (try clear hb2); (try clear hk); (try clear hi); (try clear ho0); obtain ⟨hcz161_0, hcz161_1, hcz161_2, hcz161_3, hcz161_4, hcz161_5, hcz161_6, hcz161_7, hfz161_0, hfz161_1, hfz161_2, hfz161_3, hfz161_4, hfz161_5, hfz161_6, hfz161_7⟩ := blk_all8 BK259.out) | ((with_reducible refine gate_callee (f := 14) rfl ?_); refine goesL_ (some 28) rfl rfl Try.func14 (by kernel_rfl) rfl #[.agg #[.slice A0_0 l0_0.length c0_0, .slice A0_1 l0_1.length c0_1, .int .u8 a0_2, .bool a0_3, .int .i64 a0_4, .int .i64 a0_5, .int .i64 a0_6, .slice A0_7 l0_7.length c0_7]] rfl (au3) ?_; (with_reducible refine (method_May.calls k _ _ l0_0 _ _ l0_1 a0_2 a0_3 a0_4 a0_5 a0_6 _ _ l0_7 t266 _ ?side1 ?side2 ?side3 ?side4 ?side5 ?side6 A17.out).mono ?_); (case side1 => exact au6); (case side2 => exact HC0_0.out); (case side3 => exact au11); (case side4 => exact HC0_1.out); (case side5 => exact au8); (case side6 => exact HC0_7.out); rintro e w162 ⟨rfl, hb⟩; refine ⟨_, rfl, ?_⟩; have n0_ := Aside0.mk (Kd.R_below (au71) hb); have n1_ := Aside0.mk (blk_below (g := gb259) (o := .cells #[.slice A0_0 l0_0.length c0_0, .slice A0_1 l0_1.length c0_1, .int .u8 a0_2, .bool a0_3, .int .i64 a0_4, .int .i64 a0_5, .int .i64 a0_6, .slice A0_7 l0_7.length c0_7] 25 (0, 0)) (au4) hb); have n2_ := Aside0.mk (below_step (au2) hb); clear HO264; clear BK259; clear HB; have HO264 := n0_; have BK259 := n1_; have HB := n2_; clear n0_ n1_ n2_; (try clear hb); (try clear hb2); (try clear hk); (try clear hi); obtain ⟨Ao163, co163, eo163⟩ := Kd.R_slice HO264.out; subst eo163; obtain ⟨hcz164_0, hcz164_1, hcz164_2, hcz164_3, hcz164_4, hcz164_5, hcz164_6, hcz164_7, hfz164_0, hfz164_1, hfz164_2, hfz164_3, hfz164_4, hfz164_5, hfz164_6, hfz164_7⟩ := blk_all8 BK259.out) | ((fail_if_success (have h_ := w165)); go_at_call 18; (with_reducible refine (method_Fits.calls k _ _ l0_0 _ _ l0_1 a0_2 a0_3 a0_4 a0_5 a0_6 _ _ l0_7 _ _ l1 false _ ?side1 ?side2 ?side3 ?side4 ?side5 ?side6 ?side7 ?side8 A152.out).mono ?_); (case side1 => exact au6); (case side2 => exact HC0_0.out); (case side3 => exact au11); (case side4 => exact HC0_1.out); (case side5 => exact au8); (case side6 => exact HC0_7.out); (case side7 => exact au58); (case side8 => exact HC1.out); rintro e w165 ⟨rfl, hb⟩; have n0_ := Aside0.mk (Kd.R_below (au71) hb); have n1_ := Aside0.mk (blk_below (g := gb259) (o := .cells #[.slice A0_0 l0_0.length c0_0, .slice A0_1 l0_1.length c0_1, .int .u8 a0_2, .bool a0_3, .int .i64 a0_4, .int .i64 a0_5, .int .i64 a0_6, .slice A0_7 l0_7.length c0_7] 25 (0, 0)) (au4) hb); have n2_ := Aside0.mk (below_step (au2) hb); clear HO264; clear BK259; clear HB; have HO264 := n0_; have BK259 := n1_; have HB := n2_; clear n0_ n1_ n2_; (try clear hb); (try clear hb2); (try clear hk); (try clear hi); obtain ⟨hcz166_0, hcz166_1, hcz166_2, hcz166_3, hcz166_4, hcz166_5, hcz166_6, hcz166_7, hfz166_0, hfz166_1, hfz166_2, hfz166_3, hfz166_4, hfz166_5, hfz166_6, hfz166_7⟩ := blk_all8 BK259.out) | ((fail_if_success (have h_ := w167)); go_at_call 16; (with_reducible refine (method_Migrates.calls k _ _ l0_0 _ _ l0_1 a0_2 a0_3 a0_4 a0_5 a0_6 _ _ l0_7 t336 _ ?side1 ?side2 ?side3 ?side4 ?side5 ?side6 A154.out).mono ?_); (case side1 => exact au6); (case side2 => exact HC0_0.out); (case side3 => exact au11); (case side4 => exact HC0_1.out); (case side5 => exact au8); (case side6 => exact HC0_7.out); rintro e w167 ⟨rfl, hb⟩; have n0_ := Aside0.mk (Kd.R_below (au71) hb); have n1_ := Aside0.mk (blk_below (g := gb259) (o := .cells #[.slice A0_0 l0_0.length c0_0, .slice A0_1 l0_1.length c0_1, .int .u8 a0_2, .bool a0_3, .int .i64 a0_4, .int .i64 a0_5, .int .i64 a0_6, .slice A0_7 l0_7.length c0_7] 25 (0, 0)) (au4) hb); have n2_ := Aside0.mk (below_step (au2) hb); clear HO264; clear BK259; clear HB; have HO264 := n0_; have BK259 := n1_; have HB := n2_; clear n0_ n1_ n2_; (try clear hb); (try clear hb2); (try clear hk); (try clear hi)))
        go_ret
        exact ⟨au13, au2⟩
      ·
       rw [if_neg c151] at H
       exact absurd H (by simp)
 ·
  replace c4 := Bool.eq_false_iff.mpr c4
  subst c4
  have H1 : (none) = some r := by rw [if_neg (show ¬ (false = true) by decide)] at H; exact H
  clear H
  have H := H1
  clear H1
  exact absurd H (by simp)

/-- THE ONE PURE STATEMENT of capstanlaw07_MethodZeros: yours. -/
def capstanlaw07_MethodZeros.Pure : Prop := ∀ (l0_0 : List Int) (l0_1 : List Int) (a0_2 : Int) (a0_3 : Bool) (a0_4 : Int) (a0_5 : Int) (a0_6 : Int) (l0_7 : List (S114)) (l1 : List (S47)), ((l0_0.length ≤ maxLen ∧ ∀ y0_ ∈ l0_0, (Lit.int .u8 y0_).wf = true) ∧ (l0_1.length ≤ maxLen ∧ ∀ y0_ ∈ l0_1, (Lit.int .u8 y0_).wf = true) ∧ (Lit.int .u8 a0_2).wf = true ∧ True ∧ (Lit.int .i64 a0_4).wf = true ∧ (Lit.int .i64 a0_5).wf = true ∧ (Lit.int .i64 a0_6).wf = true ∧ (l0_7.length ≤ maxLen ∧ ∀ y0_ ∈ l0_7, (Lit.int .u8 y0_.f0).wf = true ∧ (Lit.int .i64 y0_.f1).wf = true ∧ (Lit.int .i64 y0_.f2).wf = true)) → (l1.length ≤ maxLen ∧ ∀ y0_ ∈ l1, (Lit.int .u8 y0_.f0).wf = true ∧ (Lit.int .i64 y0_.f1).wf = true ∧ (Lit.int .i64 y0_.f2).wf = true) → ∃ k, capstanlaw07_MethodZeros.f k l0_0 l0_1 a0_2 a0_3 a0_4 a0_5 a0_6 l0_7 l1 = some true
theorem capstanlaw07_MethodZeros.walk (P : capstanlaw07_MethodZeros.Pure) (A0_0 : Option Addr) (c0_0 : Nat) (l0_0 : List Int) (A0_1 : Option Addr) (c0_1 : Nat) (l0_1 : List Int) (a0_2 : Int) (a0_3 : Bool) (a0_4 : Int) (a0_5 : Int) (a0_6 : Int) (A0_7 : Option Addr) (c0_7 : Nat) (l0_7 : List (S114)) (A1 : Option Addr) (c1 : Nat) (l1 : List (S47)) (w : World) (hr0_0 : Kd.C (Kd.int .u8) w A0_0 l0_0.length l0_0) (hc0_0 : l0_0.length ≤ c0_0) (hr0_1 : Kd.C (Kd.int .u8) w A0_1 l0_1.length l0_1) (hc0_1 : l0_1.length ≤ c0_1) (hr0_7 : Kd.C k114 w A0_7 l0_7.length l0_7) (hc0_7 : l0_7.length ≤ c0_7) (g0 : (l0_0.length ≤ maxLen ∧ ∀ y0_ ∈ l0_0, (Lit.int .u8 y0_).wf = true) ∧ (l0_1.length ≤ maxLen ∧ ∀ y0_ ∈ l0_1, (Lit.int .u8 y0_).wf = true) ∧ (Lit.int .u8 a0_2).wf = true ∧ True ∧ (Lit.int .i64 a0_4).wf = true ∧ (Lit.int .i64 a0_5).wf = true ∧ (Lit.int .i64 a0_6).wf = true ∧ (l0_7.length ≤ maxLen ∧ ∀ y0_ ∈ l0_7, (Lit.int .u8 y0_.f0).wf = true ∧ (Lit.int .i64 y0_.f1).wf = true ∧ (Lit.int .i64 y0_.f2).wf = true)) (hr1 : Kd.C k47 w A1 l1.length l1) (hc1 : l1.length ≤ c1) (g1 : l1.length ≤ maxLen ∧ ∀ y0_ ∈ l1, (Lit.int .u8 y0_.f0).wf = true ∧ (Lit.int .i64 y0_.f1).wf = true ∧ (Lit.int .i64 y0_.f2).wf = true) :
  Calls Try.prog 7 #[.agg #[.slice A0_0 l0_0.length c0_0, .slice A0_1 l0_1.length c0_1, .int .u8 a0_2, .bool a0_3, .int .i64 a0_4, .int .i64 a0_5, .int .i64 a0_6, .slice A0_7 l0_7.length c0_7], .slice A1 l1.length c1] w fun e w' => e = .returned (.bool true) ∧ Below w.heap.size w w' := by
 obtain ⟨k, h⟩ := P l0_0 l0_1 a0_2 a0_3 a0_4 a0_5 a0_6 l0_7 l1 g0 g1
 refine (capstanlaw07_MethodZeros.calls k _ _ l0_0 _ _ l0_1 a0_2 a0_3 a0_4 a0_5 a0_6 _ _ l0_7 _ _ l1 true w hr0_0 hc0_0 hr0_1 hc0_1 hr0_7 hc0_7 hr1 hc1 h).mono ?_
 rintro e w' ⟨rfl, hd⟩
 exact ⟨rfl, hd⟩

end Go.Proofs.Ytdbdajifalioiaa.R
