/- Contracts of the functions of this seat (each: the call of the function does what the plain Lean function of the same name tells; the conditions stand in each statement). Written by a program of this session and by hand; checked by Lean. -/
import Derived.Test.YtdbdajifalioiaaR0
import Derived.Test.YtdbdajifalioiaaR2
import Derived.Test.YtdbdajifalioiaaR4
import Derived.Test.YtdbdajifalioiaaR5
import Derived.Test.YtdbdajifalioiaaR6
import Derived.Test.YtdbdajifalioiaaR7
import Derived.Test.YtdbdajifalioiaaR8
namespace Go.Proofs.Ytdbdajifalioiaa.R
open Go.RowKit Go.Proofs.YtdbdajifalioiaaW.PrintWords Go.Proofs.YtdbdajifalioiaaW.PrintLast Go.Proofs.YtdbdajifalioiaaW.PrintMore
attribute [local go_sem] max2_int min2_int max_two min_two max_three min_three max_four min_four   -- for this text's walks alone
set_option linter.unusedVariables false
set_option linter.unusedSimpArgs false

/-! ### capstanref07_Same: function 10 -/
def capstanref07_Same.f (k : Nat) (l0_0 : List Int) (l0_1 : List Int) (a0_2 : Int) (a0_3 : Bool) (a0_4 : Int) (a0_5 : Int) (a0_6 : Int) (l0_7 : List (S114)) (l1_0 : List Int) (l1_1 : List Int) (a1_2 : Int) (a1_3 : Bool) (a1_4 : Int) (a1_5 : Int) (a1_6 : Int) (l1_7 : List (S114)) : Option (Bool) := (capstanref07_SameKinds.f k l0_0 l1_0).bind fun t213 => (if t213 = true then ((capstanref07_SameKinds.f k l0_1 l1_1).bind fun t214 => (if t214 = true then (if a0_2 = a1_2 then (if (a0_3 == a1_3) = true then (if a0_4 = a1_4 then (if a0_5 = a1_5 then (some (a0_6 == a1_6)) else (some false)) else (some false)) else (some false)) else (some false)) else (some false))) else (some false))
theorem capstanref07_Same.mono : ∀ a0 a1 a2 a3 a4 a5 a6 a7 a8 a9 a10 a11 a12 a13 a14 a15 k, LeO (capstanref07_Same.f k a0 a1 a2 a3 a4 a5 a6 a7 a8 a9 a10 a11 a12 a13 a14 a15) (capstanref07_Same.f (k + 1) a0 a1 a2 a3 a4 a5 a6 a7 a8 a9 a10 a11 a12 a13 a14 a15) := by
 intro a0 a1 a2 a3 a4 a5 a6 a7 a8 a9 a10 a11 a12 a13 a14 a15 k
 unfold capstanref07_Same.f
 repeat' first
   | (with_reducible exact capstanref07_SameKinds.mono _ _ _)
   | (with_reducible exact LeO.refl _)
   | (with_reducible exact LeO.none _)
   | (with_reducible refine LeO.ite ?_ ?_)
   | (with_reducible refine LeO.bind ?_ (fun _ => ?_))
   | exact capstanref07_SameKinds.mono _ _ _
   | exact LeO.none _
   | refine LeO.ite ?_ ?_
   | refine LeO.bind ?_ (fun _ => ?_)
set_option maxHeartbeats 8000000 in
set_option maxRecDepth 100000 in
theorem capstanref07_Same.calls (k : Nat) (A0_0 : Option Addr) (c0_0 : Nat) (l0_0 : List Int) (A0_1 : Option Addr) (c0_1 : Nat) (l0_1 : List Int) (a0_2 : Int) (a0_3 : Bool) (a0_4 : Int) (a0_5 : Int) (a0_6 : Int) (A0_7 : Option Addr) (c0_7 : Nat) (l0_7 : List (S114)) (A1_0 : Option Addr) (c1_0 : Nat) (l1_0 : List Int) (A1_1 : Option Addr) (c1_1 : Nat) (l1_1 : List Int) (a1_2 : Int) (a1_3 : Bool) (a1_4 : Int) (a1_5 : Int) (a1_6 : Int) (A1_7 : Option Addr) (c1_7 : Nat) (l1_7 : List (S114)) (r : Bool) (w : World) (hr0_0 : Kd.C (Kd.int .u8) w A0_0 l0_0.length l0_0) (hc0_0 : l0_0.length ≤ c0_0) (hr0_1 : Kd.C (Kd.int .u8) w A0_1 l0_1.length l0_1) (hc0_1 : l0_1.length ≤ c0_1) (hr0_7 : Kd.C k114 w A0_7 l0_7.length l0_7) (hc0_7 : l0_7.length ≤ c0_7) (hr1_0 : Kd.C (Kd.int .u8) w A1_0 l1_0.length l1_0) (hc1_0 : l1_0.length ≤ c1_0) (hr1_1 : Kd.C (Kd.int .u8) w A1_1 l1_1.length l1_1) (hc1_1 : l1_1.length ≤ c1_1) (hr1_7 : Kd.C k114 w A1_7 l1_7.length l1_7) (hc1_7 : l1_7.length ≤ c1_7) (h : capstanref07_Same.f k l0_0 l0_1 a0_2 a0_3 a0_4 a0_5 a0_6 l0_7 l1_0 l1_1 a1_2 a1_3 a1_4 a1_5 a1_6 l1_7 = some r) :
  Calls Try.prog 10 #[.agg #[.slice A0_0 l0_0.length c0_0, .slice A0_1 l0_1.length c0_1, .int .u8 a0_2, .bool a0_3, .int .i64 a0_4, .int .i64 a0_5, .int .i64 a0_6, .slice A0_7 l0_7.length c0_7], .agg #[.slice A1_0 l1_0.length c1_0, .slice A1_1 l1_1.length c1_1, .int .u8 a1_2, .bool a1_3, .int .i64 a1_4, .int .i64 a1_5, .int .i64 a1_6, .slice A1_7 l1_7.length c1_7]] w fun e w' => e = .returned (.bool r) ∧ Below w.heap.size w w' := by
 have hu25 := Try.underlying25
 have HR0_0 := Aside0.mk hr0_0
 have HC0_0 := Aside0.mk hc0_0
 clear hr0_0 hc0_0
 have HR0_1 := Aside0.mk hr0_1
 have HC0_1 := Aside0.mk hc0_1
 clear hr0_1 hc0_1
 have HR0_7 := Aside0.mk hr0_7
 have HC0_7 := Aside0.mk hc0_7
 clear hr0_7 hc0_7
 have HR1_0 := Aside0.mk hr1_0
 have HC1_0 := Aside0.mk hc1_0
 clear hr1_0 hc1_0
 have HR1_1 := Aside0.mk hr1_1
 have HC1_1 := Aside0.mk hc1_1
 clear hr1_1 hc1_1
 have HR1_7 := Aside0.mk hr1_7
 have HC1_7 := Aside0.mk hc1_7
 clear hr1_7 hc1_7
 have HB := Aside0.mk (Below.refl w.heap.size w)
 have H : ((capstanref07_SameKinds.f k l0_0 l1_0).bind fun t213 => (if t213 = true then ((capstanref07_SameKinds.f k l0_1 l1_1).bind fun t214 => (if t214 = true then (if a0_2 = a1_2 then (if (a0_3 == a1_3) = true then (if a0_4 = a1_4 then (if a0_5 = a1_5 then (some (a0_6 == a1_6)) else (some false)) else (some false)) else (some false)) else (some false)) else (some false))) else (some false))) = some r := h
 clear h
 replace H := Option.bind_eq_some_iff.mp H
 obtain ⟨t213, A30, H⟩ := H
 replace H : (if t213 = true then ((capstanref07_SameKinds.f k l0_1 l1_1).bind fun t214 => (if t214 = true then (if a0_2 = a1_2 then (if (a0_3 == a1_3) = true then (if a0_4 = a1_4 then (if a0_5 = a1_5 then (some (a0_6 == a1_6)) else (some false)) else (some false)) else (some false)) else (some false)) else (some false))) else (some false)) = some r := H
 have A3 := Aside0.mk A30
 clear A30
 by_cases c4 : t213 = true
 ·
  subst c4
  have H1 : ((capstanref07_SameKinds.f k l0_1 l1_1).bind fun t214 => (if t214 = true then (if a0_2 = a1_2 then (if (a0_3 == a1_3) = true then (if a0_4 = a1_4 then (if a0_5 = a1_5 then (some (a0_6 == a1_6)) else (some false)) else (some false)) else (some false)) else (some false)) else (some false))) = some r := by rw [if_pos rfl] at H; exact H
  clear H
  have H := H1
  clear H1
  replace H := Option.bind_eq_some_iff.mp H
  obtain ⟨t214, A50, H⟩ := H
  replace H : (if t214 = true then (if a0_2 = a1_2 then (if (a0_3 == a1_3) = true then (if a0_4 = a1_4 then (if a0_5 = a1_5 then (some (a0_6 == a1_6)) else (some false)) else (some false)) else (some false)) else (some false)) else (some false)) = some r := H
  have A5 := Aside0.mk A50
  clear A50
  by_cases c6 : t214 = true
  ·
   subst c6
   have H1 : (if a0_2 = a1_2 then (if (a0_3 == a1_3) = true then (if a0_4 = a1_4 then (if a0_5 = a1_5 then (some (a0_6 == a1_6)) else (some false)) else (some false)) else (some false)) else (some false)) = some r := by rw [if_pos rfl] at H; exact H
   clear H
   have H := H1
   clear H1
   by_cases c7 : a0_2 = a1_2
   ·
    rw [if_pos c7] at H
    have c7b0 : (a0_2 == a1_2) = true := beq_iff_eq.mpr c7
    have c7b1 : (a0_2 != a1_2) = false := bne_eq_false_iff_eq.mpr c7
    clear c7
    by_cases c8 : (a0_3 == a1_3) = true
    ·
     rw [if_pos c8] at H
     have c8b0 : (a0_3 == a1_3) = true := c8
     (try (have c8b1 : decide (a0_3 = a1_3) = true := by first | (simp; done) | simpa using c8))
     (try (have c8b2 : (a0_3 == a1_3) = true := by first | (simp; done) | simpa using c8))
     clear c8
     by_cases c9 : a0_4 = a1_4
     ·
      rw [if_pos c9] at H
      have c9b0 : (a0_4 == a1_4) = true := beq_iff_eq.mpr c9
      have c9b1 : (a0_4 != a1_4) = false := bne_eq_false_iff_eq.mpr c9
      clear c9
      by_cases c10 : a0_5 = a1_5
      ·
       rw [if_pos c10] at H
       have c10b0 : (a0_5 == a1_5) = true := beq_iff_eq.mpr c10
       have c10b1 : (a0_5 != a1_5) = false := bne_eq_false_iff_eq.mpr c10
       clear c10
       obtain rfl := Option.some.inj H
       go_enter Try.func10, Try.ntmps10
       go_wp2_with (first | ((with_reducible refine gate_dst (N := 2) rfl ?_); refine box_event ?hg (N := 2) ?hd (cs := #[.slice A0_0 l0_0.length c0_0, .slice A0_1 l0_1.length c0_1, .int .u8 a0_2, .bool a0_3, .int .i64 a0_4, .int .i64 a0_5, .int .i64 a0_6, .slice A0_7 l0_7.length c0_7]) (t := 25) ?hr ?_; (case hd => rfl); (case hg => rfl); (case hr => first | (go_simp; done) | (go_simp; rfl)); intro gb211 hg w11 hbox hb; have n0_ := Aside0.mk (below_step (au1) hb); have n1_ := Aside0.mk (hbox); have n2_ := Aside0.mk ((au31 : w.heap.size ≤ gb211)); have n3_ := Aside0.mk ((au31 : w.heap.size ≤ gb211)); clear HB; have HB := n0_; have BK211 := n1_; have GW211 := n2_; have GE211 := n3_; clear n0_ n1_ n2_ n3_; clear hb hbox hg) | ((with_reducible refine gate_dst (N := 3) rfl ?_); refine box_event ?hg (N := 3) ?hd (cs := #[.slice A1_0 l1_0.length c1_0, .slice A1_1 l1_1.length c1_1, .int .u8 a1_2, .bool a1_3, .int .i64 a1_4, .int .i64 a1_5, .int .i64 a1_6, .slice A1_7 l1_7.length c1_7]) (t := 25) ?hr ?_; (case hd => rfl); (case hg => rfl); (case hr => first | (go_simp; done) | (go_simp; rfl)); intro gb212 hg w12 hbox hb; have n0_ := Aside0.mk (blk_below (g := gb211) (o := .cells #[.slice A0_0 l0_0.length c0_0, .slice A0_1 l0_1.length c0_1, .int .u8 a0_2, .bool a0_3, .int .i64 a0_4, .int .i64 a0_5, .int .i64 a0_6, .slice A0_7 l0_7.length c0_7] 25 (0, 0)) (au24) hb); have n1_ := Aside0.mk (below_step (au10) hb); have n2_ := Aside0.mk (hbox); have n3_ := Aside0.mk ((au74 : w.heap.size ≤ gb212)); have n4_ := Aside0.mk ((au74 : w.heap.size ≤ gb212)); have n5_ := Aside0.mk ((au36 : gb211 ≠ gb212)); have n6_ := Aside0.mk ((au37 : gb212 ≠ gb211)); clear BK211; clear HB; have BK211 := n0_; have HB := n1_; have BK212 := n2_; have GW212 := n3_; have GE212 := n4_; have NB211_212 := n5_; have NB212_211 := n6_; clear n0_ n1_ n2_ n3_ n4_ n5_ n6_; clear hb hbox hg; have hnb13 := NB211_212.out; have hnc13 := NB212_211.out; obtain ⟨hcz14_0, hcz14_1, hcz14_2, hcz14_3, hcz14_4, hcz14_5, hcz14_6, hcz14_7, hfz14_0, hfz14_1, hfz14_2, hfz14_3, hfz14_4, hfz14_5, hfz14_6, hfz14_7⟩ := blk_all8 BK211.out; obtain ⟨hcz15_0, hcz15_1, hcz15_2, hcz15_3, hcz15_4, hcz15_5, hcz15_6, hcz15_7, hfz15_0, hfz15_1, hfz15_2, hfz15_3, hfz15_4, hfz15_5, hfz15_6, hfz15_7⟩ := blk_all8 BK212.out) | ((with_reducible refine gate_callee (f := 25) rfl ?_); refine goesL_ (some 9) rfl rfl Try.func25 (by kernel_rfl) rfl #[.slice A0_0 l0_0.length c0_0, .slice A1_0 l1_0.length c1_0] rfl (au3) ?_; (with_reducible refine (capstanref07_SameKinds.calls k _ _ l0_0 _ _ l1_0 true _ ?side1 ?side2 ?side3 ?side4 A3.out).mono ?_); (case side1 => exact au6); (case side2 => exact HC0_0.out); (case side3 => exact au46); (case side4 => exact HC1_0.out); rintro e w' ⟨rfl, ⟨nd, rfl⟩⟩; refine ⟨_, rfl, ?_⟩) | (go_at_call 25; (with_reducible refine (capstanref07_SameKinds.calls k _ _ l0_1 _ _ l1_1 true _ ?side1 ?side2 ?side3 ?side4 A5.out).mono ?_); (case side1 => exact au52); (case side2 => exact HC0_1.out); (case side3 => exact au53); (case side4 => exact HC1_1.out); rintro e w' ⟨rfl, ⟨nd, rfl⟩⟩))
       go_ret
       exact ⟨au13, au9⟩
      ·
       rw [if_neg c10] at H
       have c10b0 : (a0_5 == a1_5) = false := beq_eq_false_iff_ne.mpr c10
       have c10b1 : (a0_5 != a1_5) = true := bne_iff_ne.mpr c10
       obtain rfl := Option.some.inj H
       go_enter Try.func10, Try.ntmps10
       go_wp2_with (first | ((with_reducible refine gate_dst (N := 2) rfl ?_); refine box_event ?hg (N := 2) ?hd (cs := #[.slice A0_0 l0_0.length c0_0, .slice A0_1 l0_1.length c0_1, .int .u8 a0_2, .bool a0_3, .int .i64 a0_4, .int .i64 a0_5, .int .i64 a0_6, .slice A0_7 l0_7.length c0_7]) (t := 25) ?hr ?_; (case hd => rfl); (case hg => rfl); (case hr => first | (go_simp; done) | (go_simp; rfl)); intro gb211 hg w16 hbox hb; have n0_ := Aside0.mk (below_step (au1) hb); have n1_ := Aside0.mk (hbox); have n2_ := Aside0.mk ((au31 : w.heap.size ≤ gb211)); have n3_ := Aside0.mk ((au31 : w.heap.size ≤ gb211)); clear HB; have HB := n0_; have BK211 := n1_; have GW211 := n2_; have GE211 := n3_; clear n0_ n1_ n2_ n3_; clear hb hbox hg) | ((with_reducible refine gate_dst (N := 3) rfl ?_); refine box_event ?hg (N := 3) ?hd (cs := #[.slice A1_0 l1_0.length c1_0, .slice A1_1 l1_1.length c1_1, .int .u8 a1_2, .bool a1_3, .int .i64 a1_4, .int .i64 a1_5, .int .i64 a1_6, .slice A1_7 l1_7.length c1_7]) (t := 25) ?hr ?_; (case hd => rfl); (case hg => rfl); (case hr => first | (go_simp; done) | (go_simp; rfl)); intro gb212 hg w17 hbox hb; have n0_ := Aside0.mk (blk_below (g := gb211) (o := .cells #[.slice A0_0 l0_0.length c0_0, .slice A0_1 l0_1.length c0_1, .int .u8 a0_2, .bool a0_3, .int .i64 a0_4, .int .i64 a0_5, .int .i64 a0_6, .slice A0_7 l0_7.length c0_7] 25 (0, 0)) (au24) hb); have n1_ := Aside0.mk (below_step (au10) hb); have n2_ := Aside0.mk (hbox); have n3_ := Aside0.mk ((au74 : w.heap.size ≤ gb212)); have n4_ := Aside0.mk ((au74 : w.heap.size ≤ gb212)); have n5_ := Aside0.mk ((au36 : gb211 ≠ gb212)); have n6_ := Aside0.mk ((au37 : gb212 ≠ gb211)); clear BK211; clear HB; have BK211 := n0_; have HB := n1_; have BK212 := n2_; have GW212 := n3_; have GE212 := n4_; have NB211_212 := n5_; have NB212_211 := n6_; clear n0_ n1_ n2_ n3_ n4_ n5_ n6_; clear hb hbox hg; have hnb18 := NB211_212.out; have hnc18 := NB212_211.out; obtain ⟨hcz19_0, hcz19_1, hcz19_2, hcz19_3, hcz19_4, hcz19_5, hcz19_6, hcz19_7, hfz19_0, hfz19_1, hfz19_2, hfz19_3, hfz19_4, hfz19_5, hfz19_6, hfz19_7⟩ := blk_all8 BK211.out; obtain ⟨hcz20_0, hcz20_1, hcz20_2, hcz20_3, hcz20_4, hcz20_5, hcz20_6, hcz20_7, hfz20_0, hfz20_1, hfz20_2, hfz20_3, hfz20_4, hfz20_5, hfz20_6, hfz20_7⟩ := blk_all8 BK212.out) | ((with_reducible refine gate_callee (f := 25) rfl ?_); refine goesL_ (some 9) rfl rfl Try.func25 (by kernel_rfl) rfl #[.slice A0_0 l0_0.length c0_0, .slice A1_0 l1_0.length c1_0] rfl (au3) ?_; (with_reducible refine (capstanref07_SameKinds.calls k _ _ l0_0 _ _ l1_0 true _ ?side1 ?side2 ?side3 ?side4 A3.out).mono ?_); (case side1 => exact au6); (case side2 => exact HC0_0.out); (case side3 => exact au46); (case side4 => exact HC1_0.out); rintro e w' ⟨rfl, ⟨nd, rfl⟩⟩; refine ⟨_, rfl, ?_⟩) | (go_at_call 25; (with_reducible refine (capstanref07_SameKinds.calls k _ _ l0_1 _ _ l1_1 true _ ?side1 ?side2 ?side3 ?side4 A5.out).mono ?_); (case side1 => exact au52); (case side2 => exact HC0_1.out); (case side3 => exact au53); (case side4 => exact HC1_1.out); rintro e w' ⟨rfl, ⟨nd, rfl⟩⟩))
       go_ret
       exact ⟨au13, au9⟩
     ·
      rw [if_neg c9] at H
      have c9b0 : (a0_4 == a1_4) = false := beq_eq_false_iff_ne.mpr c9
      have c9b1 : (a0_4 != a1_4) = true := bne_iff_ne.mpr c9
      obtain rfl := Option.some.inj H
      go_enter Try.func10, Try.ntmps10
      go_wp2_with (first | ((with_reducible refine gate_dst (N := 2) rfl ?_); refine box_event ?hg (N := 2) ?hd (cs := #[.slice A0_0 l0_0.length c0_0, .slice A0_1 l0_1.length c0_1, .int .u8 a0_2, .bool a0_3, .int .i64 a0_4, .int .i64 a0_5, .int .i64 a0_6, .slice A0_7 l0_7.length c0_7]) (t := 25) ?hr ?_; (case hd => rfl); (case hg => rfl); (case hr => first | (go_simp; done) | (go_simp; rfl)); intro gb211 hg w21 hbox hb; have n0_ := Aside0.mk (below_step (au1) hb); have n1_ := Aside0.mk (hbox); have n2_ := Aside0.mk ((au31 : w.heap.size ≤ gb211)); have n3_ := Aside0.mk ((au31 : w.heap.size ≤ gb211)); clear HB; have HB := n0_; have BK211 := n1_; have GW211 := n2_; have GE211 := n3_; clear n0_ n1_ n2_ n3_; clear hb hbox hg) | ((with_reducible refine gate_dst (N := 3) rfl ?_); refine box_event ?hg (N := 3) ?hd (cs := #[.slice A1_0 l1_0.length c1_0, .slice A1_1 l1_1.length c1_1, .int .u8 a1_2, .bool a1_3, .int .i64 a1_4, .int .i64 a1_5, .int .i64 a1_6, .slice A1_7 l1_7.length c1_7]) (t := 25) ?hr ?_; (case hd => rfl); (case hg => rfl); (case hr => first | (go_simp; done) | (go_simp; rfl)); intro gb212 hg w22 hbox hb; have n0_ := Aside0.mk (blk_below (g := gb211) (o := .cells #[.slice A0_0 l0_0.length c0_0, .slice A0_1 l0_1.length c0_1, .int .u8 a0_2, .bool a0_3, .int .i64 a0_4, .int .i64 a0_5, .int .i64 a0_6, .slice A0_7 l0_7.length c0_7] 25 (0, 0)) (au24) hb); have n1_ := Aside0.mk (below_step (au10) hb); have n2_ := Aside0.mk (hbox); have n3_ := Aside0.mk ((au74 : w.heap.size ≤ gb212)); have n4_ := Aside0.mk ((au74 : w.heap.size ≤ gb212)); have n5_ := Aside0.mk ((au36 : gb211 ≠ gb212)); have n6_ := Aside0.mk ((au37 : gb212 ≠ gb211)); clear BK211; clear HB; have BK211 := n0_; have HB := n1_; have BK212 := n2_; have GW212 := n3_; have GE212 := n4_; have NB211_212 := n5_; have NB212_211 := n6_; clear n0_ n1_ n2_ n3_ n4_ n5_ n6_; clear hb hbox hg; have hnb23 := NB211_212.out; have hnc23 := NB212_211.out; obtain ⟨hcz24_0, hcz24_1, hcz24_2, hcz24_3, hcz24_4, hcz24_5, hcz24_6, hcz24_7, hfz24_0, hfz24_1, hfz24_2, hfz24_3, hfz24_4, hfz24_5, hfz24_6, hfz24_7⟩ := blk_all8 BK211.out; obtain ⟨hcz25_0, hcz25_1, hcz25_2, hcz25_3, hcz25_4, hcz25_5, hcz25_6, hcz25_7, hfz25_0, hfz25_1, hfz25_2, hfz25_3, hfz25_4, hfz25_5, hfz25_6, hfz25_7⟩ := blk_all8 BK212.out) | ((with_reducible refine gate_callee (f := 25) rfl ?_); refine goesL_ (some 9) rfl rfl Try.func25 (by kernel_rfl) rfl #[.slice A0_0 l0_0.length c0_0, .slice A1_0 l1_0.length c1_0] rfl (au3) ?_; (with_reducible refine (capstanref07_SameKinds.calls k _ _ l0_0 _ _ l1_0 true _ ?side1 ?side2 ?side3 ?side4 A3.out).mono ?_); (case side1 => exact au6); (case side2 => exact HC0_0.out); (case side3 => exact au46); (case side4 => exact HC1_0.out); rintro e w' ⟨rfl, ⟨nd, rfl⟩⟩; refine ⟨_, rfl, ?_⟩) | (go_at_call 25; (with_reducible refine (capstanref07_SameKinds.calls k _ _ l0_1 _ _ l1_1 true _ ?side1 ?side2 ?side3 ?side4 A5.out).mono ?_); (case side1 => exact au52); (case side2 => exact HC0_1.out); (case side3 => exact au53); (case side4 => exact HC1_1.out); rintro e w' ⟨rfl, ⟨nd, rfl⟩⟩))
      go_ret
      exact ⟨au13, au9⟩
    ·
     rw [if_neg c8] at H
     have c8b0 : (a0_3 == a1_3) = false := by simpa using c8
     (try (have c8b1 : decide (a0_3 = a1_3) = false := by first | (simp; done) | simpa using c8))
     (try (have c8b2 : (a0_3 == a1_3) = false := by first | (simp; done) | simpa using c8))
     (try (have c8b3 : ¬ (a0_3 = a1_3) := by first | (simp; done) | simpa using c8))
     clear c8
     obtain rfl := Option.some.inj H
     go_enter Try.func10, Try.ntmps10
     go_wp2_with (first | ((with_reducible refine gate_dst (N := 2) rfl ?_); refine box_event ?hg (N := 2) ?hd (cs := #[.slice A0_0 l0_0.length c0_0, .slice A0_1 l0_1.length c0_1, .int .u8 a0_2, .bool a0_3, .int .i64 a0_4, .int .i64 a0_5, .int .i64 a0_6, .slice A0_7 l0_7.length c0_7]) (t := 25) ?hr ?_; (case hd => rfl); (case hg => rfl); (case hr => first | (go_simp; done) | (go_simp; rfl)); intro gb211 hg w26 hbox hb; have n0_ := Aside0.mk (below_step (au1) hb); have n1_ := Aside0.mk (hbox); have n2_ := Aside0.mk ((au31 : w.heap.size ≤ gb211)); have n3_ := Aside0.mk ((au31 : w.heap.size ≤ gb211)); clear HB; have HB := n0_; have BK211 := n1_; have GW211 := n2_; have GE211 := n3_; clear n0_ n1_ n2_ n3_; clear hb hbox hg) | ((with_reducible refine gate_dst (N := 3) rfl ?_); refine box_event ?hg (N := 3) ?hd (cs := #[.slice A1_0 l1_0.length c1_0, .slice A1_1 l1_1.length c1_1, .int .u8 a1_2, .bool a1_3, .int .i64 a1_4, .int .i64 a1_5, .int .i64 a1_6, .slice A1_7 l1_7.length c1_7]) (t := 25) ?hr ?_; (case hd => rfl); (case hg => rfl); (case hr => first | (go_simp; done) | (go_simp; rfl)); intro gb212 hg w27 hbox hb; have n0_ := Aside0.mk (blk_below (g := gb211) (o := .cells #[.slice A0_0 l0_0.length c0_0, .slice A0_1 l0_1.length c0_1, .int .u8 a0_2, .bool a0_3, .int .i64 a0_4, .int .i64 a0_5, .int .i64 a0_6, .slice A0_7 l0_7.length c0_7] 25 (0, 0)) (au24) hb); have n1_ := Aside0.mk (below_step (au10) hb); have n2_ := Aside0.mk (hbox); have n3_ := Aside0.mk ((au74 : w.heap.size ≤ gb212)); have n4_ := Aside0.mk ((au74 : w.heap.size ≤ gb212)); have n5_ := Aside0.mk ((au36 : gb211 ≠ gb212)); have n6_ := Aside0.mk ((au37 : gb212 ≠ gb211)); clear BK211; clear HB; have BK211 := n0_; have HB := n1_; have BK212 := n2_; have GW212 := n3_; have GE212 := n4_; have NB211_212 := n5_; have NB212_211 := n6_; clear n0_ n1_ n2_ n3_ n4_ n5_ n6_; clear hb hbox hg; have hnb28 := NB211_212.out; have hnc28 := NB212_211.out; obtain ⟨hcz29_0, hcz29_1, hcz29_2, hcz29_3, hcz29_4, hcz29_5, hcz29_6, hcz29_7, hfz29_0, hfz29_1, hfz29_2, hfz29_3, hfz29_4, hfz29_5, hfz29_6, hfz29_7⟩ := blk_all8 BK211.out; obtain ⟨hcz30_0, hcz30_1, hcz30_2, hcz30_3, hcz30_4, hcz30_5, hcz30_6, hcz30_7, hfz30_0, hfz30_1, hfz30_2, hfz30_3, hfz30_4, hfz30_5, hfz30_6, hfz30_7⟩ := blk_all8 BK212.out) | ((with_reducible refine gate_callee (f := 25) rfl ?_); refine goesL_ (some 9) rfl rfl Try.func25 (by kernel_rfl) rfl #[.slice A0_0 l0_0.length c0_0, .slice A1_0 l1_0.length c1_0] rfl (au3) ?_; (with_reducible refine (capstanref07_SameKinds.calls k _ _ l0_0 _ _ l1_0 true _ ?side1 ?side2 ?side3 ?side4 A3.out).mono ?_); (case side1 => exact au6); (case side2 => exact HC0_0.out); (case side3 => exact au46); (case side4 => exact HC1_0.out); rintro e w' ⟨rfl, ⟨nd, rfl⟩⟩; refine ⟨_, rfl, ?_⟩) | (go_at_call 25; (with_reducible refine (capstanref07_SameKinds.calls k _ _ l0_1 _ _ l1_1 true _ ?side1 ?side2 ?side3 ?side4 A5.out).mono ?_); (case side1 => exact au52); (case side2 => exact HC0_1.out); (case side3 => exact au53); (case side4 => exact HC1_1.out); rintro e w' ⟨rfl, ⟨nd, rfl⟩⟩))
     go_ret
     exact ⟨au13, au9⟩
   ·
    rw [if_neg c7] at H
    have c7b0 : (a0_2 == a1_2) = false := beq_eq_false_iff_ne.mpr c7
    have c7b1 : (a0_2 != a1_2) = true := bne_iff_ne.mpr c7
    obtain rfl := Option.some.inj H
    go_enter Try.func10, Try.ntmps10
    go_wp2_with (first | ((with_reducible refine gate_dst (N := 2) rfl ?_); refine box_event ?hg (N := 2) ?hd (cs := #[.slice A0_0 l0_0.length c0_0, .slice A0_1 l0_1.length c0_1, .int .u8 a0_2, .bool a0_3, .int .i64 a0_4, .int .i64 a0_5, .int .i64 a0_6, .slice A0_7 l0_7.length c0_7]) (t := 25) ?hr ?_; (case hd => rfl); (case hg => rfl); (case hr => first | (go_simp; done) | (go_simp; rfl)); intro gb211 hg w31 hbox hb; have n0_ := Aside0.mk (below_step (au1) hb); have n1_ := Aside0.mk (hbox); have n2_ := Aside0.mk ((au31 : w.heap.size ≤ gb211)); have n3_ := Aside0.mk ((au31 : w.heap.size ≤ gb211)); clear HB; have HB := n0_; have BK211 := n1_; have GW211 := n2_; have GE211 := n3_; clear n0_ n1_ n2_ n3_; clear hb hbox hg) | ((with_reducible refine gate_dst (N := 3) rfl ?_); refine box_event ?hg (N := 3) ?hd (cs := #[.slice A1_0 l1_0.length c1_0, .slice A1_1 l1_1.length c1_1, .int .u8 a1_2, .bool a1_3, .int .i64 a1_4, .int .i64 a1_5, .int .i64 a1_6, .slice A1_7 l1_7.length c1_7]) (t := 25) ?hr ?_; (case hd => rfl); (case hg => rfl); (case hr => first | (go_simp; done) | (go_simp; rfl)); intro gb212 hg w32 hbox hb; have n0_ := Aside0.mk (blk_below (g := gb211) (o := .cells #[.slice A0_0 l0_0.length c0_0, .slice A0_1 l0_1.length c0_1, .int .u8 a0_2, .bool a0_3, .int .i64 a0_4, .int .i64 a0_5, .int .i64 a0_6, .slice A0_7 l0_7.length c0_7] 25 (0, 0)) (au24) hb); have n1_ := Aside0.mk (below_step (au10) hb); have n2_ := Aside0.mk (hbox); have n3_ := Aside0.mk ((au74 : w.heap.size ≤ gb212)); have n4_ := Aside0.mk ((au74 : w.heap.size ≤ gb212)); have n5_ := Aside0.mk ((au36 : gb211 ≠ gb212)); have n6_ := Aside0.mk ((au37 : gb212 ≠ gb211)); clear BK211; clear HB; have BK211 := n0_; have HB := n1_; have BK212 := n2_; have GW212 := n3_; have GE212 := n4_; have NB211_212 := n5_; have NB212_211 := n6_; clear n0_ n1_ n2_ n3_ n4_ n5_ n6_; clear hb hbox hg; have hnb33 := NB211_212.out; have hnc33 := NB212_211.out; obtain ⟨hcz34_0, hcz34_1, hcz34_2, hcz34_3, hcz34_4, hcz34_5, hcz34_6, hcz34_7, hfz34_0, hfz34_1, hfz34_2, hfz34_3, hfz34_4, hfz34_5, hfz34_6, hfz34_7⟩ := blk_all8 BK211.out; obtain ⟨hcz35_0, hcz35_1, hcz35_2, hcz35_3, hcz35_4, hcz35_5, hcz35_6, hcz35_7, hfz35_0, hfz35_1, hfz35_2, hfz35_3, hfz35_4, hfz35_5, hfz35_6, hfz35_7⟩ := blk_all8 BK212.out) | ((with_reducible refine gate_callee (f := 25) rfl ?_); refine goesL_ (some 9) rfl rfl Try.func25 (by kernel_rfl) rfl #[.slice A0_0 l0_0.length c0_0, .slice A1_0 l1_0.length c1_0] rfl (au3) ?_; (with_reducible refine (capstanref07_SameKinds.calls k _ _ l0_0 _ _ l1_0 true _ ?side1 ?side2 ?side3 ?side4 A3.out).mono ?_); (case side1 => exact au6); (case side2 => exact HC0_0.out); (case side3 => exact au46); (case side4 => exact HC1_0.out); rintro e w' ⟨rfl, ⟨nd, rfl⟩⟩; refine ⟨_, rfl, ?_⟩) | (go_at_call 25; (with_reducible refine (capstanref07_SameKinds.calls k _ _ l0_1 _ _ l1_1 true _ ?side1 ?side2 ?side3 ?side4 A5.out).mono ?_); (case side1 => exact au52); (case side2 => exact HC0_1.out); (case side3 => exact au53); (case side4 => exact HC1_1.out); rintro e w' ⟨rfl, ⟨nd, rfl⟩⟩))
    go_ret
    exact ⟨au13, au9⟩
  ·
   replace c6 := Bool.eq_false_iff.mpr c6
   subst c6
   have H1 : (some false) = some r := by rw [if_neg (show ¬ (false = true) by decide)] at H; exact H
   clear H
   have H := H1
   clear H1
   obtain rfl := Option.some.inj H
   go_enter Try.func10, Try.ntmps10
   go_wp2_with (first | ((with_reducible refine gate_dst (N := 2) rfl ?_); refine box_event ?hg (N := 2) ?hd (cs := #[.slice A0_0 l0_0.length c0_0, .slice A0_1 l0_1.length c0_1, .int .u8 a0_2, .bool a0_3, .int .i64 a0_4, .int .i64 a0_5, .int .i64 a0_6, .slice A0_7 l0_7.length c0_7]) (t := 25) ?hr ?_; (case hd => rfl); (case hg => rfl); (case hr => first | (go_simp; done) | (go_simp; rfl)); intro gb211 hg w36 hbox hb; have n0_ := Aside0.mk (below_step (au1) hb); have n1_ := Aside0.mk (hbox); have n2_ := Aside0.mk ((au31 : w.heap.size ≤ gb211)); have n3_ := Aside0.mk ((au31 : w.heap.size ≤ gb211)); clear HB; have HB := n0_; have BK211 := n1_; have GW211 := n2_; have GE211 := n3_; clear n0_ n1_ n2_ n3_; clear hb hbox hg) | ((with_reducible refine gate_dst (N := 3) rfl ?_); refine box_event ?hg (N := 3) ?hd (cs := #[.slice A1_0 l1_0.length c1_0, .slice A1_1 l1_1.length c1_1, .int .u8 a1_2, .bool a1_3, .int .i64 a1_4, .int .i64 a1_5, .int .i64 a1_6, .slice A1_7 l1_7.length c1_7]) (t := 25) ?hr ?_; (case hd => rfl); (case hg => rfl); (case hr => first | (go_simp; done) | (go_simp; rfl)); intro gb212 hg w37 hbox hb; have n0_ := Aside0.mk (blk_below (g := gb211) (o := .cells #[.slice A0_0 l0_0.length c0_0, .slice A0_1 l0_1.length c0_1, .int .u8 a0_2, .bool a0_3, .int .i64 a0_4, .int .i64 a0_5, .int .i64 a0_6, .slice A0_7 l0_7.length c0_7] 25 (0, 0)) (au24) hb); have n1_ := Aside0.mk (below_step (au10) hb); have n2_ := Aside0.mk (hbox); have n3_ := Aside0.mk ((au74 : w.heap.size ≤ gb212)); have n4_ := Aside0.mk ((au74 : w.heap.size ≤ gb212)); have n5_ := Aside0.mk ((au36 : gb211 ≠ gb212)); have n6_ := Aside0.mk ((au37 : gb212 ≠ gb211)); clear BK211; clear HB; have BK211 := n0_; have HB := n1_; have BK212 := n2_; have GW212 := n3_; have GE212 := n4_; have NB211_212 := n5_; have NB212_211 := n6_; clear n0_ n1_ n2_ n3_ n4_ n5_ n6_; clear hb hbox hg; have hnb38 := NB211_212.out; have hnc38 := NB212_211.out; obtain ⟨hcz39_0, hcz39_1, hcz39_2, hcz39_3, hcz39_4, hcz39_5, hcz39_6, hcz39_7, hfz39_0, hfz39_1, hfz39_2, hfz39_3, hfz39_4, hfz39_5, hfz39_6, hfz39_7⟩ := blk_all8 BK211.out; obtain ⟨hcz40_0, hcz40_1, hcz40_2, hcz40_3, hcz40_4, hcz40_5, hcz40_6, hcz40_7, hfz40_0, hfz40_1, hfz40_2, hfz40_3, hfz40_4, hfz40_5, hfz40_6, hfz40_7⟩ := blk_all8 BK212.out) | ((with_reducible refine gate_callee (f := 25) rfl ?_); refine goesL_ (some 9) rfl rfl Try.func25 (by kernel_rfl) rfl #[.slice A0_0 l0_0.length c0_0, .slice A1_0 l1_0.length c1_0] rfl (au3) ?_; (with_reducible refine (capstanref07_SameKinds.calls k _ _ l0_0 _ _ l1_0 true _ ?side1 ?side2 ?side3 ?side4 A3.out).mono ?_); (case side1 => exact au6); (case side2 => exact HC0_0.out); (case side3 => exact au46); (case side4 => exact HC1_0.out); rintro e w' ⟨rfl, ⟨nd, rfl⟩⟩; refine ⟨_, rfl, ?_⟩) | (go_at_call 25; (with_reducible refine (capstanref07_SameKinds.calls k _ _ l0_1 _ _ l1_1 false _ ?side1 ?side2 ?side3 ?side4 A5.out).mono ?_); (case side1 => exact au52); (case side2 => exact HC0_1.out); (case side3 => exact au53); (case side4 => exact HC1_1.out); rintro e w' ⟨rfl, ⟨nd, rfl⟩⟩))
   go_ret
   exact ⟨au13, au9⟩
 ·
  replace c4 := Bool.eq_false_iff.mpr c4
  subst c4
  have H1 : (some false) = some r := by rw [if_neg (show ¬ (false = true) by decide)] at H; exact H
  clear H
  have H := H1
  clear H1
  obtain rfl := Option.some.inj H
  go_enter Try.func10, Try.ntmps10
  go_wp2_with (first | ((with_reducible refine gate_dst (N := 2) rfl ?_); refine box_event ?hg (N := 2) ?hd (cs := #[.slice A0_0 l0_0.length c0_0, .slice A0_1 l0_1.length c0_1, .int .u8 a0_2, .bool a0_3, .int .i64 a0_4, .int .i64 a0_5, .int .i64 a0_6, .slice A0_7 l0_7.length c0_7]) (t := 25) ?hr ?_; (case hd => rfl); (case hg => rfl); (case hr => first | (go_simp; done) | (go_simp; rfl)); intro gb211 hg w41 hbox hb; have n0_ := Aside0.mk (below_step (au1) hb); have n1_ := Aside0.mk (hbox); have n2_ := Aside0.mk ((au31 : w.heap.size ≤ gb211)); have n3_ := Aside0.mk ((au31 : w.heap.size ≤ gb211)); clear HB; have HB := n0_; have BK211 := n1_; have GW211 := n2_; have GE211 := n3_; clear n0_ n1_ n2_ n3_; clear hb hbox hg) | ((with_reducible refine gate_dst (N := 3) rfl ?_); refine box_event ?hg (N := 3) ?hd (cs := #[.slice A1_0 l1_0.length c1_0, .slice A1_1 l1_1.length c1_1, .int .u8 a1_2, .bool a1_3, .int .i64 a1_4, .int .i64 a1_5, .int .i64 a1_6, .slice A1_7 l1_7.length c1_7]) (t := 25) ?hr ?_; (case hd => rfl); (case hg => rfl); (case hr => first | (go_simp; done) | (go_simp; rfl)); intro gb212 hg w42 hbox hb; have n0_ := Aside0.mk (blk_below (g := gb211) (o := .cells #[.slice A0_0 l0_0.length c0_0, .slice A0_1 l0_1.length c0_1, .int .u8 a0_2, .bool a0_3, .int .i64 a0_4, .int .i64 a0_5, .int .i64 a0_6, .slice A0_7 l0_7.length c0_7] 25 (0, 0)) (au24) hb); have n1_ := Aside0.mk (below_step (au10) hb); have n2_ := Aside0.mk (hbox); have n3_ := Aside0.mk ((au74 : w.heap.size ≤ gb212)); have n4_ := Aside0.mk ((au74 : w.heap.size ≤ gb212)); have n5_ := Aside0.mk ((au36 : gb211 ≠ gb212)); have n6_ := Aside0.mk ((au37 : gb212 ≠ gb211)); clear BK211; clear HB; have BK211 := n0_; have HB := n1_; have BK212 := n2_; have GW212 := n3_; have GE212 := n4_; have NB211_212 := n5_; have NB212_211 := n6_; clear n0_ n1_ n2_ n3_ n4_ n5_ n6_; clear hb hbox hg; have hnb43 := NB211_212.out; have hnc43 := NB212_211.out; obtain ⟨hcz44_0, hcz44_1, hcz44_2, hcz44_3, hcz44_4, hcz44_5, hcz44_6, hcz44_7, hfz44_0, hfz44_1, hfz44_2, hfz44_3, hfz44_4, hfz44_5, hfz44_6, hfz44_7⟩ := blk_all8 BK211.out; obtain ⟨hcz45_0, hcz45_1, hcz45_2, hcz45_3, hcz45_4, hcz45_5, hcz45_6, hcz45_7, hfz45_0, hfz45_1, hfz45_2, hfz45_3, hfz45_4, hfz45_5, hfz45_6, hfz45_7⟩ := blk_all8 BK212.out) | ((with_reducible refine gate_callee (f := 25) rfl ?_); refine goesL_ (some 9) rfl rfl Try.func25 (by kernel_rfl) rfl #[.slice A0_0 l0_0.length c0_0, .slice A1_0 l1_0.length c1_0] rfl (au3) ?_; (with_reducible refine (capstanref07_SameKinds.calls k _ _ l0_0 _ _ l1_0 false _ ?side1 ?side2 ?side3 ?side4 A3.out).mono ?_); (case side1 => exact au6); (case side2 => exact HC0_0.out); (case side3 => exact au46); (case side4 => exact HC1_0.out); rintro e w' ⟨rfl, ⟨nd, rfl⟩⟩; refine ⟨_, rfl, ?_⟩))
  go_ret
  exact ⟨au13, au9⟩

/-! ### capstanlaw07_told: function 29 -/
def capstanlaw07_told.f (k : Nat) (a0 : Int) (l1 : List Int) : Option (Bool) := (method_Read.f k l1 0).bind fun bt215 => ((capstanref07_Same.f k bt215.1 bt215.2.1 bt215.2.2.1 bt215.2.2.2.1 bt215.2.2.2.2.1 bt215.2.2.2.2.2.1 bt215.2.2.2.2.2.2.1 bt215.2.2.2.2.2.2.2.1 ([] : List Int) ([] : List Int) 0 false 0 0 0 ([] : List (S114))).bind fun t232 => (if t232 = true then (if bt215.2.2.2.2.2.2.2.2.1 = 0 then (some (bt215.2.2.2.2.2.2.2.2.2 == a0)) else (none)) else (none)))
theorem capstanlaw07_told.mono : ∀ a0 a1 k, LeO (capstanlaw07_told.f k a0 a1) (capstanlaw07_told.f (k + 1) a0 a1) := by
 intro a0 a1 k
 unfold capstanlaw07_told.f
 repeat' first
   | (with_reducible exact capstanref07_Same.mono _ _ _ _ _ _ _ _ _ _ _ _ _ _ _ _ _)
   | (with_reducible exact method_Read.mono _ _ _)
   | (with_reducible exact LeO.refl _)
   | (with_reducible exact LeO.none _)
   | (with_reducible refine LeO.ite ?_ ?_)
   | (with_reducible refine LeO.bind ?_ (fun _ => ?_))
   | exact capstanref07_Same.mono _ _ _ _ _ _ _ _ _ _ _ _ _ _ _ _ _
   | exact method_Read.mono _ _ _
   | exact LeO.none _
   | refine LeO.ite ?_ ?_
   | refine LeO.bind ?_ (fun _ => ?_)
set_option maxHeartbeats 8000000 in
set_option maxRecDepth 100000 in
theorem capstanlaw07_told.calls (k : Nat) (a0 : Int) (A1 : Option Addr) (c1 : Nat) (l1 : List Int) (r : Bool) (w : World) (hr1 : Kd.C (Kd.int .u8) w A1 l1.length l1) (hc1 : l1.length ≤ c1) (h : capstanlaw07_told.f k a0 l1 = some r) :
  Calls Try.prog 29 #[.int .i64 a0, .slice A1 l1.length c1] w fun e w' => e = .returned (.bool r) ∧ Below w.heap.size w w' := by
 have hu25 := Try.underlying25
 have HR1 := Aside0.mk hr1
 have HC1 := Aside0.mk hc1
 clear hr1 hc1
 have HB := Aside0.mk (Below.refl w.heap.size w)
 have H : ((method_Read.f k l1 0).bind fun bt215 => ((capstanref07_Same.f k bt215.1 bt215.2.1 bt215.2.2.1 bt215.2.2.2.1 bt215.2.2.2.2.1 bt215.2.2.2.2.2.1 bt215.2.2.2.2.2.2.1 bt215.2.2.2.2.2.2.2.1 ([] : List Int) ([] : List Int) 0 false 0 0 0 ([] : List (S114))).bind fun t232 => (if t232 = true then (if bt215.2.2.2.2.2.2.2.2.1 = 0 then (some (bt215.2.2.2.2.2.2.2.2.2 == a0)) else (none)) else (none)))) = some r := h
 clear h
 replace H := Option.bind_eq_some_iff.mp H
 obtain ⟨⟨t215, t218, t221, t222, t223, t224, t225, t226, t229, t230⟩, A30, H⟩ := H
 replace H : ((capstanref07_Same.f k t215 t218 t221 t222 t223 t224 t225 t226 ([] : List Int) ([] : List Int) 0 false 0 0 0 ([] : List (S114))).bind fun t232 => (if t232 = true then (if t229 = 0 then (some (t230 == a0)) else (none)) else (none))) = some r := H
 have A3 := Aside0.mk A30
 clear A30
 replace H := Option.bind_eq_some_iff.mp H
 obtain ⟨t232, A40, H⟩ := H
 replace H : (if t232 = true then (if t229 = 0 then (some (t230 == a0)) else (none)) else (none)) = some r := H
 have A4 := Aside0.mk A40
 clear A40
 by_cases c5 : t232 = true
 ·
  subst c5
  have H1 : (if t229 = 0 then (some (t230 == a0)) else (none)) = some r := by rw [if_pos rfl] at H; exact H
  clear H
  have H := H1
  clear H1
  by_cases c6 : t229 = 0
  ·
   rw [if_pos c6] at H
   have c6b0 : (t229 == 0) = true := beq_iff_eq.mpr c6
   have c6b1 : (t229 != 0) = false := bne_eq_false_iff_eq.mpr c6
   clear c6
   obtain rfl := Option.some.inj H
   go_enter Try.func29, Try.ntmps29
   go_wp2_with (first | ((with_reducible refine gate_callee (f := 8) rfl ?_); refine goesL_ (some 10) rfl rfl Try.func8 (by kernel_rfl) rfl #[.slice A1 l1.length c1, .int .i64 0] rfl (au3) ?_; (with_reducible refine (method_Read.calls k _ _ l1 0 t215 t218 t221 t222 t223 t224 t225 t226 t229 t230 _ ?side1 ?side2 A3.out).mono ?_); (case side1 => repeat (first | exact HR1.out | (with_reducible refine Kd.C_alloc ?_ _) | (with_reducible refine Kd.C_drewN ?_ _) | (with_reducible refine Kd.C_drew ?_))); (case side2 => exact HC1.out); rintro e w7 ⟨v216, v219, v227, rfl, ho0, ho1, ho2, hb⟩; refine ⟨_, rfl, ?_⟩; have n0_ := Aside0.mk (Kd.R_lower ho0 (below_size (au1))); have n1_ := Aside0.mk (Kd.R_lower ho1 (below_size (au1))); have n2_ := Aside0.mk (Kd.R_lower ho2 (below_size (au1))); have n3_ := Aside0.mk (below_step (au1) hb); clear HB; have HO217 := n0_; have HO220 := n1_; have HO228 := n2_; have HB := n3_; clear n0_ n1_ n2_ n3_; (try clear hb); (try clear hb2); (try clear hk); (try clear hi); (try clear ho0); (try clear ho1); (try clear ho2)) | ((with_reducible refine gate_dst (N := 5) rfl ?_); refine box_event ?hg (N := 5) ?hd (cs := #[.slice none 0 0, .slice none 0 0, .int .u8 0, .bool false, .int .i64 0, .int .i64 0, .int .i64 0, .slice none 0 0]) (t := 25) ?hr ?_; (case hd => rfl); (case hg => rfl); (case hr => first | (go_simp; done) | (go_simp; rfl)); intro gb231 hg w8 hbox hb; have n0_ := Aside0.mk (Kd.R_below (by (with_reducible repeat (first | apply Kd.R_alloc | apply Kd.R_drewN | apply Kd.R_drew)); first | exact HO217.out | exact Kd.R_mono (HO217.out) (fun _ h_ => h_.2)) hb); have n1_ := Aside0.mk (Kd.R_below (by (with_reducible repeat (first | apply Kd.R_alloc | apply Kd.R_drewN | apply Kd.R_drew)); first | exact HO220.out | exact Kd.R_mono (HO220.out) (fun _ h_ => h_.2)) hb); have n2_ := Aside0.mk (Kd.R_below (by (with_reducible repeat (first | apply Kd.R_alloc | apply Kd.R_drewN | apply Kd.R_drew)); first | exact HO228.out | exact Kd.R_mono (HO228.out) (fun _ h_ => h_.2)) hb); have n3_ := Aside0.mk (below_step (au1) hb); have n4_ := Aside0.mk (hbox); have n5_ := Aside0.mk ((au31 : w.heap.size ≤ gb231)); have n6_ := Aside0.mk ((au31 : w.heap.size ≤ gb231)); clear HO217; clear HO220; clear HO228; clear HB; have HO217 := n0_; have HO220 := n1_; have HO228 := n2_; have HB := n3_; have BK231 := n4_; have GW231 := n5_; have GE231 := n6_; clear n0_ n1_ n2_ n3_ n4_ n5_ n6_; clear hb hbox hg; obtain ⟨Ao9, co9, eo9⟩ := Kd.R_slice HO217.out; subst eo9; obtain ⟨hcz10_0, hcz10_1, hcz10_2, hcz10_3, hcz10_4, hcz10_5, hcz10_6, hcz10_7, hfz10_0, hfz10_1, hfz10_2, hfz10_3, hfz10_4, hfz10_5, hfz10_6, hfz10_7⟩ := blk_all8 BK231.out; obtain ⟨Ao11, co11, eo11⟩ := Kd.R_slice HO220.out; subst eo11; obtain ⟨Ao12, co12, eo12⟩ := Kd.R_slice HO228.out; subst eo12) | ((with_reducible refine gate_callee (f := 10) rfl ?_); refine goesL_ (some 16) rfl rfl Try.func10 (by kernel_rfl) rfl #[.agg #[.slice Ao9 t215.length co9, .slice Ao11 t218.length co11, .int .u8 t221, .bool t222, .int .i64 t223, .int .i64 t224, .int .i64 t225, .slice Ao12 t226.length co12], .agg #[.slice none 0 0, .slice none 0 0, .int .u8 0, .bool false, .int .i64 0, .int .i64 0, .int .i64 0, .slice none 0 0]] rfl (au3) ?_; (refine (capstanref07_Same.calls k _ _ t215 _ _ t218 t221 t222 t223 t224 t225 _ _ t226 _ _ ([] : List Int) _ _ ([] : List Int) 0 false 0 0 0 _ _ ([] : List (S114)) true _ ?side1 ?side2 ?side3 ?side4 ?side5 ?side6 ?side7 ?side8 ?side9 ?side10 ?side11 ?side12 A4.out).mono ?_); (case side1 => refine (Kd.R_reads' (e := 5) (base := w.heap.size) (ok := fun k_ => some k_ ≠ (.slice Ao11 t218.length co11 : Value).ownBlock) (n := t215.length) (c := co9) ?_).2.2; exact (au33)); (case side2 => exact (Kd.R_reads' HO217.out).2.1); (case side3 => refine (Kd.R_reads' (e := 5) (base := w.heap.size) (ok := fun k_ => some k_ ≠ (.slice Ao9 t215.length co9 : Value).ownBlock) (n := t218.length) (c := co11) ?_).2.2; exact (au34)); (case side4 => exact (Kd.R_reads' HO220.out).2.1); (case side5 => refine (Kd.R_reads' (e := 114) (base := w.heap.size) (ok := fun k_ => True) (n := t226.length) (c := co12) ?_).2.2; exact (au35)); (case side6 => exact (Kd.R_reads' HO228.out).2.1); (case side7 => exact Kd.C_nil _ _); (case side8 => exact Nat.le_refl _); (case side9 => exact Kd.C_nil _ _); (case side10 => exact Nat.le_refl _); (case side11 => exact Kd.C_nil _ _); (case side12 => exact Nat.le_refl _); rintro e w13 ⟨rfl, hb⟩; refine ⟨_, rfl, ?_⟩; have n0_ := Aside0.mk (Kd.R_below (au33) hb); have n1_ := Aside0.mk (Kd.R_below (au34) hb); have n2_ := Aside0.mk (Kd.R_below (au35) hb); have n3_ := Aside0.mk (blk_below (g := gb231) (o := .cells #[.slice Ao9 t215.length co9, .slice Ao11 t218.length co11, .int .u8 t221, .bool t222, .int .i64 t223, .int .i64 t224, .int .i64 t225, .slice Ao12 t226.length co12] 25 (0, 0)) (by (with_reducible repeat (first | refine blk_drewN ?_ _ | refine blk_drew ?_ | refine blk_alloc ?_ _)); refine blk_put (cs := #[.slice Ao9 t215.length co9, .slice Ao11 t218.length co11, .int .u8 t221, .bool t222, .int .i64 t223, .int .i64 t224, .int .i64 t225, .slice none 0 0]) ?_ 7 _ rfl; (with_reducible repeat (first | refine blk_drewN ?_ _ | refine blk_drew ?_ | refine blk_alloc ?_ _)); refine blk_put (cs := #[.slice Ao9 t215.length co9, .slice Ao11 t218.length co11, .int .u8 t221, .bool t222, .int .i64 t223, .int .i64 t224, .int .i64 0, .slice none 0 0]) ?_ 6 _ rfl; (with_reducible repeat (first | refine blk_drewN ?_ _ | refine blk_drew ?_ | refine blk_alloc ?_ _)); refine blk_put (cs := #[.slice Ao9 t215.length co9, .slice Ao11 t218.length co11, .int .u8 t221, .bool t222, .int .i64 t223, .int .i64 0, .int .i64 0, .slice none 0 0]) ?_ 5 _ rfl; (with_reducible repeat (first | refine blk_drewN ?_ _ | refine blk_drew ?_ | refine blk_alloc ?_ _)); refine blk_put (cs := #[.slice Ao9 t215.length co9, .slice Ao11 t218.length co11, .int .u8 t221, .bool t222, .int .i64 0, .int .i64 0, .int .i64 0, .slice none 0 0]) ?_ 4 _ rfl; (with_reducible repeat (first | refine blk_drewN ?_ _ | refine blk_drew ?_ | refine blk_alloc ?_ _)); refine blk_put (cs := #[.slice Ao9 t215.length co9, .slice Ao11 t218.length co11, .int .u8 t221, .bool false, .int .i64 0, .int .i64 0, .int .i64 0, .slice none 0 0]) ?_ 3 _ rfl; (with_reducible repeat (first | refine blk_drewN ?_ _ | refine blk_drew ?_ | refine blk_alloc ?_ _)); refine blk_put (cs := #[.slice Ao9 t215.length co9, .slice Ao11 t218.length co11, .int .u8 0, .bool false, .int .i64 0, .int .i64 0, .int .i64 0, .slice none 0 0]) ?_ 2 _ rfl; (with_reducible repeat (first | refine blk_drewN ?_ _ | refine blk_drew ?_ | refine blk_alloc ?_ _)); refine blk_put (cs := #[.slice Ao9 t215.length co9, .slice none 0 0, .int .u8 0, .bool false, .int .i64 0, .int .i64 0, .int .i64 0, .slice none 0 0]) ?_ 1 _ rfl; (with_reducible repeat (first | refine blk_drewN ?_ _ | refine blk_drew ?_ | refine blk_alloc ?_ _)); refine blk_put (cs := #[.slice none 0 0, .slice none 0 0, .int .u8 0, .bool false, .int .i64 0, .int .i64 0, .int .i64 0, .slice none 0 0]) ?_ 0 _ rfl; (with_reducible repeat (first | refine blk_drewN ?_ _ | refine blk_drew ?_ | refine blk_alloc ?_ _)); exact BK231.out) hb); have n4_ := Aside0.mk (below_step (by repeat (first | (with_reducible first | exact HB.out | apply below_alloc | apply pw_below_drewN | apply below_drew1 | refine below_set ?_ GE231.out) | exact HB.out | exact ⟨HB.out.os, HB.out.tape, HB.out.output, HB.out.size, HB.out.block⟩)) hb); clear HO217; clear HO220; clear HO228; clear BK231; clear HB; have HO217 := n0_; have HO220 := n1_; have HO228 := n2_; have BK231 := n3_; have HB := n4_; clear n0_ n1_ n2_ n3_ n4_; (try clear hb); (try clear hb2); (try clear hk); (try clear hi)))
   go_ret
   exact ⟨au13, by repeat (first | (with_reducible first | exact HB.out | apply below_alloc | apply pw_below_drewN | apply below_drew1 | refine below_set ?_ GE231.out) | exact HB.out | exact ⟨HB.out.os, HB.out.tape, HB.out.output, HB.out.size, HB.out.block⟩)⟩
  ·
   rw [if_neg c6] at H
   exact absurd H (by simp)
 ·
  replace c5 := Bool.eq_false_iff.mpr c5
  subst c5
  have H1 : (none) = some r := by rw [if_neg (show ¬ (false = true) by decide)] at H; exact H
  clear H
  have H := H1
  clear H1
  exact absurd H (by simp)

/-! ### capstanlaw07_awake: function 28 -/
def capstanlaw07_awake.f (k : Nat)  : Option (Bool) := (method_Bytes.f k (([1] : List Int)) (([2] : List Int)) 1 true 258 3 0 ([] : List (S114))).bind fun bt239 => (if (strOfNums bt239.1).toList = ([1, 1, 1, 2, 1, 1, 2, 1, 0, 3, 0, 0, 0] : List UInt8) then (if bt239.2 = 0 then ((capstanlaw07_told.f k 70 (([5] : List Int))).bind fun t246 => (if t246 = true then ((capstanlaw07_told.f k 10 (([1] : List Int))).bind fun t250 => (if t250 = true then ((capstanlaw07_told.f k 70 (([1, 4] : List Int))).bind fun t254 => (if t254 = true then ((capstanlaw07_told.f k 70 (([0, 17] : List Int))).bind fun t258 => (some t258)) else (none))) else (none))) else (none))) else (none)) else (none))
theorem capstanlaw07_awake.mono : ∀ k, LeO (capstanlaw07_awake.f k ) (capstanlaw07_awake.f (k + 1) ) := by
 intro  k
 unfold capstanlaw07_awake.f
 repeat' first
   | (with_reducible exact capstanlaw07_told.mono _ _ _)
   | (with_reducible exact method_Bytes.mono _ _ _ _ _ _ _ _ _)
   | (with_reducible exact LeO.refl _)
   | (with_reducible exact LeO.none _)
   | (with_reducible refine LeO.ite ?_ ?_)
   | (with_reducible refine LeO.bind ?_ (fun _ => ?_))
   | exact capstanlaw07_told.mono _ _ _
   | exact method_Bytes.mono _ _ _ _ _ _ _ _ _
   | exact LeO.none _
   | refine LeO.ite ?_ ?_
   | refine LeO.bind ?_ (fun _ => ?_)
set_option maxHeartbeats 8000000 in
set_option maxRecDepth 100000 in
theorem capstanlaw07_awake.calls (k : Nat)  (r : Bool) (w : World) (h : capstanlaw07_awake.f k  = some r) :
  Calls Try.prog 28 #[] w fun e w' => e = .returned (.bool r) ∧ Below w.heap.size w w' := by
 have hu25 := Try.underlying25
 have HB := Aside0.mk (Below.refl w.heap.size w)
 have H : ((method_Bytes.f k (([1] : List Int)) (([2] : List Int)) 1 true 258 3 0 ([] : List (S114))).bind fun bt239 => (if (strOfNums bt239.1).toList = ([1, 1, 1, 2, 1, 1, 2, 1, 0, 3, 0, 0, 0] : List UInt8) then (if bt239.2 = 0 then ((capstanlaw07_told.f k 70 (([5] : List Int))).bind fun t246 => (if t246 = true then ((capstanlaw07_told.f k 10 (([1] : List Int))).bind fun t250 => (if t250 = true then ((capstanlaw07_told.f k 70 (([1, 4] : List Int))).bind fun t254 => (if t254 = true then ((capstanlaw07_told.f k 70 (([0, 17] : List Int))).bind fun t258 => (some t258)) else (none))) else (none))) else (none))) else (none)) else (none))) = some r := h
 clear h
 obtain ⟨y233, hy233⟩ : ∃ y_ : List Int, y_ = (([1] : List Int)) := ⟨_, rfl⟩
 replace H : ((method_Bytes.f k y233 (([2] : List Int)) 1 true 258 3 0 ([] : List (S114))).bind fun bt239 => (if (strOfNums bt239.1).toList = ([1, 1, 1, 2, 1, 1, 2, 1, 0, 3, 0, 0, 0] : List UInt8) then (if bt239.2 = 0 then ((capstanlaw07_told.f k 70 (([5] : List Int))).bind fun t246 => (if t246 = true then ((capstanlaw07_told.f k 10 (([1] : List Int))).bind fun t250 => (if t250 = true then ((capstanlaw07_told.f k 70 (([1, 4] : List Int))).bind fun t254 => (if t254 = true then ((capstanlaw07_told.f k 70 (([0, 17] : List Int))).bind fun t258 => (some t258)) else (none))) else (none))) else (none))) else (none)) else (none))) = some r := by first | (rw [hy233]; with_reducible exact H) | (have H2_ := (Option.bind_some _ _).symm.trans H; rw [hy233]; with_reducible exact H2_) | (have H2_ := (Option.bind_some _ _).symm.trans H; with_reducible exact H2_) | with_reducible exact H | (rw [hy233]; exact H) | exact H
 have Ny233 := Aside0.mk hy233
 clear hy233
 obtain ⟨y236, hy236⟩ : ∃ y_ : List Int, y_ = (([2] : List Int)) := ⟨_, rfl⟩
 replace H : ((method_Bytes.f k y233 y236 1 true 258 3 0 ([] : List (S114))).bind fun bt239 => (if (strOfNums bt239.1).toList = ([1, 1, 1, 2, 1, 1, 2, 1, 0, 3, 0, 0, 0] : List UInt8) then (if bt239.2 = 0 then ((capstanlaw07_told.f k 70 (([5] : List Int))).bind fun t246 => (if t246 = true then ((capstanlaw07_told.f k 10 (([1] : List Int))).bind fun t250 => (if t250 = true then ((capstanlaw07_told.f k 70 (([1, 4] : List Int))).bind fun t254 => (if t254 = true then ((capstanlaw07_told.f k 70 (([0, 17] : List Int))).bind fun t258 => (some t258)) else (none))) else (none))) else (none))) else (none)) else (none))) = some r := by first | (rw [hy236]; with_reducible exact H) | (have H2_ := (Option.bind_some _ _).symm.trans H; rw [hy236]; with_reducible exact H2_) | (have H2_ := (Option.bind_some _ _).symm.trans H; with_reducible exact H2_) | with_reducible exact H | (rw [hy236]; exact H) | exact H
 have Ny236 := Aside0.mk hy236
 clear hy236
 replace H := Option.bind_eq_some_iff.mp H
 obtain ⟨⟨t239, t242⟩, A10, H⟩ := H
 replace H : (if (strOfNums t239).toList = ([1, 1, 1, 2, 1, 1, 2, 1, 0, 3, 0, 0, 0] : List UInt8) then (if t242 = 0 then ((capstanlaw07_told.f k 70 (([5] : List Int))).bind fun t246 => (if t246 = true then ((capstanlaw07_told.f k 10 (([1] : List Int))).bind fun t250 => (if t250 = true then ((capstanlaw07_told.f k 70 (([1, 4] : List Int))).bind fun t254 => (if t254 = true then ((capstanlaw07_told.f k 70 (([0, 17] : List Int))).bind fun t258 => (some t258)) else (none))) else (none))) else (none))) else (none)) else (none)) = some r := H
 have A1 := Aside0.mk A10
 clear A10
 by_cases c2 : (strOfNums t239).toList = ([1, 1, 1, 2, 1, 1, 2, 1, 0, 3, 0, 0, 0] : List UInt8)
 ·
  rw [if_pos c2] at H
  have c2b0 : ((strOfNums t239).toList == ([1, 1, 1, 2, 1, 1, 2, 1, 0, 3, 0, 0, 0] : List UInt8)) = true := beq_iff_eq.mpr c2
  have c2b1 : ((strOfNums t239).toList != ([1, 1, 1, 2, 1, 1, 2, 1, 0, 3, 0, 0, 0] : List UInt8)) = false := bne_eq_false_iff_eq.mpr c2
  clear c2
  by_cases c3 : t242 = 0
  ·
   rw [if_pos c3] at H
   have c3b0 : (t242 == 0) = true := beq_iff_eq.mpr c3
   have c3b1 : (t242 != 0) = false := bne_eq_false_iff_eq.mpr c3
   clear c3
   obtain ⟨y243, hy243⟩ : ∃ y_ : List Int, y_ = (([5] : List Int)) := ⟨_, rfl⟩
   replace H : ((capstanlaw07_told.f k 70 y243).bind fun t246 => (if t246 = true then ((capstanlaw07_told.f k 10 (([1] : List Int))).bind fun t250 => (if t250 = true then ((capstanlaw07_told.f k 70 (([1, 4] : List Int))).bind fun t254 => (if t254 = true then ((capstanlaw07_told.f k 70 (([0, 17] : List Int))).bind fun t258 => (some t258)) else (none))) else (none))) else (none))) = some r := by first | (rw [hy243]; with_reducible exact H) | (have H2_ := (Option.bind_some _ _).symm.trans H; rw [hy243]; with_reducible exact H2_) | (have H2_ := (Option.bind_some _ _).symm.trans H; with_reducible exact H2_) | with_reducible exact H | (rw [hy243]; exact H) | exact H
   have Ny243 := Aside0.mk hy243
   clear hy243
   replace H := Option.bind_eq_some_iff.mp H
   obtain ⟨t246, A40, H⟩ := H
   replace H : (if t246 = true then ((capstanlaw07_told.f k 10 (([1] : List Int))).bind fun t250 => (if t250 = true then ((capstanlaw07_told.f k 70 (([1, 4] : List Int))).bind fun t254 => (if t254 = true then ((capstanlaw07_told.f k 70 (([0, 17] : List Int))).bind fun t258 => (some t258)) else (none))) else (none))) else (none)) = some r := H
   have A4 := Aside0.mk A40
   clear A40
   by_cases c5 : t246 = true
   ·
    subst c5
    have H1 : ((capstanlaw07_told.f k 10 (([1] : List Int))).bind fun t250 => (if t250 = true then ((capstanlaw07_told.f k 70 (([1, 4] : List Int))).bind fun t254 => (if t254 = true then ((capstanlaw07_told.f k 70 (([0, 17] : List Int))).bind fun t258 => (some t258)) else (none))) else (none))) = some r := by rw [if_pos rfl] at H; exact H
    clear H
    have H := H1
    clear H1
    obtain ⟨y247, hy247⟩ : ∃ y_ : List Int, y_ = (([1] : List Int)) := ⟨_, rfl⟩
    replace H : ((capstanlaw07_told.f k 10 y247).bind fun t250 => (if t250 = true then ((capstanlaw07_told.f k 70 (([1, 4] : List Int))).bind fun t254 => (if t254 = true then ((capstanlaw07_told.f k 70 (([0, 17] : List Int))).bind fun t258 => (some t258)) else (none))) else (none))) = some r := by first | (rw [hy247]; with_reducible exact H) | (have H2_ := (Option.bind_some _ _).symm.trans H; rw [hy247]; with_reducible exact H2_) | (have H2_ := (Option.bind_some _ _).symm.trans H; with_reducible exact H2_) | with_reducible exact H | (rw [hy247]; exact H) | exact H
    have Ny247 := Aside0.mk hy247
    clear hy247
    replace H := Option.bind_eq_some_iff.mp H
    obtain ⟨t250, A60, H⟩ := H
    replace H : (if t250 = true then ((capstanlaw07_told.f k 70 (([1, 4] : List Int))).bind fun t254 => (if t254 = true then ((capstanlaw07_told.f k 70 (([0, 17] : List Int))).bind fun t258 => (some t258)) else (none))) else (none)) = some r := H
    have A6 := Aside0.mk A60
    clear A60
    by_cases c7 : t250 = true
    ·
     subst c7
     have H1 : ((capstanlaw07_told.f k 70 (([1, 4] : List Int))).bind fun t254 => (if t254 = true then ((capstanlaw07_told.f k 70 (([0, 17] : List Int))).bind fun t258 => (some t258)) else (none))) = some r := by rw [if_pos rfl] at H; exact H
     clear H
     have H := H1
     clear H1
     obtain ⟨y251, hy251⟩ : ∃ y_ : List Int, y_ = (([1, 4] : List Int)) := ⟨_, rfl⟩
     replace H : ((capstanlaw07_told.f k 70 y251).bind fun t254 => (if t254 = true then ((capstanlaw07_told.f k 70 (([0, 17] : List Int))).bind fun t258 => (some t258)) else (none))) = some r := by first | (rw [hy251]; with_reducible exact H) | (have H2_ := (Option.bind_some _ _).symm.trans H; rw [hy251]; with_reducible exact H2_) | (have H2_ := (Option.bind_some _ _).symm.trans H; with_reducible exact H2_) | with_reducible exact H | (rw [hy251]; exact H) | exact H
     have Ny251 := Aside0.mk hy251
     clear hy251
     replace H := Option.bind_eq_some_iff.mp H
     obtain ⟨t254, A80, H⟩ := H
     replace H : (if t254 = true then ((capstanlaw07_told.f k 70 (([0, 17] : List Int))).bind fun t258 => (some t258)) else (none)) = some r := H
     have A8 := Aside0.mk A80
     clear A80
     by_cases c9 : t254 = true
     ·
      subst c9
      have H1 : ((capstanlaw07_told.f k 70 (([0, 17] : List Int))).bind fun t258 => (some t258)) = some r := by rw [if_pos rfl] at H; exact H
      clear H
      have H := H1
      clear H1
      obtain ⟨y255, hy255⟩ : ∃ y_ : List Int, y_ = (([0, 17] : List Int)) := ⟨_, rfl⟩
      replace H : ((capstanlaw07_told.f k 70 y255).bind fun t258 => (some t258)) = some r := by first | (rw [hy255]; with_reducible exact H) | (have H2_ := (Option.bind_some _ _).symm.trans H; rw [hy255]; with_reducible exact H2_) | (have H2_ := (Option.bind_some _ _).symm.trans H; with_reducible exact H2_) | with_reducible exact H | (rw [hy255]; exact H) | exact H
      have Ny255 := Aside0.mk hy255
      clear hy255
      replace H := Option.bind_eq_some_iff.mp H
      obtain ⟨t258, A100, H⟩ := H
      replace H : (some t258) = some r := H
      have A10 := Aside0.mk A100
      clear A100
      obtain rfl := Option.some.inj H
      go_enter Try.func28, Try.ntmps28
      go_wp2_with (first | ((with_reducible refine gate_dst (N := 4) rfl ?_); (try (refine gate_guard (by rfl) ?_; dsimp only)); refine Kd.R_lit (Kd.int .u8) _ 5 ?hg (N := 4) ?hd (xs := ([1] : List Int)) (inner := [.int .u8 1]) (ok := fun _ => True) (okp := fun _ => True) ?hr ?hp (fun _ hk => hk) trivial (Below.refl _ _) (Nat.le_refl _) (by simp) ?_; (case hd => rfl); (case hg => rfl); (case hr => first | (go_simp; done) | (go_simp; rfl)); (case hp => exact (Reps.one (show Kd.M (Kd.int .u8) _ _ _ 1 [.int .u8 1] from rfl) (Reps.none _ _))); intro v234 w11 ho12 hb hg_ hnew_; clear hg_ hnew_; (first | rw [← Ny233.out] at ho12 | (simp only [Int.reduceToNat] at ho12; rw [← Ny233.out] at ho12)); have n0_ := Aside0.mk (Kd.R_lower ho12 (below_size (au1))); have n1_ := Aside0.mk (below_step (au1) hb); clear HB; have HO235 := n0_; have HB := n1_; clear n0_ n1_; clear hb ho12) | ((with_reducible refine gate_dst (N := 5) rfl ?_); (try (refine gate_guard (by rfl) ?_; dsimp only)); refine Kd.R_lit (Kd.int .u8) _ 5 ?hg (N := 5) ?hd (xs := ([2] : List Int)) (inner := [.int .u8 2]) (ok := fun _ => True) (okp := fun _ => True) ?hr ?hp (fun _ hk => hk) trivial (Below.refl _ _) (Nat.le_refl _) (by simp) ?_; (case hd => rfl); (case hg => rfl); (case hr => first | (go_simp; done) | (go_simp; rfl)); (case hp => exact (Reps.one (show Kd.M (Kd.int .u8) _ _ _ 2 [.int .u8 2] from rfl) (Reps.none _ _))); intro v237 w13 ho14 hb hg_ hnew_; clear hg_ hnew_; (first | rw [← Ny236.out] at ho14 | (simp only [Int.reduceToNat] at ho14; rw [← Ny236.out] at ho14)); have n0_ := Aside0.mk (Kd.R_elder' (au22) (Kd.R_base ho14) hb); have n1_ := Aside0.mk (Kd.R_lower (Kd.R_new' ho14 (Kd.R_lt (au22))) (below_size (au1))); have n2_ := Aside0.mk (below_step (au1) hb); clear HO235; clear HB; have HO235 := n0_; have HO238 := n1_; have HB := n2_; clear n0_ n1_ n2_; clear hb ho14; obtain ⟨Ao15, co15, eo15⟩ := Kd.R_slice HO238.out; subst eo15; obtain ⟨Ao16, co16, eo16⟩ := Kd.R_slice HO235.out; subst eo16) | ((with_reducible refine gate_callee (f := 21) rfl ?_); refine goesL_ (some 7) rfl rfl Try.func21 (by kernel_rfl) rfl #[.agg #[.slice Ao16 y233.length co16, .slice Ao15 y236.length co15, .int .u8 1, .bool true, .int .i64 258, .int .i64 3, .int .i64 0, .slice none 0 0]] rfl (au3) ?_; (refine (method_Bytes.calls k _ _ y233 _ _ y236 1 true 258 3 0 _ _ ([] : List (S114)) t239 t242 _ ?side1 ?side2 ?side3 ?side4 ?side5 ?side6 A1.out).mono ?_); (case side1 => repeat (first | exact (Kd.R_reads' HO235.out).2.2 | (with_reducible refine Kd.C_alloc ?_ _) | (with_reducible refine Kd.C_drewN ?_ _) | (with_reducible refine Kd.C_drew ?_))); (case side2 => exact (Kd.R_reads' HO235.out).2.1); (case side3 => repeat (first | exact (Kd.R_reads' HO238.out).2.2 | (with_reducible refine Kd.C_alloc ?_ _) | (with_reducible refine Kd.C_drewN ?_ _) | (with_reducible refine Kd.C_drew ?_))); (case side4 => exact (Kd.R_reads' HO238.out).2.1); (case side5 => exact Kd.C_nil _ _); (case side6 => exact Nat.le_refl _); rintro e w17 ⟨v240, rfl, ho0, hb⟩; refine ⟨_, rfl, ?_⟩; have n0_ := Aside0.mk (Kd.R_elder' (au22) (Kd.R_base ho0) hb); have n1_ := Aside0.mk (Kd.R_elder' (au26) (Kd.R_base ho0) hb); have n2_ := Aside0.mk (Kd.R_lower (Kd.R_new' (Kd.R_new' ho0 (Kd.R_lt (au22))) (Kd.R_lt (au26))) (below_size (au1))); have n3_ := Aside0.mk (below_step (au1) hb); clear HO235; clear HO238; clear HB; have HO235 := n0_; have HO238 := n1_; have HO241 := n2_; have HB := n3_; clear n0_ n1_ n2_ n3_; (try clear hb); (try clear hb2); (try clear hk); (try clear hi); (try clear ho0); have hcv18 := own_string (P := Try.prog) Try.underlying22 Try.underlying5 Try.underlying9 (Kd.own_of_R HO241.out); (try have hcv19 := fun n_ : Nat => own_string (P := Try.prog) Try.underlying22 Try.underlying5 Try.underlying9 (Kd.own_of_R (Kd.R_drewN HO241.out n_)))) | ((with_reducible refine gate_dst (N := 18) rfl ?_); (try (refine gate_guard (by rfl) ?_; dsimp only)); refine Kd.R_lit (Kd.int .u8) _ 5 ?hg (N := 18) ?hd (xs := ([5] : List Int)) (inner := [.int .u8 5]) (ok := fun _ => True) (okp := fun _ => True) ?hr ?hp (fun _ hk => hk) trivial (Below.refl _ _) (Nat.le_refl _) (by simp) ?_; (case hd => rfl); (case hg => rfl); (case hr => first | (go_simp; done) | (go_simp; rfl)); (case hp => exact (Reps.one (show Kd.M (Kd.int .u8) _ _ _ 5 [.int .u8 5] from rfl) (Reps.none _ _))); intro v244 w20 ho21 hb hg_ hnew_; clear hg_ hnew_; (first | rw [← Ny243.out] at ho21 | (simp only [Int.reduceToNat] at ho21; rw [← Ny243.out] at ho21)); have n0_ := Aside0.mk (Kd.R_elder' (au22) (Kd.R_base ho21) hb); have n1_ := Aside0.mk (Kd.R_elder' (au26) (Kd.R_base ho21) hb); have n2_ := Aside0.mk (Kd.R_elder' (au32) (Kd.R_base ho21) hb); have n3_ := Aside0.mk (Kd.R_lower (Kd.R_new' (Kd.R_new' (Kd.R_new' ho21 (Kd.R_lt (au22))) (Kd.R_lt (au26))) (Kd.R_lt (au32))) (below_size (au1))); have n4_ := Aside0.mk (below_step (au1) hb); clear HO235; clear HO238; clear HO241; clear HB; have HO235 := n0_; have HO238 := n1_; have HO241 := n2_; have HO245 := n3_; have HB := n4_; clear n0_ n1_ n2_ n3_ n4_; clear hb ho21; obtain ⟨Ao22, co22, eo22⟩ := Kd.R_slice HO245.out; subst eo22) | ((fail_if_success (have h_ := w23)); go_at_call 29; (with_reducible refine (capstanlaw07_told.calls k 70 _ _ y243 true _ ?side1 ?side2 A4.out).mono ?_); (case side1 => repeat (first | exact (Kd.R_reads' HO245.out).2.2 | (with_reducible refine Kd.C_alloc ?_ _) | (with_reducible refine Kd.C_drewN ?_ _) | (with_reducible refine Kd.C_drew ?_))); (case side2 => exact (Kd.R_reads' HO245.out).2.1); rintro e w23 ⟨rfl, hb⟩; have n0_ := Aside0.mk (Kd.R_below (au22) hb); have n1_ := Aside0.mk (Kd.R_below (au26) hb); have n2_ := Aside0.mk (Kd.R_below (au32) hb); have n3_ := Aside0.mk (Kd.R_below (au39) hb); have n4_ := Aside0.mk (below_step (au1) hb); clear HO235; clear HO238; clear HO241; clear HO245; clear HB; have HO235 := n0_; have HO238 := n1_; have HO241 := n2_; have HO245 := n3_; have HB := n4_; clear n0_ n1_ n2_ n3_ n4_; (try clear hb); (try clear hb2); (try clear hk); (try clear hi)) | ((with_reducible refine gate_dst (N := 22) rfl ?_); (try (refine gate_guard (by rfl) ?_; dsimp only)); refine Kd.R_lit (Kd.int .u8) _ 5 ?hg (N := 22) ?hd (xs := ([1] : List Int)) (inner := [.int .u8 1]) (ok := fun _ => True) (okp := fun _ => True) ?hr ?hp (fun _ hk => hk) trivial (Below.refl _ _) (Nat.le_refl _) (by simp) ?_; (case hd => rfl); (case hg => rfl); (case hr => first | (go_simp; done) | (go_simp; rfl)); (case hp => exact (Reps.one (show Kd.M (Kd.int .u8) _ _ _ 1 [.int .u8 1] from rfl) (Reps.none _ _))); intro v248 w24 ho25 hb hg_ hnew_; clear hg_ hnew_; (first | rw [← Ny247.out] at ho25 | (simp only [Int.reduceToNat] at ho25; rw [← Ny247.out] at ho25)); have n0_ := Aside0.mk (Kd.R_elder' (au22) (Kd.R_base ho25) hb); have n1_ := Aside0.mk (Kd.R_elder' (au26) (Kd.R_base ho25) hb); have n2_ := Aside0.mk (Kd.R_elder' (au32) (Kd.R_base ho25) hb); have n3_ := Aside0.mk (Kd.R_elder' (au39) (Kd.R_base ho25) hb); have n4_ := Aside0.mk (Kd.R_lower (Kd.R_new' (Kd.R_new' (Kd.R_new' (Kd.R_new' ho25 (Kd.R_lt (au22))) (Kd.R_lt (au26))) (Kd.R_lt (au32))) (Kd.R_lt (au39))) (below_size (au1))); have n5_ := Aside0.mk (below_step (au1) hb); clear HO235; clear HO238; clear HO241; clear HO245; clear HB; have HO235 := n0_; have HO238 := n1_; have HO241 := n2_; have HO245 := n3_; have HO249 := n4_; have HB := n5_; clear n0_ n1_ n2_ n3_ n4_ n5_; clear hb ho25; obtain ⟨Ao26, co26, eo26⟩ := Kd.R_slice HO249.out; subst eo26) | ((fail_if_success (have h_ := w27)); go_at_call 29; (with_reducible refine (capstanlaw07_told.calls k 10 _ _ y247 true _ ?side1 ?side2 A6.out).mono ?_); (case side1 => repeat (first | exact (Kd.R_reads' HO249.out).2.2 | (with_reducible refine Kd.C_alloc ?_ _) | (with_reducible refine Kd.C_drewN ?_ _) | (with_reducible refine Kd.C_drew ?_))); (case side2 => exact (Kd.R_reads' HO249.out).2.1); rintro e w27 ⟨rfl, hb⟩; have n0_ := Aside0.mk (Kd.R_below (au22) hb); have n1_ := Aside0.mk (Kd.R_below (au26) hb); have n2_ := Aside0.mk (Kd.R_below (au32) hb); have n3_ := Aside0.mk (Kd.R_below (au39) hb); have n4_ := Aside0.mk (Kd.R_below (au47) hb); have n5_ := Aside0.mk (below_step (au1) hb); clear HO235; clear HO238; clear HO241; clear HO245; clear HO249; clear HB; have HO235 := n0_; have HO238 := n1_; have HO241 := n2_; have HO245 := n3_; have HO249 := n4_; have HB := n5_; clear n0_ n1_ n2_ n3_ n4_ n5_; (try clear hb); (try clear hb2); (try clear hk); (try clear hi)) | ((with_reducible refine gate_dst (N := 26) rfl ?_); (try (refine gate_guard (by rfl) ?_; dsimp only)); refine Kd.R_lit (Kd.int .u8) _ 5 ?hg (N := 26) ?hd (xs := ([1, 4] : List Int)) (inner := [.int .u8 1, .int .u8 4]) (ok := fun _ => True) (okp := fun _ => True) ?hr ?hp (fun _ hk => hk) trivial (Below.refl _ _) (Nat.le_refl _) (by simp) ?_; (case hd => rfl); (case hg => rfl); (case hr => first | (go_simp; done) | (go_simp; rfl)); (case hp => exact (Reps.one (show Kd.M (Kd.int .u8) _ _ _ 1 [.int .u8 1] from rfl) (Reps.one (show Kd.M (Kd.int .u8) _ _ _ 4 [.int .u8 4] from rfl) (Reps.none _ _)))); intro v252 w28 ho29 hb hg_ hnew_; clear hg_ hnew_; (first | rw [← Ny251.out] at ho29 | (simp only [Int.reduceToNat] at ho29; rw [← Ny251.out] at ho29)); have n0_ := Aside0.mk (Kd.R_elder' (au22) (Kd.R_base ho29) hb); have n1_ := Aside0.mk (Kd.R_elder' (au26) (Kd.R_base ho29) hb); have n2_ := Aside0.mk (Kd.R_elder' (au32) (Kd.R_base ho29) hb); have n3_ := Aside0.mk (Kd.R_elder' (au39) (Kd.R_base ho29) hb); have n4_ := Aside0.mk (Kd.R_elder' (au47) (Kd.R_base ho29) hb); have n5_ := Aside0.mk (Kd.R_lower (Kd.R_new' (Kd.R_new' (Kd.R_new' (Kd.R_new' (Kd.R_new' ho29 (Kd.R_lt (au22))) (Kd.R_lt (au26))) (Kd.R_lt (au32))) (Kd.R_lt (au39))) (Kd.R_lt (au47))) (below_size (au1))); have n6_ := Aside0.mk (below_step (au1) hb); clear HO235; clear HO238; clear HO241; clear HO245; clear HO249; clear HB; have HO235 := n0_; have HO238 := n1_; have HO241 := n2_; have HO245 := n3_; have HO249 := n4_; have HO253 := n5_; have HB := n6_; clear n0_ n1_ n2_ n3_ n4_ n5_ n6_; clear hb ho29; obtain ⟨Ao30, co30, eo30⟩ := Kd.R_slice HO253.out; subst eo30) | ((fail_if_success (have h_ := w31)); go_at_call 29; (with_reducible refine (capstanlaw07_told.calls k 70 _ _ y251 true _ ?side1 ?side2 A8.out).mono ?_); (case side1 => repeat (first | exact (Kd.R_reads' HO253.out).2.2 | (with_reducible refine Kd.C_alloc ?_ _) | (with_reducible refine Kd.C_drewN ?_ _) | (with_reducible refine Kd.C_drew ?_))); (case side2 => exact (Kd.R_reads' HO253.out).2.1); rintro e w31 ⟨rfl, hb⟩; have n0_ := Aside0.mk (Kd.R_below (au22) hb); have n1_ := Aside0.mk (Kd.R_below (au26) hb); have n2_ := Aside0.mk (Kd.R_below (au32) hb); have n3_ := Aside0.mk (Kd.R_below (au39) hb); have n4_ := Aside0.mk (Kd.R_below (au47) hb); have n5_ := Aside0.mk (Kd.R_below (au70) hb); have n6_ := Aside0.mk (below_step (au1) hb); clear HO235; clear HO238; clear HO241; clear HO245; clear HO249; clear HO253; clear HB; have HO235 := n0_; have HO238 := n1_; have HO241 := n2_; have HO245 := n3_; have HO249 := n4_; have HO253 := n5_; have HB := n6_; clear n0_ n1_ n2_ n3_ n4_ n5_ n6_; (try clear hb); (try clear hb2); (try clear hk); (try clear hi)) | ((with_reducible refine gate_dst (N := 30) rfl ?_); (try (refine gate_guard (by rfl) ?_; dsimp only)); refine Kd.R_lit (Kd.int .u8) _ 5 ?hg (N := 30) ?hd (xs := ([0, 17] : List Int)) (inner := [.int .u8 0, .int .u8 17]) (ok := fun _ => True) (okp := fun _ => True) ?hr ?hp (fun _ hk => hk) trivial (Below.refl _ _) (Nat.le_refl _) (by simp) ?_; (case hd => rfl); (case hg => rfl); (case hr => first | (go_simp; done) | (go_simp; rfl)); (case hp => exact (Reps.one (show Kd.M (Kd.int .u8) _ _ _ 0 [.int .u8 0] from rfl) (Reps.one (show Kd.M (Kd.int .u8) _ _ _ 17 [.int .u8 17] from rfl) (Reps.none _ _)))); intro v256 w32 ho33 hb hg_ hnew_; clear hg_ hnew_; (first | rw [← Ny255.out] at ho33 | (simp only [Int.reduceToNat] at ho33; rw [← Ny255.out] at ho33)); have n0_ := Aside0.mk (Kd.R_elder' (au22) (Kd.R_base ho33) hb); have n1_ := Aside0.mk (Kd.R_elder' (au26) (Kd.R_base ho33) hb); have n2_ := Aside0.mk (Kd.R_elder' (au32) (Kd.R_base ho33) hb); have n3_ := Aside0.mk (Kd.R_elder' (au39) (Kd.R_base ho33) hb); have n4_ := Aside0.mk (Kd.R_elder' (au47) (Kd.R_base ho33) hb); have n5_ := Aside0.mk (Kd.R_elder' (au70) (Kd.R_base ho33) hb); have n6_ := Aside0.mk (Kd.R_lower (Kd.R_new' (Kd.R_new' (Kd.R_new' (Kd.R_new' (Kd.R_new' (Kd.R_new' ho33 (Kd.R_lt (au22))) (Kd.R_lt (au26))) (Kd.R_lt (au32))) (Kd.R_lt (au39))) (Kd.R_lt (au47))) (Kd.R_lt (au70))) (below_size (au1))); have n7_ := Aside0.mk (below_step (au1) hb); clear HO235; clear HO238; clear HO241; clear HO245; clear HO249; clear HO253; clear HB; have HO235 := n0_; have HO238 := n1_; have HO241 := n2_; have HO245 := n3_; have HO249 := n4_; have HO253 := n5_; have HO257 := n6_; have HB := n7_; clear n0_ n1_ n2_ n3_ n4_ n5_ n6_ n7_; clear hb ho33; obtain ⟨Ao34, co34, eo34⟩ := Kd.R_slice HO257.out; subst eo34) | ((fail_if_success (have h_ := w35)); go_at_call 29; (with_reducible refine (capstanlaw07_told.calls k 70 _ _ y255 t258 _ ?side1 ?side2 A10.out).mono ?_); (case side1 => repeat (first | exact (Kd.R_reads' HO257.out).2.2 | (with_reducible refine Kd.C_alloc ?_ _) | (with_reducible refine Kd.C_drewN ?_ _) | (with_reducible refine Kd.C_drew ?_))); (case side2 => exact (Kd.R_reads' HO257.out).2.1); rintro e w35 ⟨rfl, hb⟩; have n0_ := Aside0.mk (Kd.R_below (au22) hb); have n1_ := Aside0.mk (Kd.R_below (au26) hb); have n2_ := Aside0.mk (Kd.R_below (au32) hb); have n3_ := Aside0.mk (Kd.R_below (au39) hb); have n4_ := Aside0.mk (Kd.R_below (au47) hb); have n5_ := Aside0.mk (Kd.R_below (au70) hb); have n6_ := Aside0.mk (Kd.R_below (by (with_reducible repeat (first | apply Kd.R_alloc | apply Kd.R_drewN | apply Kd.R_drew)); first | exact HO257.out | exact Kd.R_mono (HO257.out) (fun _ h_ => h_.2)) hb); have n7_ := Aside0.mk (below_step (au1) hb); clear HO235; clear HO238; clear HO241; clear HO245; clear HO249; clear HO253; clear HO257; clear HB; have HO235 := n0_; have HO238 := n1_; have HO241 := n2_; have HO245 := n3_; have HO249 := n4_; have HO253 := n5_; have HO257 := n6_; have HB := n7_; clear n0_ n1_ n2_ n3_ n4_ n5_ n6_ n7_; (try clear hb); (try clear hb2); (try clear hk); (try clear hi)))
      go_ret
      exact ⟨au13, au1⟩
     ·
      replace c9 := Bool.eq_false_iff.mpr c9
      subst c9
      have H1 : (none) = some r := by rw [if_neg (show ¬ (false = true) by decide)] at H; exact H
      clear H
      have H := H1
      clear H1
      exact absurd H (by simp)
    ·
     replace c7 := Bool.eq_false_iff.mpr c7
     subst c7
     have H1 : (none) = some r := by rw [if_neg (show ¬ (false = true) by decide)] at H; exact H
     clear H
     have H := H1
     clear H1
     exact absurd H (by simp)
   ·
    replace c5 := Bool.eq_false_iff.mpr c5
    subst c5
    have H1 : (none) = some r := by rw [if_neg (show ¬ (false = true) by decide)] at H; exact H
    clear H
    have H := H1
    clear H1
    exact absurd H (by simp)
  ·
   rw [if_neg c3] at H
   exact absurd H (by simp)
 ·
  rw [if_neg c2] at H
  exact absurd H (by simp)

/-! ### capstanlaw07_MethodZeros: function 7 -/
mutual
def capstanlaw07_MethodZeros.l0 : Nat → List (S47) → List (S47) → List (S47) → Int → List Int → List Int → Int → Bool → Int → Int → Int → List (S114) → Option (Bool)
 | 0, _, _, _, _, _, _, _, _, _, _, _, _ => none
 | k + 1, x1, x5, x7, x8, x260000, x260001, x260002, x260003, x260004, x260005, x260006, x260007 => if x8 < (x260000.length : Int) then (if 0 ≤ x8 then (if x7.length < 5864062014805 then (capstanlaw07_MethodZeros.l0 k x1 x5 (x7 ++ [(⟨rd x260000 x8, 0, 0⟩ : S47)]) (wrap64 (x8 + 1)) x260000 x260001 x260002 x260003 x260004 x260005 x260006 x260007) else (none)) else (none)) else ((method_Fits.f k x260000 x260001 x260002 x260003 x260004 x260005 x260006 x260007 x7).bind fun t271 => (if t271 = true then (if (x7.length : Int) > 0 then (if 1 ≤ (x7.length : Int) then ((method_Fits.f k x260000 x260001 x260002 x260003 x260004 x260005 x260006 x260007 (x7.drop 1)).bind fun t276 => (if t276 = true then (none) else ((method_Fits.f k x260000 x260001 x260002 x260003 x260004 x260005 x260006 x260007 x1).bind fun t277 => (if t277 = true then (capstanlaw07_MethodZeros.l1 k x5 x1 ([] : List Int) 0 x260000 x260001 x260002 x260003 x260004 x260005 x260006 x260007) else (capstanlaw07_MethodZeros.l3 k x5 x7 ([] : List Int) 0 x260000 x260001 x260002 x260003 x260004 x260005 x260006 x260007))))) else (none)) else ((method_Fits.f k x260000 x260001 x260002 x260003 x260004 x260005 x260006 x260007 x1).bind fun t306 => (if t306 = true then (capstanlaw07_MethodZeros.l5 k x5 x1 ([] : List Int) 0 x260000 x260001 x260002 x260003 x260004 x260005 x260006 x260007) else (capstanlaw07_MethodZeros.l7 k x5 x7 ([] : List Int) 0 x260000 x260001 x260002 x260003 x260004 x260005 x260006 x260007)))) else (none)))
def capstanlaw07_MethodZeros.l1 : Nat → List (S47) → List (S47) → List Int → Int → List Int → List Int → Int → Bool → Int → Int → Int → List (S114) → Option (Bool)
 | 0, _, _, _, _, _, _, _, _, _, _, _, _ => none
 | k + 1, x5, x7, x9, x10, x260000, x260001, x260002, x260003, x260004, x260005, x260006, x260007 => if x10 < (x7.length : Int) then (if 0 ≤ x10 then (if x9.length < 140737488355328 then (capstanlaw07_MethodZeros.l1 k x5 x7 (x9 ++ [(rd_T47 x7 x10).f0]) (wrap64 (x10 + 1)) x260000 x260001 x260002 x260003 x260004 x260005 x260006 x260007) else (none)) else (none)) else (capstanlaw07_MethodZeros.l2 k x5 x9 0 x260000 x260001 x260002 x260003 x260004 x260005 x260006 x260007)
def capstanlaw07_MethodZeros.l2 : Nat → List (S47) → List Int → Int → List Int → List Int → Int → Bool → Int → Int → Int → List (S114) → Option (Bool)
 | 0, _, _, _, _, _, _, _, _, _, _, _ => none
 | k + 1, x5, x9, x11, x260000, x260001, x260002, x260003, x260004, x260005, x260006, x260007 => if x11 < (x5.length : Int) then (if 0 ≤ x11 then (if x9.length < 140737488355328 then (if ((rd_T47 x5 x11).f1) = 0 then (if ((rd_T47 x5 x11).f2) = 0 then (capstanlaw07_MethodZeros.l2 k x5 (x9 ++ [(rd_T47 x5 x11).f0]) (wrap64 (x11 + 1)) x260000 x260001 x260002 x260003 x260004 x260005 x260006 x260007) else (none)) else (none)) else (none)) else (none)) else ((method_Kinds.f k x260000 x260001 x260002 x260003 x260004 x260005 x260006 x260007).bind fun t288 => ((capstanref07_SameKinds.f k x9 t288).bind fun t291 => (if t291 = true then (some (decide ((x9.length : Int) ≤ 16))) else (none))))
def capstanlaw07_MethodZeros.l3 : Nat → List (S47) → List (S47) → List Int → Int → List Int → List Int → Int → Bool → Int → Int → Int → List (S114) → Option (Bool)
 | 0, _, _, _, _, _, _, _, _, _, _, _, _ => none
 | k + 1, x5, x7, x9, x10, x260000, x260001, x260002, x260003, x260004, x260005, x260006, x260007 => if x10 < (x7.length : Int) then (if 0 ≤ x10 then (if x9.length < 140737488355328 then (capstanlaw07_MethodZeros.l3 k x5 x7 (x9 ++ [(rd_T47 x7 x10).f0]) (wrap64 (x10 + 1)) x260000 x260001 x260002 x260003 x260004 x260005 x260006 x260007) else (none)) else (none)) else (capstanlaw07_MethodZeros.l4 k x5 x9 0 x260000 x260001 x260002 x260003 x260004 x260005 x260006 x260007)
def capstanlaw07_MethodZeros.l4 : Nat → List (S47) → List Int → Int → List Int → List Int → Int → Bool → Int → Int → Int → List (S114) → Option (Bool)
 | 0, _, _, _, _, _, _, _, _, _, _, _ => none
 | k + 1, x5, x9, x11, x260000, x260001, x260002, x260003, x260004, x260005, x260006, x260007 => if x11 < (x5.length : Int) then (if 0 ≤ x11 then (if x9.length < 140737488355328 then (if ((rd_T47 x5 x11).f1) = 0 then (if ((rd_T47 x5 x11).f2) = 0 then (capstanlaw07_MethodZeros.l4 k x5 (x9 ++ [(rd_T47 x5 x11).f0]) (wrap64 (x11 + 1)) x260000 x260001 x260002 x260003 x260004 x260005 x260006 x260007) else (none)) else (none)) else (none)) else (none)) else ((method_Kinds.f k x260000 x260001 x260002 x260003 x260004 x260005 x260006 x260007).bind fun t302 => ((capstanref07_SameKinds.f k x9 t302).bind fun t305 => (if t305 = true then (some (decide ((x9.length : Int) ≤ 16))) else (none))))
def capstanlaw07_MethodZeros.l5 : Nat → List (S47) → List (S47) → List Int → Int → List Int → List Int → Int → Bool → Int → Int → Int → List (S114) → Option (Bool)
 | 0, _, _, _, _, _, _, _, _, _, _, _, _ => none
 | k + 1, x5, x7, x9, x10, x260000, x260001, x260002, x260003, x260004, x260005, x260006, x260007 => if x10 < (x7.length : Int) then (if 0 ≤ x10 then (if x9.length < 140737488355328 then (capstanlaw07_MethodZeros.l5 k x5 x7 (x9 ++ [(rd_T47 x7 x10).f0]) (wrap64 (x10 + 1)) x260000 x260001 x260002 x260003 x260004 x260005 x260006 x260007) else (none)) else (none)) else (capstanlaw07_MethodZeros.l6 k x5 x9 0 x260000 x260001 x260002 x260003 x260004 x260005 x260006 x260007)
def capstanlaw07_MethodZeros.l6 : Nat → List (S47) → List Int → Int → List Int → List Int → Int → Bool → Int → Int → Int → List (S114) → Option (Bool)
 | 0, _, _, _, _, _, _, _, _, _, _, _ => none
 | k + 1, x5, x9, x11, x260000, x260001, x260002, x260003, x260004, x260005, x260006, x260007 => if x11 < (x5.length : Int) then (if 0 ≤ x11 then (if x9.length < 140737488355328 then (if ((rd_T47 x5 x11).f1) = 0 then (if ((rd_T47 x5 x11).f2) = 0 then (capstanlaw07_MethodZeros.l6 k x5 (x9 ++ [(rd_T47 x5 x11).f0]) (wrap64 (x11 + 1)) x260000 x260001 x260002 x260003 x260004 x260005 x260006 x260007) else (none)) else (none)) else (none)) else (none)) else ((method_Kinds.f k x260000 x260001 x260002 x260003 x260004 x260005 x260006 x260007).bind fun t317 => ((capstanref07_SameKinds.f k x9 t317).bind fun t320 => (if t320 = true then (some (decide ((x9.length : Int) ≤ 16))) else (none))))
def capstanlaw07_MethodZeros.l7 : Nat → List (S47) → List (S47) → List Int → Int → List Int → List Int → Int → Bool → Int → Int → Int → List (S114) → Option (Bool)
 | 0, _, _, _, _, _, _, _, _, _, _, _, _ => none
 | k + 1, x5, x7, x9, x10, x260000, x260001, x260002, x260003, x260004, x260005, x260006, x260007 => if x10 < (x7.length : Int) then (if 0 ≤ x10 then (if x9.length < 140737488355328 then (capstanlaw07_MethodZeros.l7 k x5 x7 (x9 ++ [(rd_T47 x7 x10).f0]) (wrap64 (x10 + 1)) x260000 x260001 x260002 x260003 x260004 x260005 x260006 x260007) else (none)) else (none)) else (capstanlaw07_MethodZeros.l8 k x5 x9 0 x260000 x260001 x260002 x260003 x260004 x260005 x260006 x260007)
def capstanlaw07_MethodZeros.l8 : Nat → List (S47) → List Int → Int → List Int → List Int → Int → Bool → Int → Int → Int → List (S114) → Option (Bool)
 | 0, _, _, _, _, _, _, _, _, _, _, _ => none
 | k + 1, x5, x9, x11, x260000, x260001, x260002, x260003, x260004, x260005, x260006, x260007 => if x11 < (x5.length : Int) then (if 0 ≤ x11 then (if x9.length < 140737488355328 then (if ((rd_T47 x5 x11).f1) = 0 then (if ((rd_T47 x5 x11).f2) = 0 then (capstanlaw07_MethodZeros.l8 k x5 (x9 ++ [(rd_T47 x5 x11).f0]) (wrap64 (x11 + 1)) x260000 x260001 x260002 x260003 x260004 x260005 x260006 x260007) else (none)) else (none)) else (none)) else (none)) else ((method_Kinds.f k x260000 x260001 x260002 x260003 x260004 x260005 x260006 x260007).bind fun t331 => ((capstanref07_SameKinds.f k x9 t331).bind fun t334 => (if t334 = true then (some (decide ((x9.length : Int) ≤ 16))) else (none))))
end
def capstanlaw07_MethodZeros.f (k : Nat) (l0_0 : List Int) (l0_1 : List Int) (a0_2 : Int) (a0_3 : Bool) (a0_4 : Int) (a0_5 : Int) (a0_6 : Int) (l0_7 : List (S114)) (l1 : List (S47)) : Option (Bool) := (capstanlaw07_awake.f k).bind fun t260 => (if t260 = true then ((capstanlaw07_Great.f l0_0 l0_1 a0_2 a0_3 a0_4 a0_5 a0_6 l0_7).bind fun t261 => (if t261 = true then (some true) else (if (l1.length : Int) > 100 then (some true) else ((method_Zeros.f k l0_0 l0_1 a0_2 a0_3 a0_4 a0_5 a0_6 l0_7).bind fun bt262 => ((method_May.f k l0_0 l0_1 a0_2 a0_3 a0_4 a0_5 a0_6 l0_7).bind fun t266 => (if (bt262.2 != t266) = true then (none) else (if bt262.2 = true then (capstanlaw07_MethodZeros.l0 k l1 bt262.1 ([] : List (S47)) 0 l0_0 l0_1 a0_2 a0_3 a0_4 a0_5 a0_6 l0_7) else (if (bt262.1.length : Int) = 0 then ((method_Fits.f k l0_0 l0_1 a0_2 a0_3 a0_4 a0_5 a0_6 l0_7 l1).bind fun t335 => (if t335 = true then (none) else ((method_Migrates.f k l0_0 l0_1 a0_2 a0_3 a0_4 a0_5 a0_6 l0_7).bind fun t336 => (some (!t336))))) else (none))))))))) else (none))
theorem capstanlaw07_MethodZeros.mono_l : ∀ k, (∀ y0 y1 y2 y3 y4 y5 y6 y7 y8 y9 y10 y11, LeO (capstanlaw07_MethodZeros.l0 k y0 y1 y2 y3 y4 y5 y6 y7 y8 y9 y10 y11) (capstanlaw07_MethodZeros.l0 (k + 1) y0 y1 y2 y3 y4 y5 y6 y7 y8 y9 y10 y11)) ∧ (∀ y0 y1 y2 y3 y4 y5 y6 y7 y8 y9 y10 y11, LeO (capstanlaw07_MethodZeros.l1 k y0 y1 y2 y3 y4 y5 y6 y7 y8 y9 y10 y11) (capstanlaw07_MethodZeros.l1 (k + 1) y0 y1 y2 y3 y4 y5 y6 y7 y8 y9 y10 y11)) ∧ (∀ y0 y1 y2 y3 y4 y5 y6 y7 y8 y9 y10, LeO (capstanlaw07_MethodZeros.l2 k y0 y1 y2 y3 y4 y5 y6 y7 y8 y9 y10) (capstanlaw07_MethodZeros.l2 (k + 1) y0 y1 y2 y3 y4 y5 y6 y7 y8 y9 y10)) ∧ (∀ y0 y1 y2 y3 y4 y5 y6 y7 y8 y9 y10 y11, LeO (capstanlaw07_MethodZeros.l3 k y0 y1 y2 y3 y4 y5 y6 y7 y8 y9 y10 y11) (capstanlaw07_MethodZeros.l3 (k + 1) y0 y1 y2 y3 y4 y5 y6 y7 y8 y9 y10 y11)) ∧ (∀ y0 y1 y2 y3 y4 y5 y6 y7 y8 y9 y10, LeO (capstanlaw07_MethodZeros.l4 k y0 y1 y2 y3 y4 y5 y6 y7 y8 y9 y10) (capstanlaw07_MethodZeros.l4 (k + 1) y0 y1 y2 y3 y4 y5 y6 y7 y8 y9 y10)) ∧ (∀ y0 y1 y2 y3 y4 y5 y6 y7 y8 y9 y10 y11, LeO (capstanlaw07_MethodZeros.l5 k y0 y1 y2 y3 y4 y5 y6 y7 y8 y9 y10 y11) (capstanlaw07_MethodZeros.l5 (k + 1) y0 y1 y2 y3 y4 y5 y6 y7 y8 y9 y10 y11)) ∧ (∀ y0 y1 y2 y3 y4 y5 y6 y7 y8 y9 y10, LeO (capstanlaw07_MethodZeros.l6 k y0 y1 y2 y3 y4 y5 y6 y7 y8 y9 y10) (capstanlaw07_MethodZeros.l6 (k + 1) y0 y1 y2 y3 y4 y5 y6 y7 y8 y9 y10)) ∧ (∀ y0 y1 y2 y3 y4 y5 y6 y7 y8 y9 y10 y11, LeO (capstanlaw07_MethodZeros.l7 k y0 y1 y2 y3 y4 y5 y6 y7 y8 y9 y10 y11) (capstanlaw07_MethodZeros.l7 (k + 1) y0 y1 y2 y3 y4 y5 y6 y7 y8 y9 y10 y11)) ∧ (∀ y0 y1 y2 y3 y4 y5 y6 y7 y8 y9 y10, LeO (capstanlaw07_MethodZeros.l8 k y0 y1 y2 y3 y4 y5 y6 y7 y8 y9 y10) (capstanlaw07_MethodZeros.l8 (k + 1) y0 y1 y2 y3 y4 y5 y6 y7 y8 y9 y10))
 | 0 => ⟨fun _ _ _ _ _ _ _ _ _ _ _ _ r h => by simp [capstanlaw07_MethodZeros.l0] at h, fun _ _ _ _ _ _ _ _ _ _ _ _ r h => by simp [capstanlaw07_MethodZeros.l1] at h, fun _ _ _ _ _ _ _ _ _ _ _ r h => by simp [capstanlaw07_MethodZeros.l2] at h, fun _ _ _ _ _ _ _ _ _ _ _ _ r h => by simp [capstanlaw07_MethodZeros.l3] at h, fun _ _ _ _ _ _ _ _ _ _ _ r h => by simp [capstanlaw07_MethodZeros.l4] at h, fun _ _ _ _ _ _ _ _ _ _ _ _ r h => by simp [capstanlaw07_MethodZeros.l5] at h, fun _ _ _ _ _ _ _ _ _ _ _ r h => by simp [capstanlaw07_MethodZeros.l6] at h, fun _ _ _ _ _ _ _ _ _ _ _ _ r h => by simp [capstanlaw07_MethodZeros.l7] at h, fun _ _ _ _ _ _ _ _ _ _ _ r h => by simp [capstanlaw07_MethodZeros.l8] at h⟩
 | k + 1 => by
  obtain ⟨ih0, ih1, ih2, ih3, ih4, ih5, ih6, ih7, ih8⟩ := capstanlaw07_MethodZeros.mono_l k
  refine ⟨?_, ?_, ?_, ?_, ?_, ?_, ?_, ?_, ?_⟩
  ·
   intro y0 y1 y2 y3 y4 y5 y6 y7 y8 y9 y10 y11
   unfold capstanlaw07_MethodZeros.l0
   repeat' first
   | (with_reducible exact ih0 _ _ _ _ _ _ _ _ _ _ _ _)
   | (with_reducible exact ih1 _ _ _ _ _ _ _ _ _ _ _ _)
   | (with_reducible exact ih2 _ _ _ _ _ _ _ _ _ _ _)
   | (with_reducible exact ih3 _ _ _ _ _ _ _ _ _ _ _ _)
   | (with_reducible exact ih4 _ _ _ _ _ _ _ _ _ _ _)
   | (with_reducible exact ih5 _ _ _ _ _ _ _ _ _ _ _ _)
   | (with_reducible exact ih6 _ _ _ _ _ _ _ _ _ _ _)
   | (with_reducible exact ih7 _ _ _ _ _ _ _ _ _ _ _ _)
   | (with_reducible exact ih8 _ _ _ _ _ _ _ _ _ _ _)
   | (with_reducible exact capstanlaw07_awake.mono _)
   | (with_reducible exact capstanref07_SameKinds.mono _ _ _)
   | (with_reducible exact method_Fits.mono _ _ _ _ _ _ _ _ _ _)
   | (with_reducible exact method_Kinds.mono _ _ _ _ _ _ _ _ _)
   | (with_reducible exact method_May.mono _ _ _ _ _ _ _ _ _)
   | (with_reducible exact method_Migrates.mono _ _ _ _ _ _ _ _ _)
   | (with_reducible exact method_Zeros.mono _ _ _ _ _ _ _ _ _)
   | (with_reducible exact LeO.refl _)
   | (with_reducible exact LeO.none _)
   | (with_reducible refine LeO.ite ?_ ?_)
   | (with_reducible refine LeO.bind ?_ (fun _ => ?_))
   | exact ih0 _ _ _ _ _ _ _ _ _ _ _ _
   | exact ih1 _ _ _ _ _ _ _ _ _ _ _ _
   | exact ih2 _ _ _ _ _ _ _ _ _ _ _
   | exact ih3 _ _ _ _ _ _ _ _ _ _ _ _
   | exact ih4 _ _ _ _ _ _ _ _ _ _ _
   | exact ih5 _ _ _ _ _ _ _ _ _ _ _ _
   | exact ih6 _ _ _ _ _ _ _ _ _ _ _
   | exact ih7 _ _ _ _ _ _ _ _ _ _ _ _
   | exact ih8 _ _ _ _ _ _ _ _ _ _ _
   | exact capstanlaw07_awake.mono _
   | exact capstanref07_SameKinds.mono _ _ _
   | exact method_Fits.mono _ _ _ _ _ _ _ _ _ _
   | exact method_Kinds.mono _ _ _ _ _ _ _ _ _
   | exact method_May.mono _ _ _ _ _ _ _ _ _
   | exact method_Migrates.mono _ _ _ _ _ _ _ _ _
   | exact method_Zeros.mono _ _ _ _ _ _ _ _ _
   | exact LeO.none _
   | refine LeO.ite ?_ ?_
   | refine LeO.bind ?_ (fun _ => ?_)
  ·
   intro y0 y1 y2 y3 y4 y5 y6 y7 y8 y9 y10 y11
   unfold capstanlaw07_MethodZeros.l1
   repeat' first
   | (with_reducible exact ih0 _ _ _ _ _ _ _ _ _ _ _ _)
   | (with_reducible exact ih1 _ _ _ _ _ _ _ _ _ _ _ _)
   | (with_reducible exact ih2 _ _ _ _ _ _ _ _ _ _ _)
   | (with_reducible exact ih3 _ _ _ _ _ _ _ _ _ _ _ _)
   | (with_reducible exact ih4 _ _ _ _ _ _ _ _ _ _ _)
   | (with_reducible exact ih5 _ _ _ _ _ _ _ _ _ _ _ _)
   | (with_reducible exact ih6 _ _ _ _ _ _ _ _ _ _ _)
   | (with_reducible exact ih7 _ _ _ _ _ _ _ _ _ _ _ _)
   | (with_reducible exact ih8 _ _ _ _ _ _ _ _ _ _ _)
   | (with_reducible exact capstanlaw07_awake.mono _)
   | (with_reducible exact capstanref07_SameKinds.mono _ _ _)
   | (with_reducible exact method_Fits.mono _ _ _ _ _ _ _ _ _ _)
   | (with_reducible exact method_Kinds.mono _ _ _ _ _ _ _ _ _)
   | (with_reducible exact method_May.mono _ _ _ _ _ _ _ _ _)
   | (with_reducible exact method_Migrates.mono _ _ _ _ _ _ _ _ _)
   | (with_reducible exact method_Zeros.mono _ _ _ _ _ _ _ _ _)
   | (with_reducible exact LeO.refl _)
   | (with_reducible exact LeO.none _)
   | (with_reducible refine LeO.ite ?_ ?_)
   | (with_reducible refine LeO.bind ?_ (fun _ => ?_))
   | exact ih0 _ _ _ _ _ _ _ _ _ _ _ _
   | exact ih1 _ _ _ _ _ _ _ _ _ _ _ _
   | exact ih2 _ _ _ _ _ _ _ _ _ _ _
   | exact ih3 _ _ _ _ _ _ _ _ _ _ _ _
   | exact ih4 _ _ _ _ _ _ _ _ _ _ _
   | exact ih5 _ _ _ _ _ _ _ _ _ _ _ _
   | exact ih6 _ _ _ _ _ _ _ _ _ _ _
   | exact ih7 _ _ _ _ _ _ _ _ _ _ _ _
   | exact ih8 _ _ _ _ _ _ _ _ _ _ _
   | exact capstanlaw07_awake.mono _
   | exact capstanref07_SameKinds.mono _ _ _
   | exact method_Fits.mono _ _ _ _ _ _ _ _ _ _
   | exact method_Kinds.mono _ _ _ _ _ _ _ _ _
   | exact method_May.mono _ _ _ _ _ _ _ _ _
   | exact method_Migrates.mono _ _ _ _ _ _ _ _ _
   | exact method_Zeros.mono _ _ _ _ _ _ _ _ _
   | exact LeO.none _
   | refine LeO.ite ?_ ?_
   | refine LeO.bind ?_ (fun _ => ?_)
  ·
   intro y0 y1 y2 y3 y4 y5 y6 y7 y8 y9 y10
   unfold capstanlaw07_MethodZeros.l2
   repeat' first
   | (with_reducible exact ih0 _ _ _ _ _ _ _ _ _ _ _ _)
   | (with_reducible exact ih1 _ _ _ _ _ _ _ _ _ _ _ _)
   | (with_reducible exact ih2 _ _ _ _ _ _ _ _ _ _ _)
   | (with_reducible exact ih3 _ _ _ _ _ _ _ _ _ _ _ _)
   | (with_reducible exact ih4 _ _ _ _ _ _ _ _ _ _ _)
   | (with_reducible exact ih5 _ _ _ _ _ _ _ _ _ _ _ _)
   | (with_reducible exact ih6 _ _ _ _ _ _ _ _ _ _ _)
   | (with_reducible exact ih7 _ _ _ _ _ _ _ _ _ _ _ _)
   | (with_reducible exact ih8 _ _ _ _ _ _ _ _ _ _ _)
   | (with_reducible exact capstanlaw07_awake.mono _)
   | (with_reducible exact capstanref07_SameKinds.mono _ _ _)
   | (with_reducible exact method_Fits.mono _ _ _ _ _ _ _ _ _ _)
   | (with_reducible exact method_Kinds.mono _ _ _ _ _ _ _ _ _)
   | (with_reducible exact method_May.mono _ _ _ _ _ _ _ _ _)
   | (with_reducible exact method_Migrates.mono _ _ _ _ _ _ _ _ _)
   | (with_reducible exact method_Zeros.mono _ _ _ _ _ _ _ _ _)
   | (with_reducible exact LeO.refl _)
   | (with_reducible exact LeO.none _)
   | (with_reducible refine LeO.ite ?_ ?_)
   | (with_reducible refine LeO.bind ?_ (fun _ => ?_))
   | exact ih0 _ _ _ _ _ _ _ _ _ _ _ _
   | exact ih1 _ _ _ _ _ _ _ _ _ _ _ _
   | exact ih2 _ _ _ _ _ _ _ _ _ _ _
   | exact ih3 _ _ _ _ _ _ _ _ _ _ _ _
   | exact ih4 _ _ _ _ _ _ _ _ _ _ _
   | exact ih5 _ _ _ _ _ _ _ _ _ _ _ _
   | exact ih6 _ _ _ _ _ _ _ _ _ _ _
   | exact ih7 _ _ _ _ _ _ _ _ _ _ _ _
   | exact ih8 _ _ _ _ _ _ _ _ _ _ _
   | exact capstanlaw07_awake.mono _
   | exact capstanref07_SameKinds.mono _ _ _
   | exact method_Fits.mono _ _ _ _ _ _ _ _ _ _
   | exact method_Kinds.mono _ _ _ _ _ _ _ _ _
   | exact method_May.mono _ _ _ _ _ _ _ _ _
   | exact method_Migrates.mono _ _ _ _ _ _ _ _ _
   | exact method_Zeros.mono _ _ _ _ _ _ _ _ _
   | exact LeO.none _
   | refine LeO.ite ?_ ?_
   | refine LeO.bind ?_ (fun _ => ?_)
  ·
   intro y0 y1 y2 y3 y4 y5 y6 y7 y8 y9 y10 y11
   unfold capstanlaw07_MethodZeros.l3
   repeat' first
   | (with_reducible exact ih0 _ _ _ _ _ _ _ _ _ _ _ _)
   | (with_reducible exact ih1 _ _ _ _ _ _ _ _ _ _ _ _)
   | (with_reducible exact ih2 _ _ _ _ _ _ _ _ _ _ _)
   | (with_reducible exact ih3 _ _ _ _ _ _ _ _ _ _ _ _)
   | (with_reducible exact ih4 _ _ _ _ _ _ _ _ _ _ _)
   | (with_reducible exact ih5 _ _ _ _ _ _ _ _ _ _ _ _)
   | (with_reducible exact ih6 _ _ _ _ _ _ _ _ _ _ _)
   | (with_reducible exact ih7 _ _ _ _ _ _ _ _ _ _ _ _)
   | (with_reducible exact ih8 _ _ _ _ _ _ _ _ _ _ _)
   | (with_reducible exact capstanlaw07_awake.mono _)
   | (with_reducible exact capstanref07_SameKinds.mono _ _ _)
   | (with_reducible exact method_Fits.mono _ _ _ _ _ _ _ _ _ _)
   | (with_reducible exact method_Kinds.mono _ _ _ _ _ _ _ _ _)
   | (with_reducible exact method_May.mono _ _ _ _ _ _ _ _ _)
   | (with_reducible exact method_Migrates.mono _ _ _ _ _ _ _ _ _)
   | (with_reducible exact method_Zeros.mono _ _ _ _ _ _ _ _ _)
   | (with_reducible exact LeO.refl _)
   | (with_reducible exact LeO.none _)
   | (with_reducible refine LeO.ite ?_ ?_)
   | (with_reducible refine LeO.bind ?_ (fun _ => ?_))
   | exact ih0 _ _ _ _ _ _ _ _ _ _ _ _
   | exact ih1 _ _ _ _ _ _ _ _ _ _ _ _
   | exact ih2 _ _ _ _ _ _ _ _ _ _ _
   | exact ih3 _ _ _ _ _ _ _ _ _ _ _ _
   | exact ih4 _ _ _ _ _ _ _ _ _ _ _
   | exact ih5 _ _ _ _ _ _ _ _ _ _ _ _
   | exact ih6 _ _ _ _ _ _ _ _ _ _ _
   | exact ih7 _ _ _ _ _ _ _ _ _ _ _ _
   | exact ih8 _ _ _ _ _ _ _ _ _ _ _
   | exact capstanlaw07_awake.mono _
   | exact capstanref07_SameKinds.mono _ _ _
   | exact method_Fits.mono _ _ _ _ _ _ _ _ _ _
   | exact method_Kinds.mono _ _ _ _ _ _ _ _ _
   | exact method_May.mono _ _ _ _ _ _ _ _ _
   | exact method_Migrates.mono _ _ _ _ _ _ _ _ _
   | exact method_Zeros.mono _ _ _ _ _ _ _ _ _
   | exact LeO.none _
   | refine LeO.ite ?_ ?_
   | refine LeO.bind ?_ (fun _ => ?_)
  ·
   intro y0 y1 y2 y3 y4 y5 y6 y7 y8 y9 y10
   unfold capstanlaw07_MethodZeros.l4
   repeat' first
   | (with_reducible exact ih0 _ _ _ _ _ _ _ _ _ _ _ _)
   | (with_reducible exact ih1 _ _ _ _ _ _ _ _ _ _ _ _)
   | (with_reducible exact ih2 _ _ _ _ _ _ _ _ _ _ _)
   | (with_reducible exact ih3 _ _ _ _ _ _ _ _ _ _ _ _)
   | (with_reducible exact ih4 _ _ _ _ _ _ _ _ _ _ _)
   | (with_reducible exact ih5 _ _ _ _ _ _ _ _ _ _ _ _)
   | (with_reducible exact ih6 _ _ _ _ _ _ _ _ _ _ _)
   | (with_reducible exact ih7 _ _ _ _ _ _ _ _ _ _ _ _)
   | (with_reducible exact ih8 _ _ _ _ _ _ _ _ _ _ _)
   | (with_reducible exact capstanlaw07_awake.mono _)
   | (with_reducible exact capstanref07_SameKinds.mono _ _ _)
   | (with_reducible exact method_Fits.mono _ _ _ _ _ _ _ _ _ _)
   | (with_reducible exact method_Kinds.mono _ _ _ _ _ _ _ _ _)
   | (with_reducible exact method_May.mono _ _ _ _ _ _ _ _ _)
   | (with_reducible exact method_Migrates.mono _ _ _ _ _ _ _ _ _)
   | (with_reducible exact method_Zeros.mono _ _ _ _ _ _ _ _ _)
   | (with_reducible exact LeO.refl _)
   | (with_reducible exact LeO.none _)
   | (with_reducible refine LeO.ite ?_ ?_)
   | (with_reducible refine LeO.bind ?_ (fun _ => ?_))
   | exact ih0 _ _ _ _ _ _ _ _ _ _ _ _
   | exact ih1 _ _ _ _ _ _ _ _ _ _ _ _
   | exact ih2 _ _ _ _ _ _ _ _ _ _ _
   | exact ih3 _ _ _ _ _ _ _ _ _ _ _ _
   | exact ih4 _ _ _ _ _ _ _ _ _ _ _
   | exact ih5 _ _ _ _ _ _ _ _ _ _ _ _
   | exact ih6 _ _ _ _ _ _ _ _ _ _ _
   | exact ih7 _ _ _ _ _ _ _ _ _ _ _ _
   | exact ih8 _ _ _ _ _ _ _ _ _ _ _
   | exact capstanlaw07_awake.mono _
   | exact capstanref07_SameKinds.mono _ _ _
   | exact method_Fits.mono _ _ _ _ _ _ _ _ _ _
   | exact method_Kinds.mono _ _ _ _ _ _ _ _ _
   | exact method_May.mono _ _ _ _ _ _ _ _ _
   | exact method_Migrates.mono _ _ _ _ _ _ _ _ _
   | exact method_Zeros.mono _ _ _ _ _ _ _ _ _
   | exact LeO.none _
   | refine LeO.ite ?_ ?_
   | refine LeO.bind ?_ (fun _ => ?_)
  ·
   intro y0 y1 y2 y3 y4 y5 y6 y7 y8 y9 y10 y11
   unfold capstanlaw07_MethodZeros.l5
   repeat' first
   | (with_reducible exact ih0 _ _ _ _ _ _ _ _ _ _ _ _)
   | (with_reducible exact ih1 _ _ _ _ _ _ _ _ _ _ _ _)
   | (with_reducible exact ih2 _ _ _ _ _ _ _ _ _ _ _)
   | (with_reducible exact ih3 _ _ _ _ _ _ _ _ _ _ _ _)
   | (with_reducible exact ih4 _ _ _ _ _ _ _ _ _ _ _)
   | (with_reducible exact ih5 _ _ _ _ _ _ _ _ _ _ _ _)
   | (with_reducible exact ih6 _ _ _ _ _ _ _ _ _ _ _)
   | (with_reducible exact ih7 _ _ _ _ _ _ _ _ _ _ _ _)
   | (with_reducible exact ih8 _ _ _ _ _ _ _ _ _ _ _)
   | (with_reducible exact capstanlaw07_awake.mono _)
   | (with_reducible exact capstanref07_SameKinds.mono _ _ _)
   | (with_reducible exact method_Fits.mono _ _ _ _ _ _ _ _ _ _)
   | (with_reducible exact method_Kinds.mono _ _ _ _ _ _ _ _ _)
   | (with_reducible exact method_May.mono _ _ _ _ _ _ _ _ _)
   | (with_reducible exact method_Migrates.mono _ _ _ _ _ _ _ _ _)
   | (with_reducible exact method_Zeros.mono _ _ _ _ _ _ _ _ _)
   | (with_reducible exact LeO.refl _)
   | (with_reducible exact LeO.none _)
   | (with_reducible refine LeO.ite ?_ ?_)
   | (with_reducible refine LeO.bind ?_ (fun _ => ?_))
   | exact ih0 _ _ _ _ _ _ _ _ _ _ _ _
   | exact ih1 _ _ _ _ _ _ _ _ _ _ _ _
   | exact ih2 _ _ _ _ _ _ _ _ _ _ _
   | exact ih3 _ _ _ _ _ _ _ _ _ _ _ _
   | exact ih4 _ _ _ _ _ _ _ _ _ _ _
   | exact ih5 _ _ _ _ _ _ _ _ _ _ _ _
   | exact ih6 _ _ _ _ _ _ _ _ _ _ _
   | exact ih7 _ _ _ _ _ _ _ _ _ _ _ _
   | exact ih8 _ _ _ _ _ _ _ _ _ _ _
   | exact capstanlaw07_awake.mono _
   | exact capstanref07_SameKinds.mono _ _ _
   | exact method_Fits.mono _ _ _ _ _ _ _ _ _ _
   | exact method_Kinds.mono _ _ _ _ _ _ _ _ _
   | exact method_May.mono _ _ _ _ _ _ _ _ _
   | exact method_Migrates.mono _ _ _ _ _ _ _ _ _
   | exact method_Zeros.mono _ _ _ _ _ _ _ _ _
   | exact LeO.none _
   | refine LeO.ite ?_ ?_
   | refine LeO.bind ?_ (fun _ => ?_)
  ·
   intro y0 y1 y2 y3 y4 y5 y6 y7 y8 y9 y10
   unfold capstanlaw07_MethodZeros.l6
   repeat' first
   | (with_reducible exact ih0 _ _ _ _ _ _ _ _ _ _ _ _)
   | (with_reducible exact ih1 _ _ _ _ _ _ _ _ _ _ _ _)
   | (with_reducible exact ih2 _ _ _ _ _ _ _ _ _ _ _)
   | (with_reducible exact ih3 _ _ _ _ _ _ _ _ _ _ _ _)
   | (with_reducible exact ih4 _ _ _ _ _ _ _ _ _ _ _)
   | (with_reducible exact ih5 _ _ _ _ _ _ _ _ _ _ _ _)
   | (with_reducible exact ih6 _ _ _ _ _ _ _ _ _ _ _)
   | (with_reducible exact ih7 _ _ _ _ _ _ _ _ _ _ _ _)
   | (with_reducible exact ih8 _ _ _ _ _ _ _ _ _ _ _)
   | (with_reducible exact capstanlaw07_awake.mono _)
   | (with_reducible exact capstanref07_SameKinds.mono _ _ _)
   | (with_reducible exact method_Fits.mono _ _ _ _ _ _ _ _ _ _)
   | (with_reducible exact method_Kinds.mono _ _ _ _ _ _ _ _ _)
   | (with_reducible exact method_May.mono _ _ _ _ _ _ _ _ _)
   | (with_reducible exact method_Migrates.mono _ _ _ _ _ _ _ _ _)
   | (with_reducible exact method_Zeros.mono _ _ _ _ _ _ _ _ _)
   | (with_reducible exact LeO.refl _)
   | (with_reducible exact LeO.none _)
   | (with_reducible refine LeO.ite ?_ ?_)
   | (with_reducible refine LeO.bind ?_ (fun _ => ?_))
   | exact ih0 _ _ _ _ _ _ _ _ _ _ _ _
   | exact ih1 _ _ _ _ _ _ _ _ _ _ _ _
   | exact ih2 _ _ _ _ _ _ _ _ _ _ _
   | exact ih3 _ _ _ _ _ _ _ _ _ _ _ _
   | exact ih4 _ _ _ _ _ _ _ _ _ _ _
   | exact ih5 _ _ _ _ _ _ _ _ _ _ _ _
   | exact ih6 _ _ _ _ _ _ _ _ _ _ _
   | exact ih7 _ _ _ _ _ _ _ _ _ _ _ _
   | exact ih8 _ _ _ _ _ _ _ _ _ _ _
   | exact capstanlaw07_awake.mono _
   | exact capstanref07_SameKinds.mono _ _ _
   | exact method_Fits.mono _ _ _ _ _ _ _ _ _ _
   | exact method_Kinds.mono _ _ _ _ _ _ _ _ _
   | exact method_May.mono _ _ _ _ _ _ _ _ _
   | exact method_Migrates.mono _ _ _ _ _ _ _ _ _
   | exact method_Zeros.mono _ _ _ _ _ _ _ _ _
   | exact LeO.none _
   | refine LeO.ite ?_ ?_
   | refine LeO.bind ?_ (fun _ => ?_)
  ·
   intro y0 y1 y2 y3 y4 y5 y6 y7 y8 y9 y10 y11
   unfold capstanlaw07_MethodZeros.l7
   repeat' first
   | (with_reducible exact ih0 _ _ _ _ _ _ _ _ _ _ _ _)
   | (with_reducible exact ih1 _ _ _ _ _ _ _ _ _ _ _ _)
   | (with_reducible exact ih2 _ _ _ _ _ _ _ _ _ _ _)
   | (with_reducible exact ih3 _ _ _ _ _ _ _ _ _ _ _ _)
   | (with_reducible exact ih4 _ _ _ _ _ _ _ _ _ _ _)
   | (with_reducible exact ih5 _ _ _ _ _ _ _ _ _ _ _ _)
   | (with_reducible exact ih6 _ _ _ _ _ _ _ _ _ _ _)
   | (with_reducible exact ih7 _ _ _ _ _ _ _ _ _ _ _ _)
   | (with_reducible exact ih8 _ _ _ _ _ _ _ _ _ _ _)
   | (with_reducible exact capstanlaw07_awake.mono _)
   | (with_reducible exact capstanref07_SameKinds.mono _ _ _)
   | (with_reducible exact method_Fits.mono _ _ _ _ _ _ _ _ _ _)
   | (with_reducible exact method_Kinds.mono _ _ _ _ _ _ _ _ _)
   | (with_reducible exact method_May.mono _ _ _ _ _ _ _ _ _)
   | (with_reducible exact method_Migrates.mono _ _ _ _ _ _ _ _ _)
   | (with_reducible exact method_Zeros.mono _ _ _ _ _ _ _ _ _)
   | (with_reducible exact LeO.refl _)
   | (with_reducible exact LeO.none _)
   | (with_reducible refine LeO.ite ?_ ?_)
   | (with_reducible refine LeO.bind ?_ (fun _ => ?_))
   | exact ih0 _ _ _ _ _ _ _ _ _ _ _ _
   | exact ih1 _ _ _ _ _ _ _ _ _ _ _ _
   | exact ih2 _ _ _ _ _ _ _ _ _ _ _
   | exact ih3 _ _ _ _ _ _ _ _ _ _ _ _
   | exact ih4 _ _ _ _ _ _ _ _ _ _ _
   | exact ih5 _ _ _ _ _ _ _ _ _ _ _ _
   | exact ih6 _ _ _ _ _ _ _ _ _ _ _
   | exact ih7 _ _ _ _ _ _ _ _ _ _ _ _
   | exact ih8 _ _ _ _ _ _ _ _ _ _ _
   | exact capstanlaw07_awake.mono _
   | exact capstanref07_SameKinds.mono _ _ _
   | exact method_Fits.mono _ _ _ _ _ _ _ _ _ _
   | exact method_Kinds.mono _ _ _ _ _ _ _ _ _
   | exact method_May.mono _ _ _ _ _ _ _ _ _
   | exact method_Migrates.mono _ _ _ _ _ _ _ _ _
   | exact method_Zeros.mono _ _ _ _ _ _ _ _ _
   | exact LeO.none _
   | refine LeO.ite ?_ ?_
   | refine LeO.bind ?_ (fun _ => ?_)
  ·
   intro y0 y1 y2 y3 y4 y5 y6 y7 y8 y9 y10
   unfold capstanlaw07_MethodZeros.l8
   repeat' first
   | (with_reducible exact ih0 _ _ _ _ _ _ _ _ _ _ _ _)
   | (with_reducible exact ih1 _ _ _ _ _ _ _ _ _ _ _ _)
   | (with_reducible exact ih2 _ _ _ _ _ _ _ _ _ _ _)
   | (with_reducible exact ih3 _ _ _ _ _ _ _ _ _ _ _ _)
   | (with_reducible exact ih4 _ _ _ _ _ _ _ _ _ _ _)
   | (with_reducible exact ih5 _ _ _ _ _ _ _ _ _ _ _ _)
   | (with_reducible exact ih6 _ _ _ _ _ _ _ _ _ _ _)
   | (with_reducible exact ih7 _ _ _ _ _ _ _ _ _ _ _ _)
   | (with_reducible exact ih8 _ _ _ _ _ _ _ _ _ _ _)
   | (with_reducible exact capstanlaw07_awake.mono _)
   | (with_reducible exact capstanref07_SameKinds.mono _ _ _)
   | (with_reducible exact method_Fits.mono _ _ _ _ _ _ _ _ _ _)
   | (with_reducible exact method_Kinds.mono _ _ _ _ _ _ _ _ _)
   | (with_reducible exact method_May.mono _ _ _ _ _ _ _ _ _)
   | (with_reducible exact method_Migrates.mono _ _ _ _ _ _ _ _ _)
   | (with_reducible exact method_Zeros.mono _ _ _ _ _ _ _ _ _)
   | (with_reducible exact LeO.refl _)
   | (with_reducible exact LeO.none _)
   | (with_reducible refine LeO.ite ?_ ?_)
   | (with_reducible refine LeO.bind ?_ (fun _ => ?_))
   | exact ih0 _ _ _ _ _ _ _ _ _ _ _ _
   | exact ih1 _ _ _ _ _ _ _ _ _ _ _ _
   | exact ih2 _ _ _ _ _ _ _ _ _ _ _
   | exact ih3 _ _ _ _ _ _ _ _ _ _ _ _
   | exact ih4 _ _ _ _ _ _ _ _ _ _ _
   | exact ih5 _ _ _ _ _ _ _ _ _ _ _ _
   | exact ih6 _ _ _ _ _ _ _ _ _ _ _
   | exact ih7 _ _ _ _ _ _ _ _ _ _ _ _
   | exact ih8 _ _ _ _ _ _ _ _ _ _ _
   | exact capstanlaw07_awake.mono _
   | exact capstanref07_SameKinds.mono _ _ _
   | exact method_Fits.mono _ _ _ _ _ _ _ _ _ _
   | exact method_Kinds.mono _ _ _ _ _ _ _ _ _
   | exact method_May.mono _ _ _ _ _ _ _ _ _
   | exact method_Migrates.mono _ _ _ _ _ _ _ _ _
   | exact method_Zeros.mono _ _ _ _ _ _ _ _ _
   | exact LeO.none _
   | refine LeO.ite ?_ ?_
   | refine LeO.bind ?_ (fun _ => ?_)
theorem capstanlaw07_MethodZeros.mono : ∀ a0 a1 a2 a3 a4 a5 a6 a7 a8 k, LeO (capstanlaw07_MethodZeros.f k a0 a1 a2 a3 a4 a5 a6 a7 a8) (capstanlaw07_MethodZeros.f (k + 1) a0 a1 a2 a3 a4 a5 a6 a7 a8) := by
 intro a0 a1 a2 a3 a4 a5 a6 a7 a8 k
 obtain ⟨ih0, ih1, ih2, ih3, ih4, ih5, ih6, ih7, ih8⟩ := capstanlaw07_MethodZeros.mono_l k
 unfold capstanlaw07_MethodZeros.f
 repeat' first
   | (with_reducible exact ih0 _ _ _ _ _ _ _ _ _ _ _ _)
   | (with_reducible exact ih1 _ _ _ _ _ _ _ _ _ _ _ _)
   | (with_reducible exact ih2 _ _ _ _ _ _ _ _ _ _ _)
   | (with_reducible exact ih3 _ _ _ _ _ _ _ _ _ _ _ _)
   | (with_reducible exact ih4 _ _ _ _ _ _ _ _ _ _ _)
   | (with_reducible exact ih5 _ _ _ _ _ _ _ _ _ _ _ _)
   | (with_reducible exact ih6 _ _ _ _ _ _ _ _ _ _ _)
   | (with_reducible exact ih7 _ _ _ _ _ _ _ _ _ _ _ _)
   | (with_reducible exact ih8 _ _ _ _ _ _ _ _ _ _ _)
   | (with_reducible exact capstanlaw07_awake.mono _)
   | (with_reducible exact capstanref07_SameKinds.mono _ _ _)
   | (with_reducible exact method_Fits.mono _ _ _ _ _ _ _ _ _ _)
   | (with_reducible exact method_Kinds.mono _ _ _ _ _ _ _ _ _)
   | (with_reducible exact method_May.mono _ _ _ _ _ _ _ _ _)
   | (with_reducible exact method_Migrates.mono _ _ _ _ _ _ _ _ _)
   | (with_reducible exact method_Zeros.mono _ _ _ _ _ _ _ _ _)
   | (with_reducible exact LeO.refl _)
   | (with_reducible exact LeO.none _)
   | (with_reducible refine LeO.ite ?_ ?_)
   | (with_reducible refine LeO.bind ?_ (fun _ => ?_))
   | exact ih0 _ _ _ _ _ _ _ _ _ _ _ _
   | exact ih1 _ _ _ _ _ _ _ _ _ _ _ _
   | exact ih2 _ _ _ _ _ _ _ _ _ _ _
   | exact ih3 _ _ _ _ _ _ _ _ _ _ _ _
   | exact ih4 _ _ _ _ _ _ _ _ _ _ _
   | exact ih5 _ _ _ _ _ _ _ _ _ _ _ _
   | exact ih6 _ _ _ _ _ _ _ _ _ _ _
   | exact ih7 _ _ _ _ _ _ _ _ _ _ _ _
   | exact ih8 _ _ _ _ _ _ _ _ _ _ _
   | exact capstanlaw07_awake.mono _
   | exact capstanref07_SameKinds.mono _ _ _
   | exact method_Fits.mono _ _ _ _ _ _ _ _ _ _
   | exact method_Kinds.mono _ _ _ _ _ _ _ _ _
   | exact method_May.mono _ _ _ _ _ _ _ _ _
   | exact method_Migrates.mono _ _ _ _ _ _ _ _ _
   | exact method_Zeros.mono _ _ _ _ _ _ _ _ _
   | exact LeO.none _
   | refine LeO.ite ?_ ?_
   | refine LeO.bind ?_ (fun _ => ?_)
def capstanlaw07_MethodZeros.T15 : Bool × List (List Nat × List Nat) := (true, [([], []), ([], []), ([0, 1], [0, 1]), ([2], [2]), ([3, 2], [3]), ([4], [4]), ([5, 4], [4, 5]), ([6, 4], [4, 6]), ([7, 4, 4], [4, 7]), ([8], [8]), ([8], [8]), ([10, 8], [8, 10]), ([9, 11, 8, 8], [8, 9, 11]), ([8, 12, 4], [4, 8, 12]), ([4, 13], [4, 13])])
def capstanlaw07_MethodZeros.B15 : List Nat := [0, 0, 3, 7, 15, 31, 63, 127, 255, 511, 511, 1535, 4095, 8191, 16383]
theorem capstanlaw07_MethodZeros.tab15 : rtab .any (opsOf Try.f7 15) = capstanlaw07_MethodZeros.T15 := by kernel_rfl
theorem capstanlaw07_MethodZeros.bits15 : waitsOk capstanlaw07_MethodZeros.T15.2 capstanlaw07_MethodZeros.B15 = true := by kernel_rfl

end Go.Proofs.Ytdbdajifalioiaa.R
