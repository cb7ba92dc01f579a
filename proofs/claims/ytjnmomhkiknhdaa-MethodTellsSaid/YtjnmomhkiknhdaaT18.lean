/- Contracts of the functions of this seat (each: the call of the function does what the plain Lean function of the same name tells; the conditions stand in each statement). Written by a program of this session and by hand; checked by Lean. -/
import Derived.Test.YtjnmomhkiknhdaaT0
import Derived.Test.YtjnmomhkiknhdaaT3
import Derived.Test.YtjnmomhkiknhdaaT4
import Derived.Test.YtjnmomhkiknhdaaT5
import Derived.Test.YtjnmomhkiknhdaaT7
import Derived.Test.YtjnmomhkiknhdaaT8
import Derived.Test.YtjnmomhkiknhdaaT9
import Derived.Test.YtjnmomhkiknhdaaT11
import Derived.Test.YtjnmomhkiknhdaaT13
import Derived.Test.YtjnmomhkiknhdaaT15
import Derived.Test.YtjnmomhkiknhdaaT16
import Derived.Test.YtjnmomhkiknhdaaT17
namespace Go.Proofs.Ytjnmomhkiknhdaa.T
open Go.RowKit Go.Proofs.YtjnmomhkiknhdaaW.PrintWords Go.Proofs.YtjnmomhkiknhdaaW.PrintLast Go.Proofs.YtjnmomhkiknhdaaW.PrintMore
attribute [local go_sem] max2_int min2_int max_two min_two max_three min_three max_four min_four   -- for this text's walks alone
set_option linter.unusedVariables false
set_option linter.unusedSimpArgs false

/-! ### capstanlaw07_MethodTells: function 5 -/
set_option maxHeartbeats 8000000 in
set_option maxRecDepth 100000 in
theorem capstanlaw07_MethodTells.calls (k : Nat) (A0_0 : Option Addr) (c0_0 : Nat) (l0_0 : List Int) (A0_1 : Option Addr) (c0_1 : Nat) (l0_1 : List Int) (a0_2 : Int) (a0_3 : Bool) (a0_4 : Int) (a0_5 : Int) (a0_6 : Int) (A0_7 : Option Addr) (c0_7 : Nat) (l0_7 : List (S130)) (A1_0 : Option Addr) (c1_0 : Nat) (l1_0 : List Int) (A1_1 : Option Addr) (c1_1 : Nat) (l1_1 : List Int) (a1_2 : Int) (a1_3 : Bool) (a1_4 : Int) (a1_5 : Int) (a1_6 : Int) (A1_7 : Option Addr) (c1_7 : Nat) (l1_7 : List (S130)) (A2 : Option Addr) (c2 : Nat) (l2 : List (S35)) (r : Bool) (w : World) (hr0_0 : Kd.C (Kd.int .u8) w A0_0 l0_0.length l0_0) (hc0_0 : l0_0.length ≤ c0_0) (hr0_1 : Kd.C (Kd.int .u8) w A0_1 l0_1.length l0_1) (hc0_1 : l0_1.length ≤ c0_1) (hr0_7 : Kd.C k130 w A0_7 l0_7.length l0_7) (hc0_7 : l0_7.length ≤ c0_7) (hr1_0 : Kd.C (Kd.int .u8) w A1_0 l1_0.length l1_0) (hc1_0 : l1_0.length ≤ c1_0) (hr1_1 : Kd.C (Kd.int .u8) w A1_1 l1_1.length l1_1) (hc1_1 : l1_1.length ≤ c1_1) (hr1_7 : Kd.C k130 w A1_7 l1_7.length l1_7) (hc1_7 : l1_7.length ≤ c1_7) (hr2 : Kd.C k35 w A2 l2.length l2) (hc2 : l2.length ≤ c2) (h : capstanlaw07_MethodTells.f k l0_0 l0_1 a0_2 a0_3 a0_4 a0_5 a0_6 l0_7 l1_0 l1_1 a1_2 a1_3 a1_4 a1_5 a1_6 l1_7 l2 = some r) :
  Calls Try.prog 5 #[.agg #[.slice A0_0 l0_0.length c0_0, .slice A0_1 l0_1.length c0_1, .int .u8 a0_2, .bool a0_3, .int .i64 a0_4, .int .i64 a0_5, .int .i64 a0_6, .slice A0_7 l0_7.length c0_7], .agg #[.slice A1_0 l1_0.length c1_0, .slice A1_1 l1_1.length c1_1, .int .u8 a1_2, .bool a1_3, .int .i64 a1_4, .int .i64 a1_5, .int .i64 a1_6, .slice A1_7 l1_7.length c1_7], .slice A2 l2.length c2] w fun e w' => e = .returned (.bool r) ∧ Below w.heap.size w w' := by
 have hu25 := Try.underlying25
 have HR0_0 := Aside0.mk hr0_0
 have HC0_0 := Aside0.mk hc0_0
 clear hr0_0 hc0_0
 have HR0_1 := Aside0.mk hr0_1
 have HC0_1 := Aside0.mk hc0_1
 clear hr0_1 hc0_1
 have HR0_7 := Aside0.mk hr0_7
 have HC0_7 := Aside0.mk hc0_7
 clear hr0_7 hc0_7
 have HR1_0 := Aside0.mk hr1_0
 have HC1_0 := Aside0.mk hc1_0
 clear hr1_0 hc1_0
 have HR1_1 := Aside0.mk hr1_1
 have HC1_1 := Aside0.mk hc1_1
 clear hr1_1 hc1_1
 have HR1_7 := Aside0.mk hr1_7
 have HC1_7 := Aside0.mk hc1_7
 clear hr1_7 hc1_7
 have HR2 := Aside0.mk hr2
 have HC2 := Aside0.mk hc2
 clear hr2 hc2
 have HB := Aside0.mk (Below.refl w.heap.size w)
 have H : ((capstanlaw07_Great.f l0_0 l0_1 a0_2 a0_3 a0_4 a0_5 a0_6 l0_7).bind fun t348 => (if t348 = true then (capstanlaw07_MethodTells.j0 k l2 true l0_0 l0_1 a0_2 a0_3 a0_4 a0_5 a0_6 l0_7 l1_0 l1_1 a1_2 a1_3 a1_4 a1_5 a1_6 l1_7) else ((capstanlaw07_Great.f l1_0 l1_1 a1_2 a1_3 a1_4 a1_5 a1_6 l1_7).bind fun t349 => (if t349 = true then (capstanlaw07_MethodTells.j0 k l2 true l0_0 l0_1 a0_2 a0_3 a0_4 a0_5 a0_6 l0_7 l1_0 l1_1 a1_2 a1_3 a1_4 a1_5 a1_6 l1_7) else (capstanlaw07_MethodTells.j0 k l2 (decide ((l2.length : Int) > 100)) l0_0 l0_1 a0_2 a0_3 a0_4 a0_5 a0_6 l0_7 l1_0 l1_1 a1_2 a1_3 a1_4 a1_5 a1_6 l1_7))))) = some r := h
 clear h
 have HC4 := Aside0.mk H
 clear H
 go_enter Try.func5, Try.ntmps5
 go_upto_region 1 with (first | ((with_reducible refine gate_dst (N := 3) rfl ?_); (try (refine gate_guard (by rfl) ?_; dsimp only)); refine box_event ?hg (N := 3) ?hd (cs := #[.slice A0_0 l0_0.length c0_0, .slice A0_1 l0_1.length c0_1, .int .u8 a0_2, .bool a0_3, .int .i64 a0_4, .int .i64 a0_5, .int .i64 a0_6, .slice A0_7 l0_7.length c0_7]) (t := 25) ?hr ?_; (case hd => rfl); (case hg => rfl); (case hr => first | (go_simp; done) | (go_simp; rfl)); intro gb346 hg w5 hbox hb; have n0_ := Aside0.mk (below_step (au1) hb); have n1_ := Aside0.mk (hbox); have n2_ := Aside0.mk ((au24 : w.heap.size ≤ gb346)); have n3_ := Aside0.mk ((au24 : w.heap.size ≤ gb346)); clear HB; have HB := n0_; have BK346 := n1_; have GW346 := n2_; have GE346 := n3_; clear n0_ n1_ n2_ n3_; clear hb hbox hg) | ((with_reducible refine gate_dst (N := 4) rfl ?_); (try (refine gate_guard (by rfl) ?_; dsimp only)); refine box_event ?hg (N := 4) ?hd (cs := #[.slice A1_0 l1_0.length c1_0, .slice A1_1 l1_1.length c1_1, .int .u8 a1_2, .bool a1_3, .int .i64 a1_4, .int .i64 a1_5, .int .i64 a1_6, .slice A1_7 l1_7.length c1_7]) (t := 25) ?hr ?_; (case hd => rfl); (case hg => rfl); (case hr => first | (go_simp; done) | (go_simp; rfl)); intro gb347 hg w6 hbox hb; have n0_ := Aside0.mk (blk_below (g := gb346) (o := .cells #[.slice A0_0 l0_0.length c0_0, .slice A0_1 l0_1.length c0_1, .int .u8 a0_2, .bool a0_3, .int .i64 a0_4, .int .i64 a0_5, .int .i64 a0_6, .slice A0_7 l0_7.length c0_7] 25 (0, 0)) (au9) hb); have n1_ := Aside0.mk (below_step (au101) hb); have n2_ := Aside0.mk (hbox); have n3_ := Aside0.mk ((by rw [hg]; exact (below_size (au101)) : w.heap.size ≤ gb347)); have n4_ := Aside0.mk ((by rw [hg]; exact (below_size (au101)) : w.heap.size ≤ gb347)); have n5_ := Aside0.mk ((by rw [hg]; exact Nat.ne_of_lt (blk_lt (g := gb346) (o := .cells #[.slice A0_0 l0_0.length c0_0, .slice A0_1 l0_1.length c0_1, .int .u8 a0_2, .bool a0_3, .int .i64 a0_4, .int .i64 a0_5, .int .i64 a0_6, .slice A0_7 l0_7.length c0_7] 25 (0, 0)) (au9)) : gb346 ≠ gb347)); have n6_ := Aside0.mk ((by rw [hg]; exact Nat.ne_of_gt (blk_lt (g := gb346) (o := .cells #[.slice A0_0 l0_0.length c0_0, .slice A0_1 l0_1.length c0_1, .int .u8 a0_2, .bool a0_3, .int .i64 a0_4, .int .i64 a0_5, .int .i64 a0_6, .slice A0_7 l0_7.length c0_7] 25 (0, 0)) (au9)) : gb347 ≠ gb346)); clear BK346; clear HB; have BK346 := n0_; have HB := n1_; have BK347 := n2_; have GW347 := n3_; have GE347 := n4_; have NB346_347 := n5_; have NB347_346 := n6_; clear n0_ n1_ n2_ n3_ n4_ n5_ n6_; clear hb hbox hg))
 (try simp only [Act.put, List.setIfInBounds_toArray, List.set_cons_zero, List.set_cons_succ])
 go_cut [31] (fun v31 wc => ∃ (kq : Nat) (x31_3 : Bool), v31 = .bool x31_3 ∧ Aside0 (capstanlaw07_MethodTells.j0 kq l2 x31_3 l0_0 l0_1 a0_2 a0_3 a0_4 a0_5 a0_6 l0_7 l1_0 l1_1 a1_2 a1_3 a1_4 a1_5 a1_6 l1_7 = some r) ∧ Aside0 (kq ≤ k) ∧ Aside0 (wc.heap[gb346]? = some (.cells #[(.slice A0_0 l0_0.length c0_0), (.slice A0_1 l0_1.length c0_1), .int .u8 a0_2, .bool a0_3, .int .i64 a0_4, .int .i64 a0_5, .int .i64 a0_6, (.slice A0_7 l0_7.length c0_7)] 25 (0, 0))) ∧ Aside0 (wc.heap[gb347]? = some (.cells #[(.slice A1_0 l1_0.length c1_0), (.slice A1_1 l1_1.length c1_1), .int .u8 a1_2, .bool a1_3, .int .i64 a1_4, .int .i64 a1_5, .int .i64 a1_6, (.slice A1_7 l1_7.length c1_7)] 25 (0, 0))) ∧ Aside0 (Below w.heap.size w wc))
 case first =>
  have H := HC4.out
  clear HC4
  replace H := Option.bind_eq_some_iff.mp H
  obtain ⟨t348, A70, H⟩ := H
  replace H : (if t348 = true then (capstanlaw07_MethodTells.j0 k l2 true l0_0 l0_1 a0_2 a0_3 a0_4 a0_5 a0_6 l0_7 l1_0 l1_1 a1_2 a1_3 a1_4 a1_5 a1_6 l1_7) else ((capstanlaw07_Great.f l1_0 l1_1 a1_2 a1_3 a1_4 a1_5 a1_6 l1_7).bind fun t349 => (if t349 = true then (capstanlaw07_MethodTells.j0 k l2 true l0_0 l0_1 a0_2 a0_3 a0_4 a0_5 a0_6 l0_7 l1_0 l1_1 a1_2 a1_3 a1_4 a1_5 a1_6 l1_7) else (capstanlaw07_MethodTells.j0 k l2 (decide ((l2.length : Int) > 100)) l0_0 l0_1 a0_2 a0_3 a0_4 a0_5 a0_6 l0_7 l1_0 l1_1 a1_2 a1_3 a1_4 a1_5 a1_6 l1_7)))) = some r := H
  have A7 := Aside0.mk A70
  clear A70
  by_cases c8 : t348 = true
  ·
   subst c8
   have H1 : (capstanlaw07_MethodTells.j0 k l2 true l0_0 l0_1 a0_2 a0_3 a0_4 a0_5 a0_6 l0_7 l1_0 l1_1 a1_2 a1_3 a1_4 a1_5 a1_6 l1_7) = some r := by rw [if_pos rfl] at H; exact H
   clear H
   have H := H1
   clear H1
   have H' := Aside0.mk H
   clear H
   have hnb9 := NB346_347.out
   have hnc9 := NB347_346.out
   obtain ⟨hcz10_0, hcz10_1, hcz10_2, hcz10_3, hcz10_4, hcz10_5, hcz10_6, hcz10_7, hfz10_0, hfz10_1, hfz10_2, hfz10_3, hfz10_4, hfz10_5, hfz10_6, hfz10_7⟩ := blk_all8 BK346.out
   go_wp2_with (first | ((with_reducible refine gate_callee (f := 22) rfl ?_); refine goesL_ (some 22) rfl rfl Try.func22 (by kernel_rfl) rfl #[.agg #[.slice A0_0 l0_0.length c0_0, .slice A0_1 l0_1.length c0_1, .int .u8 a0_2, .bool a0_3, .int .i64 a0_4, .int .i64 a0_5, .int .i64 a0_6, .slice A0_7 l0_7.length c0_7]] rfl (au3) ?_; (with_reducible refine (capstanlaw07_Great.calls _ _ l0_0 _ _ l0_1 a0_2 a0_3 a0_4 a0_5 a0_6 _ _ l0_7 true _ ?side1 ?side2 ?side3 ?side4 ?side5 ?side6 A7.out).mono ?_); (case side1 => exact au6); (case side2 => exact HC0_0.out); (case side3 => exact au15); (case side4 => exact HC0_1.out); (case side5 => exact au16); (case side6 => exact HC0_7.out); rintro e w11 ⟨rfl, hb⟩; refine ⟨_, rfl, ?_⟩; have n0_ := Aside0.mk (blk_below (g := gb346) (o := .cells #[.slice A0_0 l0_0.length c0_0, .slice A0_1 l0_1.length c0_1, .int .u8 a0_2, .bool a0_3, .int .i64 a0_4, .int .i64 a0_5, .int .i64 a0_6, .slice A0_7 l0_7.length c0_7] 25 (0, 0)) (au9) hb); have n1_ := Aside0.mk (blk_below (g := gb347) (o := .cells #[.slice A1_0 l1_0.length c1_0, .slice A1_1 l1_1.length c1_1, .int .u8 a1_2, .bool a1_3, .int .i64 a1_4, .int .i64 a1_5, .int .i64 a1_6, .slice A1_7 l1_7.length c1_7] 25 (0, 0)) (au12) hb); have n2_ := Aside0.mk (below_step (au13) hb); clear BK346; clear BK347; clear HB; have BK346 := n0_; have BK347 := n1_; have HB := n2_; clear n0_ n1_ n2_; (try clear hb); (try clear hb2); (try clear hk); (try clear hi)))
   go_meet
   case rel => exact ⟨_, (true), (au19), H', ⟨au80⟩, ⟨au9⟩, ⟨au12⟩, ⟨au13⟩⟩
  ·
   replace c8 := Bool.eq_false_iff.mpr c8
   subst c8
   have H1 : ((capstanlaw07_Great.f l1_0 l1_1 a1_2 a1_3 a1_4 a1_5 a1_6 l1_7).bind fun t349 => (if t349 = true then (capstanlaw07_MethodTells.j0 k l2 true l0_0 l0_1 a0_2 a0_3 a0_4 a0_5 a0_6 l0_7 l1_0 l1_1 a1_2 a1_3 a1_4 a1_5 a1_6 l1_7) else (capstanlaw07_MethodTells.j0 k l2 (decide ((l2.length : Int) > 100)) l0_0 l0_1 a0_2 a0_3 a0_4 a0_5 a0_6 l0_7 l1_0 l1_1 a1_2 a1_3 a1_4 a1_5 a1_6 l1_7))) = some r := by rw [if_neg (show ¬ (false = true) by decide)] at H; exact H
   clear H
   have H := H1
   clear H1
   replace H := Option.bind_eq_some_iff.mp H
   obtain ⟨t349, A120, H⟩ := H
   replace H : (if t349 = true then (capstanlaw07_MethodTells.j0 k l2 true l0_0 l0_1 a0_2 a0_3 a0_4 a0_5 a0_6 l0_7 l1_0 l1_1 a1_2 a1_3 a1_4 a1_5 a1_6 l1_7) else (capstanlaw07_MethodTells.j0 k l2 (decide ((l2.length : Int) > 100)) l0_0 l0_1 a0_2 a0_3 a0_4 a0_5 a0_6 l0_7 l1_0 l1_1 a1_2 a1_3 a1_4 a1_5 a1_6 l1_7)) = some r := H
   have A12 := Aside0.mk A120
   clear A120
   by_cases c13 : t349 = true
   ·
    subst c13
    have H1 : (capstanlaw07_MethodTells.j0 k l2 true l0_0 l0_1 a0_2 a0_3 a0_4 a0_5 a0_6 l0_7 l1_0 l1_1 a1_2 a1_3 a1_4 a1_5 a1_6 l1_7) = some r := by rw [if_pos rfl] at H; exact H
    clear H
    have H := H1
    clear H1
    have H' := Aside0.mk H
    clear H
    have hnb14 := NB346_347.out
    have hnc14 := NB347_346.out
    obtain ⟨hcz15_0, hcz15_1, hcz15_2, hcz15_3, hcz15_4, hcz15_5, hcz15_6, hcz15_7, hfz15_0, hfz15_1, hfz15_2, hfz15_3, hfz15_4, hfz15_5, hfz15_6, hfz15_7⟩ := blk_all8 BK346.out
    go_wp2_with (first | ((with_reducible refine gate_callee (f := 22) rfl ?_); refine goesL_ (some 22) rfl rfl Try.func22 (by kernel_rfl) rfl #[.agg #[.slice A0_0 l0_0.length c0_0, .slice A0_1 l0_1.length c0_1, .int .u8 a0_2, .bool a0_3, .int .i64 a0_4, .int .i64 a0_5, .int .i64 a0_6, .slice A0_7 l0_7.length c0_7]] rfl (au3) ?_; (with_reducible refine (capstanlaw07_Great.calls _ _ l0_0 _ _ l0_1 a0_2 a0_3 a0_4 a0_5 a0_6 _ _ l0_7 false _ ?side1 ?side2 ?side3 ?side4 ?side5 ?side6 A7.out).mono ?_); (case side1 => exact au6); (case side2 => exact HC0_0.out); (case side3 => exact au15); (case side4 => exact HC0_1.out); (case side5 => exact au16); (case side6 => exact HC0_7.out); rintro e w16 ⟨rfl, hb⟩; refine ⟨_, rfl, ?_⟩; have n0_ := Aside0.mk (blk_below (g := gb346) (o := .cells #[.slice A0_0 l0_0.length c0_0, .slice A0_1 l0_1.length c0_1, .int .u8 a0_2, .bool a0_3, .int .i64 a0_4, .int .i64 a0_5, .int .i64 a0_6, .slice A0_7 l0_7.length c0_7] 25 (0, 0)) (au9) hb); have n1_ := Aside0.mk (blk_below (g := gb347) (o := .cells #[.slice A1_0 l1_0.length c1_0, .slice A1_1 l1_1.length c1_1, .int .u8 a1_2, .bool a1_3, .int .i64 a1_4, .int .i64 a1_5, .int .i64 a1_6, .slice A1_7 l1_7.length c1_7] 25 (0, 0)) (au12) hb); have n2_ := Aside0.mk (below_step (au13) hb); clear BK346; clear BK347; clear HB; have BK346 := n0_; have BK347 := n1_; have HB := n2_; clear n0_ n1_ n2_; (try clear hb); (try clear hb2); (try clear hk); (try clear hi); obtain ⟨hcz17_0, hcz17_1, hcz17_2, hcz17_3, hcz17_4, hcz17_5, hcz17_6, hcz17_7, hfz17_0, hfz17_1, hfz17_2, hfz17_3, hfz17_4, hfz17_5, hfz17_6, hfz17_7⟩ := blk_all8 BK347.out) | ((fail_if_success (have h_ := w18)); go_at_call 22; (with_reducible refine (capstanlaw07_Great.calls _ _ l1_0 _ _ l1_1 a1_2 a1_3 a1_4 a1_5 a1_6 _ _ l1_7 true _ ?side1 ?side2 ?side3 ?side4 ?side5 ?side6 A12.out).mono ?_); (case side1 => exact au29); (case side2 => exact HC1_0.out); (case side3 => exact au76); (case side4 => exact HC1_1.out); (case side5 => exact au77); (case side6 => exact HC1_7.out); rintro e w18 ⟨rfl, hb⟩; have n0_ := Aside0.mk (blk_below (g := gb346) (o := .cells #[.slice A0_0 l0_0.length c0_0, .slice A0_1 l0_1.length c0_1, .int .u8 a0_2, .bool a0_3, .int .i64 a0_4, .int .i64 a0_5, .int .i64 a0_6, .slice A0_7 l0_7.length c0_7] 25 (0, 0)) (au9) hb); have n1_ := Aside0.mk (blk_below (g := gb347) (o := .cells #[.slice A1_0 l1_0.length c1_0, .slice A1_1 l1_1.length c1_1, .int .u8 a1_2, .bool a1_3, .int .i64 a1_4, .int .i64 a1_5, .int .i64 a1_6, .slice A1_7 l1_7.length c1_7] 25 (0, 0)) (au12) hb); have n2_ := Aside0.mk (below_step (au13) hb); clear BK346; clear BK347; clear HB; have BK346 := n0_; have BK347 := n1_; have HB := n2_; clear n0_ n1_ n2_; (try clear hb); (try clear hb2); (try clear hk); (try clear hi)))
    go_meet
    case rel => exact ⟨_, (true), (au19), H', ⟨au80⟩, ⟨au9⟩, ⟨au12⟩, ⟨au13⟩⟩
   ·
    replace c13 := Bool.eq_false_iff.mpr c13
    subst c13
    have H1 : (capstanlaw07_MethodTells.j0 k l2 (decide ((l2.length : Int) > 100)) l0_0 l0_1 a0_2 a0_3 a0_4 a0_5 a0_6 l0_7 l1_0 l1_1 a1_2 a1_3 a1_4 a1_5 a1_6 l1_7) = some r := by rw [if_neg (show ¬ (false = true) by decide)] at H; exact H
    clear H
    have H := H1
    clear H1
    have H' := Aside0.mk H
    clear H
    have hnb19 := NB346_347.out
    have hnc19 := NB347_346.out
    obtain ⟨hcz20_0, hcz20_1, hcz20_2, hcz20_3, hcz20_4, hcz20_5, hcz20_6, hcz20_7, hfz20_0, hfz20_1, hfz20_2, hfz20_3, hfz20_4, hfz20_5, hfz20_6, hfz20_7⟩ := blk_all8 BK346.out
    go_wp2_with (first | ((with_reducible refine gate_callee (f := 22) rfl ?_); refine goesL_ (some 22) rfl rfl Try.func22 (by kernel_rfl) rfl #[.agg #[.slice A0_0 l0_0.length c0_0, .slice A0_1 l0_1.length c0_1, .int .u8 a0_2, .bool a0_3, .int .i64 a0_4, .int .i64 a0_5, .int .i64 a0_6, .slice A0_7 l0_7.length c0_7]] rfl (au3) ?_; (with_reducible refine (capstanlaw07_Great.calls _ _ l0_0 _ _ l0_1 a0_2 a0_3 a0_4 a0_5 a0_6 _ _ l0_7 false _ ?side1 ?side2 ?side3 ?side4 ?side5 ?side6 A7.out).mono ?_); (case side1 => exact au6); (case side2 => exact HC0_0.out); (case side3 => exact au15); (case side4 => exact HC0_1.out); (case side5 => exact au16); (case side6 => exact HC0_7.out); rintro e w21 ⟨rfl, hb⟩; refine ⟨_, rfl, ?_⟩; have n0_ := Aside0.mk (blk_below (g := gb346) (o := .cells #[.slice A0_0 l0_0.length c0_0, .slice A0_1 l0_1.length c0_1, .int .u8 a0_2, .bool a0_3, .int .i64 a0_4, .int .i64 a0_5, .int .i64 a0_6, .slice A0_7 l0_7.length c0_7] 25 (0, 0)) (au9) hb); have n1_ := Aside0.mk (blk_below (g := gb347) (o := .cells #[.slice A1_0 l1_0.length c1_0, .slice A1_1 l1_1.length c1_1, .int .u8 a1_2, .bool a1_3, .int .i64 a1_4, .int .i64 a1_5, .int .i64 a1_6, .slice A1_7 l1_7.length c1_7] 25 (0, 0)) (au12) hb); have n2_ := Aside0.mk (below_step (au13) hb); clear BK346; clear BK347; clear HB; have BK346 := n0_; have BK347 := n1_; have HB := n2_; clear n0_ n1_ n2_; (try clear hb); (try clear hb2); (try clear hk); (try clear hi); obtain ⟨hcz22_0, hcz22_1, hcz22_2, hcz22_3, hcz22_4, hcz22_5, hcz22_6, hcz22_7, hfz22_0, hfz22_1, hfz22_2, hfz22_3, hfz22_4, hfz22_5, hfz22_6, hfz22_7⟩ := blk_all8 BK347.out) | ((fail_if_success (have h_ := w23)); go_at_call 22; (with_reducible refine (capstanlaw07_Great.calls _ _ l1_0 _ _ l1_1 a1_2 a1_3 a1_4 a1_5 a1_6 _ _ l1_7 false _ ?side1 ?side2 ?side3 ?side4 ?side5 ?side6 A12.out).mono ?_); (case side1 => exact au29); (case side2 => exact HC1_0.out); (case side3 => exact au76); (case side4 => exact HC1_1.out); (case side5 => exact au77); (case side6 => exact HC1_7.out); rintro e w23 ⟨rfl, hb⟩; have n0_ := Aside0.mk (blk_below (g := gb346) (o := .cells #[.slice A0_0 l0_0.length c0_0, .slice A0_1 l0_1.length c0_1, .int .u8 a0_2, .bool a0_3, .int .i64 a0_4, .int .i64 a0_5, .int .i64 a0_6, .slice A0_7 l0_7.length c0_7] 25 (0, 0)) (au9) hb); have n1_ := Aside0.mk (blk_below (g := gb347) (o := .cells #[.slice A1_0 l1_0.length c1_0, .slice A1_1 l1_1.length c1_1, .int .u8 a1_2, .bool a1_3, .int .i64 a1_4, .int .i64 a1_5, .int .i64 a1_6, .slice A1_7 l1_7.length c1_7] 25 (0, 0)) (au12) hb); have n2_ := Aside0.mk (below_step (au13) hb); clear BK346; clear BK347; clear HB; have BK346 := n0_; have BK347 := n1_; have HB := n2_; clear n0_ n1_ n2_; (try clear hb); (try clear hb2); (try clear hk); (try clear hi)))
    go_meet
    case rel => exact ⟨_, (decide ((l2.length : Int) > 100)), (au19), H', ⟨au80⟩, ⟨au9⟩, ⟨au12⟩, ⟨au13⟩⟩
 case rest =>
  clear HC4
  try clear c1
  try clear c2
  try clear p2
  try clear c5
  try clear c8
  try clear c9
  try clear c13
  try clear c14
  try clear c19
  try clear c22
  try clear hcz10_0
  try clear hcz10_1
  try clear hcz10_2
  try clear hcz10_3
  try clear hcz10_4
  try clear hcz10_5
  try clear hcz10_6
  try clear hcz10_7
  try clear hcz15_0
  try clear hcz15_1
  try clear hcz15_2
  try clear hcz15_3
  try clear hcz15_4
  try clear hcz15_5
  try clear hcz15_6
  try clear hcz15_7
  try clear hcz17_0
  try clear hcz17_1
  try clear hcz17_2
  try clear hcz17_3
  try clear hcz17_4
  try clear hcz17_5
  try clear hcz17_6
  try clear hcz17_7
  try clear hcz20_0
  try clear hcz20_1
  try clear hcz20_2
  try clear hcz20_3
  try clear hcz20_4
  try clear hcz20_5
  try clear hcz20_6
  try clear hcz20_7
  try clear hcz22_0
  try clear hcz22_1
  try clear hcz22_2
  try clear hcz22_3
  try clear hcz22_4
  try clear hcz22_5
  try clear hcz22_6
  try clear hcz22_7
  try clear hfz10_0
  try clear hfz10_1
  try clear hfz10_2
  try clear hfz10_3
  try clear hfz10_4
  try clear hfz10_5
  try clear hfz10_6
  try clear hfz10_7
  try clear hfz15_0
  try clear hfz15_1
  try clear hfz15_2
  try clear hfz15_3
  try clear hfz15_4
  try clear hfz15_5
  try clear hfz15_6
  try clear hfz15_7
  try clear hfz17_0
  try clear hfz17_1
  try clear hfz17_2
  try clear hfz17_3
  try clear hfz17_4
  try clear hfz17_5
  try clear hfz17_6
  try clear hfz17_7
  try clear hfz20_0
  try clear hfz20_1
  try clear hfz20_2
  try clear hfz20_3
  try clear hfz20_4
  try clear hfz20_5
  try clear hfz20_6
  try clear hfz20_7
  try clear hfz22_0
  try clear hfz22_1
  try clear hfz22_2
  try clear hfz22_3
  try clear hfz22_4
  try clear hfz22_5
  try clear hfz22_6
  try clear hfz22_7
  obtain ⟨kq, x31_3, rfl, HA, HJ3, BK346, BK347, HB⟩ := hcut
  cases kq with
  | zero => exact absurd HA.out (by simp [capstanlaw07_MethodTells.j0])
  | succ kj3 =>
   have H := HA.out
   clear HA
   simp only [capstanlaw07_MethodTells.j0] at H
   by_cases c24 : x31_3 = true
   ·
    subst c24
    have H1 : (some true) = some r := by rw [if_pos rfl] at H; exact H
    clear H
    have H := H1
    clear H1
    obtain rfl := Option.some.inj H
    go_wp2
    go_ret
    exact ⟨au5, au13⟩
   ·
    replace c24 := Bool.eq_false_iff.mpr c24
    subst c24
    have H1 : ((capstanlaw07_twin.f l0_0 l0_1 a0_2 a0_3 a0_4 a0_5 a0_6 l0_7).bind fun bt350 => ((capstanref07_Bytes.f kj3 l0_0 l0_1 a0_2 a0_3 a0_4 a0_5 a0_6 l0_7).bind fun bt365 => ((method_May.f kj3 bt350.1 bt350.2.1 bt350.2.2.1 bt350.2.2.2.1 bt350.2.2.2.2.1 bt350.2.2.2.2.2.1 bt350.2.2.2.2.2.2.1 bt350.2.2.2.2.2.2.2).bind fun t369 => ((capstanref07_May.f kj3 l0_0 l0_1 a0_2 a0_3 a0_4 a0_5 a0_6 l0_7).bind fun t370 => (if (t369 != t370) = true then (none) else ((method_Migrates.f kj3 bt350.1 bt350.2.1 bt350.2.2.1 bt350.2.2.2.1 bt350.2.2.2.2.1 bt350.2.2.2.2.2.1 bt350.2.2.2.2.2.2.1 bt350.2.2.2.2.2.2.2).bind fun t371 => ((capstanref07_Migrates.f kj3 l0_0 l0_1 a0_2 a0_3 a0_4 a0_5 a0_6 l0_7).bind fun t372 => (if (t371 != t372) = true then (none) else ((method_Fits.f kj3 bt350.1 bt350.2.1 bt350.2.2.1 bt350.2.2.2.1 bt350.2.2.2.2.1 bt350.2.2.2.2.2.1 bt350.2.2.2.2.2.2.1 bt350.2.2.2.2.2.2.2 l2).bind fun t373 => ((capstanref07_Fits.f kj3 l0_0 l0_1 a0_2 a0_3 a0_4 a0_5 a0_6 l0_7 l2).bind fun t374 => (if (t373 != t374) = true then (none) else ((method_Same.f kj3 bt350.1 bt350.2.1 bt350.2.2.1 bt350.2.2.2.1 bt350.2.2.2.2.1 bt350.2.2.2.2.2.1 bt350.2.2.2.2.2.2.1 bt350.2.2.2.2.2.2.2 l1_0 l1_1 a1_2 a1_3 a1_4 a1_5 a1_6 l1_7).bind fun t375 => ((capstanref07_Same.f kj3 l0_0 l0_1 a0_2 a0_3 a0_4 a0_5 a0_6 l0_7 l1_0 l1_1 a1_2 a1_3 a1_4 a1_5 a1_6 l1_7).bind fun t376 => (capstanlaw07_MethodTells.j1 kj3 bt365.1 bt365.2 (t375 != t376) l0_0 l0_1 a0_2 a0_3 a0_4 a0_5 a0_6 l0_7 bt350.1 bt350.2.1 bt350.2.2.1 bt350.2.2.2.1 bt350.2.2.2.2.1 bt350.2.2.2.2.2.1 bt350.2.2.2.2.2.2.1 bt350.2.2.2.2.2.2.2)))))))))))))) = some r := by rw [if_neg (show ¬ (false = true) by decide)] at H; exact H
    clear H
    have H := H1
    clear H1
    replace H := Option.bind_eq_some_iff.mp H
    obtain ⟨⟨t350, t353, t356, t357, t358, t359, t360, t361⟩, A250, H⟩ := H
    replace H : ((capstanref07_Bytes.f kj3 l0_0 l0_1 a0_2 a0_3 a0_4 a0_5 a0_6 l0_7).bind fun bt365 => ((method_May.f kj3 t350 t353 t356 t357 t358 t359 t360 t361).bind fun t369 => ((capstanref07_May.f kj3 l0_0 l0_1 a0_2 a0_3 a0_4 a0_5 a0_6 l0_7).bind fun t370 => (if (t369 != t370) = true then (none) else ((method_Migrates.f kj3 t350 t353 t356 t357 t358 t359 t360 t361).bind fun t371 => ((capstanref07_Migrates.f kj3 l0_0 l0_1 a0_2 a0_3 a0_4 a0_5 a0_6 l0_7).bind fun t372 => (if (t371 != t372) = true then (none) else ((method_Fits.f kj3 t350 t353 t356 t357 t358 t359 t360 t361 l2).bind fun t373 => ((capstanref07_Fits.f kj3 l0_0 l0_1 a0_2 a0_3 a0_4 a0_5 a0_6 l0_7 l2).bind fun t374 => (if (t373 != t374) = true then (none) else ((method_Same.f kj3 t350 t353 t356 t357 t358 t359 t360 t361 l1_0 l1_1 a1_2 a1_3 a1_4 a1_5 a1_6 l1_7).bind fun t375 => ((capstanref07_Same.f kj3 l0_0 l0_1 a0_2 a0_3 a0_4 a0_5 a0_6 l0_7 l1_0 l1_1 a1_2 a1_3 a1_4 a1_5 a1_6 l1_7).bind fun t376 => (capstanlaw07_MethodTells.j1 kj3 bt365.1 bt365.2 (t375 != t376) l0_0 l0_1 a0_2 a0_3 a0_4 a0_5 a0_6 l0_7 t350 t353 t356 t357 t358 t359 t360 t361))))))))))))) = some r := H
    have A25 := Aside0.mk A250
    clear A250
    replace H := Option.bind_eq_some_iff.mp H
    obtain ⟨⟨t365, t368⟩, A260, H⟩ := H
    replace H : ((method_May.f kj3 t350 t353 t356 t357 t358 t359 t360 t361).bind fun t369 => ((capstanref07_May.f kj3 l0_0 l0_1 a0_2 a0_3 a0_4 a0_5 a0_6 l0_7).bind fun t370 => (if (t369 != t370) = true then (none) else ((method_Migrates.f kj3 t350 t353 t356 t357 t358 t359 t360 t361).bind fun t371 => ((capstanref07_Migrates.f kj3 l0_0 l0_1 a0_2 a0_3 a0_4 a0_5 a0_6 l0_7).bind fun t372 => (if (t371 != t372) = true then (none) else ((method_Fits.f kj3 t350 t353 t356 t357 t358 t359 t360 t361 l2).bind fun t373 => ((capstanref07_Fits.f kj3 l0_0 l0_1 a0_2 a0_3 a0_4 a0_5 a0_6 l0_7 l2).bind fun t374 => (if (t373 != t374) = true then (none) else ((method_Same.f kj3 t350 t353 t356 t357 t358 t359 t360 t361 l1_0 l1_1 a1_2 a1_3 a1_4 a1_5 a1_6 l1_7).bind fun t375 => ((capstanref07_Same.f kj3 l0_0 l0_1 a0_2 a0_3 a0_4 a0_5 a0_6 l0_7 l1_0 l1_1 a1_2 a1_3 a1_4 a1_5 a1_6 l1_7).bind fun t376 => (capstanlaw07_MethodTells.j1 kj3 t365 t368 (t375 != t376) l0_0 l0_1 a0_2 a0_3 a0_4 a0_5 a0_6 l0_7 t350 t353 t356 t357 t358 t359 t360 t361)))))))))))) = some r := H
    have A26 := Aside0.mk A260
    clear A260
    have HC27 := Aside0.mk H
    clear H
    have hnb28 := NB346_347.out
    have hnc28 := NB347_346.out
    obtain ⟨hcz29_0, hcz29_1, hcz29_2, hcz29_3, hcz29_4, hcz29_5, hcz29_6, hcz29_7, hfz29_0, hfz29_1, hfz29_2, hfz29_3, hfz29_4, hfz29_5, hfz29_6, hfz29_7⟩ := blk_all8 BK346.out
    go_upto_region 5 with (first | ((with_reducible refine gate_callee (f := 23) rfl ?_); refine goesL_ (some 33) rfl rfl Try.func23 (by kernel_rfl) rfl #[.agg #[.slice A0_0 l0_0.length c0_0, .slice A0_1 l0_1.length c0_1, .int .u8 a0_2, .bool a0_3, .int .i64 a0_4, .int .i64 a0_5, .int .i64 a0_6, .slice A0_7 l0_7.length c0_7]] rfl (au3) ?_; (with_reducible refine (capstanlaw07_twin.calls _ _ l0_0 _ _ l0_1 a0_2 a0_3 a0_4 a0_5 a0_6 (fun k_ => k_ < w.heap.size) _ _ l0_7 t350 t353 t356 t357 t358 t359 t360 t361 _ ?side1 ?side2 ?side3 ?side4 ?side5 A25.out).mono ?_); (case side1 => exact au6); (case side2 => exact HC0_0.out); (case side3 => exact au15); (case side4 => exact HC0_1.out); (case side5 => exact Kd.V_mk HC0_7.out (Kd.F_below (Kd.C_F k130_heap HR0_7.out) (au13))); rintro e w30 ⟨v351, v354, v362, rfl, ho0, ho1, ho2, hb⟩; refine ⟨_, rfl, ?_⟩; have n0_ := Aside0.mk (Kd.R_lower (Kd.R_mono (ok' := fun k_ => some k_ ≠ (v354 : Value).ownBlock) ho0 (fun _ hk_ => hk_.2)) (below_size (au13))); have n1_ := Aside0.mk (Kd.R_lower (Kd.R_mono (ok' := fun k_ => some k_ ≠ (v351 : Value).ownBlock) ho1 (fun _ hk_ => hk_.2)) (below_size (au13))); have n2_ := Aside0.mk (Kd.V_lower (Kd.V_mono (ok' := fun k_ => some k_ ≠ (v351 : Value).ownBlock ∧ some k_ ≠ (v354 : Value).ownBlock ∧ k_ ≠ gb346 ∧ k_ ≠ gb347) ho2 (fun k_ hk_ => ⟨hk_.2.1, hk_.2.2, Or.elim hk_.1 (fun hs_ => fun e_ => Nat.not_le.2 hs_ (by rw [e_]; exact GW346.out)) (fun hn_ => (Kd.freshB (g := gb346) (o := .cells #[.slice A0_0 l0_0.length c0_0, .slice A0_1 l0_1.length c0_1, .int .u8 a0_2, .bool a0_3, .int .i64 a0_4, .int .i64 a0_5, .int .i64 a0_6, .slice A0_7 l0_7.length c0_7] 25 (0, 0)) (au9) k_ hn_)), Or.elim hk_.1 (fun hs_ => fun e_ => Nat.not_le.2 hs_ (by rw [e_]; exact GW347.out)) (fun hn_ => (Kd.freshB (g := gb347) (o := .cells #[.slice A1_0 l1_0.length c1_0, .slice A1_1 l1_1.length c1_1, .int .u8 a1_2, .bool a1_3, .int .i64 a1_4, .int .i64 a1_5, .int .i64 a1_6, .slice A1_7 l1_7.length c1_7] 25 (0, 0)) (au12) k_ hn_))⟩)) (below_size (au13))); have n3_ := Aside0.mk (blk_below (g := gb346) (o := .cells #[.slice A0_0 l0_0.length c0_0, .slice A0_1 l0_1.length c0_1, .int .u8 a0_2, .bool a0_3, .int .i64 a0_4, .int .i64 a0_5, .int .i64 a0_6, .slice A0_7 l0_7.length c0_7] 25 (0, 0)) (au9) hb); have n4_ := Aside0.mk (blk_below (g := gb347) (o := .cells #[.slice A1_0 l1_0.length c1_0, .slice A1_1 l1_1.length c1_1, .int .u8 a1_2, .bool a1_3, .int .i64 a1_4, .int .i64 a1_5, .int .i64 a1_6, .slice A1_7 l1_7.length c1_7] 25 (0, 0)) (au12) hb); have n5_ := Aside0.mk (below_step (au13) hb); clear BK346; clear BK347; clear HB; have HO352 := n0_; have HO355 := n1_; have HO363 := n2_; have BK346 := n3_; have BK347 := n4_; have HB := n5_; clear n0_ n1_ n2_ n3_ n4_ n5_; (try clear hb); (try clear hb2); (try clear hk); (try clear hi); (try clear ho0); (try clear ho1); (try clear ho2)) | ((with_reducible refine gate_dst (N := 7) rfl ?_); (try (refine gate_guard (by rfl) ?_; dsimp only)); refine box_event ?hg (N := 7) ?hd (cs := #[.slice none 0 0, .slice none 0 0, .int .u8 0, .bool false, .int .i64 0, .int .i64 0, .int .i64 0, .slice none 0 0]) (t := 25) ?hr ?_; (case hd => rfl); (case hg => rfl); (case hr => first | (go_simp; done) | (go_simp; rfl)); intro gb364 hg w31 hbox hb; have n0_ := Aside0.mk (Kd.R_below (au59) hb); have n1_ := Aside0.mk (Kd.R_below (au60) hb); have n2_ := Aside0.mk (Kd.V_below (Kd.V_elderB (au66) gb364 (Nat.le_of_eq hg.symm)) hb); have n3_ := Aside0.mk (blk_below (g := gb346) (o := .cells #[.slice A0_0 l0_0.length c0_0, .slice A0_1 l0_1.length c0_1, .int .u8 a0_2, .bool a0_3, .int .i64 a0_4, .int .i64 a0_5, .int .i64 a0_6, .slice A0_7 l0_7.length c0_7] 25 (0, 0)) (au9) hb); have n4_ := Aside0.mk (blk_below (g := gb347) (o := .cells #[.slice A1_0 l1_0.length c1_0, .slice A1_1 l1_1.length c1_1, .int .u8 a1_2, .bool a1_3, .int .i64 a1_4, .int .i64 a1_5, .int .i64 a1_6, .slice A1_7 l1_7.length c1_7] 25 (0, 0)) (au12) hb); have n5_ := Aside0.mk (below_step (au13) hb); have n6_ := Aside0.mk (hbox); have n7_ := Aside0.mk ((by rw [hg]; exact (below_size (au13)) : w.heap.size ≤ gb364)); have n8_ := Aside0.mk ((by rw [hg]; exact (below_size (au13)) : w.heap.size ≤ gb364)); have n9_ := Aside0.mk ((by rw [hg]; exact Nat.ne_of_lt (blk_lt (g := gb346) (o := .cells #[.slice A0_0 l0_0.length c0_0, .slice A0_1 l0_1.length c0_1, .int .u8 a0_2, .bool a0_3, .int .i64 a0_4, .int .i64 a0_5, .int .i64 a0_6, .slice A0_7 l0_7.length c0_7] 25 (0, 0)) (au9)) : gb346 ≠ gb364)); have n10_ := Aside0.mk ((by rw [hg]; exact Nat.ne_of_gt (blk_lt (g := gb346) (o := .cells #[.slice A0_0 l0_0.length c0_0, .slice A0_1 l0_1.length c0_1, .int .u8 a0_2, .bool a0_3, .int .i64 a0_4, .int .i64 a0_5, .int .i64 a0_6, .slice A0_7 l0_7.length c0_7] 25 (0, 0)) (au9)) : gb364 ≠ gb346)); have n11_ := Aside0.mk ((by rw [hg]; exact Nat.ne_of_lt (blk_lt (g := gb347) (o := .cells #[.slice A1_0 l1_0.length c1_0, .slice A1_1 l1_1.length c1_1, .int .u8 a1_2, .bool a1_3, .int .i64 a1_4, .int .i64 a1_5, .int .i64 a1_6, .slice A1_7 l1_7.length c1_7] 25 (0, 0)) (au12)) : gb347 ≠ gb364)); have n12_ := Aside0.mk ((by rw [hg]; exact Nat.ne_of_gt (blk_lt (g := gb347) (o := .cells #[.slice A1_0 l1_0.length c1_0, .slice A1_1 l1_1.length c1_1, .int .u8 a1_2, .bool a1_3, .int .i64 a1_4, .int .i64 a1_5, .int .i64 a1_6, .slice A1_7 l1_7.length c1_7] 25 (0, 0)) (au12)) : gb364 ≠ gb347)); clear HO352; clear HO355; clear HO363; clear BK346; clear BK347; clear HB; have HO352 := n0_; have HO355 := n1_; have HO363 := n2_; have BK346 := n3_; have BK347 := n4_; have HB := n5_; have BK364 := n6_; have GW364 := n7_; have GE364 := n8_; have NB346_364 := n9_; have NB364_346 := n10_; have NB347_364 := n11_; have NB364_347 := n12_; clear n0_ n1_ n2_ n3_ n4_ n5_ n6_ n7_ n8_ n9_ n10_ n11_ n12_; clear hb hbox hg; obtain ⟨Ao32, co32, eo32⟩ := Kd.R_slice HO352.out; subst eo32; have hnb33 := NB364_346.out; have hnc33 := NB346_364.out; have hnb34 := NB364_347.out; have hnc34 := NB347_364.out; obtain ⟨hcz35_0, hcz35_1, hcz35_2, hcz35_3, hcz35_4, hcz35_5, hcz35_6, hcz35_7, hfz35_0, hfz35_1, hfz35_2, hfz35_3, hfz35_4, hfz35_5, hfz35_6, hfz35_7⟩ := blk_all8 BK364.out; obtain ⟨Ao36, co36, eo36⟩ := Kd.R_slice HO355.out; subst eo36; obtain ⟨Ao37, co37, eo37⟩ := Kd.V_slice HO363.out; subst eo37; obtain ⟨hcz38_0, hcz38_1, hcz38_2, hcz38_3, hcz38_4, hcz38_5, hcz38_6, hcz38_7, hfz38_0, hfz38_1, hfz38_2, hfz38_3, hfz38_4, hfz38_5, hfz38_6, hfz38_7⟩ := blk_all8 BK346.out) | ((with_reducible refine gate_callee (f := 24) rfl ?_); refine goesL_ (some 36) rfl rfl Try.func24 (by kernel_rfl) rfl #[.agg #[.slice A0_0 l0_0.length c0_0, .slice A0_1 l0_1.length c0_1, .int .u8 a0_2, .bool a0_3, .int .i64 a0_4, .int .i64 a0_5, .int .i64 a0_6, .slice A0_7 l0_7.length c0_7]] rfl (au3) ?_; (with_reducible refine (capstanref07_Bytes.calls kj3 _ _ l0_0 _ _ l0_1 a0_2 a0_3 a0_4 a0_5 a0_6 _ _ l0_7 t365 t368 _ ?side1 ?side2 ?side3 ?side4 ?side5 ?side6 A26.out).mono ?_); (case side1 => exact Kd.C_below HR0_0.out (au4)); (case side2 => exact HC0_0.out); (case side3 => exact Kd.C_below HR0_1.out (au4)); (case side4 => exact HC0_1.out); (case side5 => exact Kd.C_below HR0_7.out (au4)); (case side6 => exact HC0_7.out); rintro e w39 ⟨v366, rfl, ho0, hb⟩; refine ⟨_, rfl, ?_⟩; have n0_ := Aside0.mk (Kd.R_elder' (au68) (Kd.R_base ho0) hb); have n1_ := Aside0.mk (Kd.R_elder' (au69) (Kd.R_base ho0) hb); have n2_ := Aside0.mk (Kd.V_elder' (by (with_reducible repeat (first | apply Kd.V_alloc | apply Kd.V_drewN | apply Kd.V_drew)); exact (Kd.V_mono (Kd.V_far (p := ⟨gb364, 7, none⟩) (Kd.V_far (p := ⟨gb364, 6, none⟩) (Kd.V_far (p := ⟨gb364, 5, none⟩) (Kd.V_far (p := ⟨gb364, 4, none⟩) (Kd.V_far (p := ⟨gb364, 3, none⟩) (Kd.V_far (p := ⟨gb364, 2, none⟩) (Kd.V_far (p := ⟨gb364, 1, none⟩) (Kd.V_far (p := ⟨gb364, 0, none⟩) (Kd.V_mono HO363.out (fun k_ hk => (⟨hk, hk.2⟩ : _ ∧ k_ ≠ gb364))) (fun _ hk => hk.2) (.slice Ao32 t350.length co32)) (fun _ hk => hk.2) (.slice Ao36 t353.length co36)) (fun _ hk => hk.2) (.int .u8 t356)) (fun _ hk => hk.2) (.bool t357)) (fun _ hk => hk.2) (.int .i64 t358)) (fun _ hk => hk.2) (.int .i64 t359)) (fun _ hk => hk.2) (.int .i64 t360)) (fun _ hk => hk.2) (.slice Ao37 t361.length co37)) (fun _ h_ => h_.1))) (Kd.R_base ho0) hb); have n3_ := Aside0.mk (Kd.R_lower (Kd.R_new' (Kd.R_new' ho0 (Kd.R_lt (au68))) (Kd.R_lt (au69))) (below_size (au4))); have n4_ := Aside0.mk (blk_below (g := gb346) (o := .cells #[.slice A0_0 l0_0.length c0_0, .slice A0_1 l0_1.length c0_1, .int .u8 a0_2, .bool a0_3, .int .i64 a0_4, .int .i64 a0_5, .int .i64 a0_6, .slice A0_7 l0_7.length c0_7] 25 (0, 0)) (by (with_reducible repeat (first | refine blk_drewN ?_ _ | refine blk_drew ?_ | refine blk_alloc ?_ _)); refine blk_far ?_ NB346_364.out _; (with_reducible repeat (first | refine blk_drewN ?_ _ | refine blk_drew ?_ | refine blk_alloc ?_ _)); refine blk_far ?_ NB346_364.out _; (with_reducible repeat (first | refine blk_drewN ?_ _ | refine blk_drew ?_ | refine blk_alloc ?_ _)); refine blk_far ?_ NB346_364.out _; (with_reducible repeat (first | refine blk_drewN ?_ _ | refine blk_drew ?_ | refine blk_alloc ?_ _)); refine blk_far ?_ NB346_364.out _; (with_reducible repeat (first | refine blk_drewN ?_ _ | refine blk_drew ?_ | refine blk_alloc ?_ _)); refine blk_far ?_ NB346_364.out _; (with_reducible repeat (first | refine blk_drewN ?_ _ | refine blk_drew ?_ | refine blk_alloc ?_ _)); refine blk_far ?_ NB346_364.out _; (with_reducible repeat (first | refine blk_drewN ?_ _ | refine blk_drew ?_ | refine blk_alloc ?_ _)); refine blk_far ?_ NB346_364.out _; (with_reducible repeat (first | refine blk_drewN ?_ _ | refine blk_drew ?_ | refine blk_alloc ?_ _)); refine blk_far ?_ NB346_364.out _; (with_reducible repeat (first | refine blk_drewN ?_ _ | refine blk_drew ?_ | refine blk_alloc ?_ _)); exact BK346.out) hb); have n5_ := Aside0.mk (blk_below (g := gb347) (o := .cells #[.slice A1_0 l1_0.length c1_0, .slice A1_1 l1_1.length c1_1, .int .u8 a1_2, .bool a1_3, .int .i64 a1_4, .int .i64 a1_5, .int .i64 a1_6, .slice A1_7 l1_7.length c1_7] 25 (0, 0)) (by (with_reducible repeat (first | refine blk_drewN ?_ _ | refine blk_drew ?_ | refine blk_alloc ?_ _)); refine blk_far ?_ NB347_364.out _; (with_reducible repeat (first | refine blk_drewN ?_ _ | refine blk_drew ?_ | refine blk_alloc ?_ _)); refine blk_far ?_ NB347_364.out _; (with_reducible repeat (first | refine blk_drewN ?_ _ | refine blk_drew ?_ | refine blk_alloc ?_ _)); refine blk_far ?_ NB347_364.out _; (with_reducible repeat (first | refine blk_drewN ?_ _ | refine blk_drew ?_ | refine blk_alloc ?_ _)); refine blk_far ?_ NB347_364.out _; (with_reducible repeat (first | refine blk_drewN ?_ _ | refine blk_drew ?_ | refine blk_alloc ?_ _)); refine blk_far ?_ NB347_364.out _; (with_reducible repeat (first | refine blk_drewN ?_ _ | refine blk_drew ?_ | refine blk_alloc ?_ _)); refine blk_far ?_ NB347_364.out _; (with_reducible repeat (first | refine blk_drewN ?_ _ | refine blk_drew ?_ | refine blk_alloc ?_ _)); refine blk_far ?_ NB347_364.out _; (with_reducible repeat (first | refine blk_drewN ?_ _ | refine blk_drew ?_ | refine blk_alloc ?_ _)); refine blk_far ?_ NB347_364.out _; (with_reducible repeat (first | refine blk_drewN ?_ _ | refine blk_drew ?_ | refine blk_alloc ?_ _)); exact BK347.out) hb); have n6_ := Aside0.mk (blk_below (g := gb364) (o := .cells #[.slice Ao32 t350.length co32, .slice Ao36 t353.length co36, .int .u8 t356, .bool t357, .int .i64 t358, .int .i64 t359, .int .i64 t360, .slice Ao37 t361.length co37] 25 (0, 0)) (by (with_reducible repeat (first | refine blk_drewN ?_ _ | refine blk_drew ?_ | refine blk_alloc ?_ _)); refine blk_put (cs := #[.slice Ao32 t350.length co32, .slice Ao36 t353.length co36, .int .u8 t356, .bool t357, .int .i64 t358, .int .i64 t359, .int .i64 t360, .slice none 0 0]) ?_ 7 _ rfl; (with_reducible repeat (first | refine blk_drewN ?_ _ | refine blk_drew ?_ | refine blk_alloc ?_ _)); refine blk_put (cs := #[.slice Ao32 t350.length co32, .slice Ao36 t353.length co36, .int .u8 t356, .bool t357, .int .i64 t358, .int .i64 t359, .int .i64 0, .slice none 0 0]) ?_ 6 _ rfl; (with_reducible repeat (first | refine blk_drewN ?_ _ | refine blk_drew ?_ | refine blk_alloc ?_ _)); refine blk_put (cs := #[.slice Ao32 t350.length co32, .slice Ao36 t353.length co36, .int .u8 t356, .bool t357, .int .i64 t358, .int .i64 0, .int .i64 0, .slice none 0 0]) ?_ 5 _ rfl; (with_reducible repeat (first | refine blk_drewN ?_ _ | refine blk_drew ?_ | refine blk_alloc ?_ _)); refine blk_put (cs := #[.slice Ao32 t350.length co32, .slice Ao36 t353.length co36, .int .u8 t356, .bool t357, .int .i64 0, .int .i64 0, .int .i64 0, .slice none 0 0]) ?_ 4 _ rfl; (with_reducible repeat (first | refine blk_drewN ?_ _ | refine blk_drew ?_ | refine blk_alloc ?_ _)); refine blk_put (cs := #[.slice Ao32 t350.length co32, .slice Ao36 t353.length co36, .int .u8 t356, .bool false, .int .i64 0, .int .i64 0, .int .i64 0, .slice none 0 0]) ?_ 3 _ rfl; (with_reducible repeat (first | refine blk_drewN ?_ _ | refine blk_drew ?_ | refine blk_alloc ?_ _)); refine blk_put (cs := #[.slice Ao32 t350.length co32, .slice Ao36 t353.length co36, .int .u8 0, .bool false, .int .i64 0, .int .i64 0, .int .i64 0, .slice none 0 0]) ?_ 2 _ rfl; (with_reducible repeat (first | refine blk_drewN ?_ _ | refine blk_drew ?_ | refine blk_alloc ?_ _)); refine blk_put (cs := #[.slice Ao32 t350.length co32, .slice none 0 0, .int .u8 0, .bool false, .int .i64 0, .int .i64 0, .int .i64 0, .slice none 0 0]) ?_ 1 _ rfl; (with_reducible repeat (first | refine blk_drewN ?_ _ | refine blk_drew ?_ | refine blk_alloc ?_ _)); refine blk_put (cs := #[.slice none 0 0, .slice none 0 0, .int .u8 0, .bool false, .int .i64 0, .int .i64 0, .int .i64 0, .slice none 0 0]) ?_ 0 _ rfl; (with_reducible repeat (first | refine blk_drewN ?_ _ | refine blk_drew ?_ | refine blk_alloc ?_ _)); exact BK364.out) hb); have n7_ := Aside0.mk (below_step (au4) hb); clear HO352; clear HO355; clear HO363; clear BK346; clear BK347; clear BK364; clear HB; have HO352 := n0_; have HO355 := n1_; have HO363 := n2_; have HO367 := n3_; have BK346 := n4_; have BK347 := n5_; have BK364 := n6_; have HB := n7_; clear n0_ n1_ n2_ n3_ n4_ n5_ n6_ n7_; (try clear hb); (try clear hb2); (try clear hk); (try clear hi); (try clear ho0)))
    (try simp only [Act.put, List.setIfInBounds_toArray, List.set_cons_zero, List.set_cons_succ])
    go_cut [68] (fun v68 wc => ∃ (kq : Nat) (x68_26 : Bool), v68 = .bool x68_26 ∧ Aside0 (capstanlaw07_MethodTells.j1 kq t365 t368 x68_26 l0_0 l0_1 a0_2 a0_3 a0_4 a0_5 a0_6 l0_7 t350 t353 t356 t357 t358 t359 t360 t361 = some r) ∧ Aside0 (kq ≤ kj3) ∧ Aside0 (Kd.R (Kd.int .u8) 5 wc w.heap.size (fun k_ => some k_ ≠ ((.slice Ao32 t350.length co32) : Value).ownBlock ∧ some k_ ≠ ((.slice Ao36 t353.length co36) : Value).ownBlock) v366 t365) ∧ Aside0 (Kd.R (Kd.int .u8) 5 wc w.heap.size (fun k_ => some k_ ≠ (v366 : Value).ownBlock ∧ some k_ ≠ ((.slice Ao36 t353.length co36) : Value).ownBlock) (.slice Ao32 t350.length co32) t350) ∧ Aside0 (Kd.R (Kd.int .u8) 5 wc w.heap.size (fun k_ => some k_ ≠ (v366 : Value).ownBlock ∧ some k_ ≠ ((.slice Ao32 t350.length co32) : Value).ownBlock) (.slice Ao36 t353.length co36) t353) ∧ Aside0 (Kd.V k130 130 wc w.heap.size (fun k_ => some k_ ≠ (v366 : Value).ownBlock ∧ some k_ ≠ ((.slice Ao32 t350.length co32) : Value).ownBlock ∧ some k_ ≠ ((.slice Ao36 t353.length co36) : Value).ownBlock ∧ k_ ≠ gb346 ∧ k_ ≠ gb347 ∧ k_ ≠ gb364) (.slice Ao37 t361.length co37) t361) ∧ Aside0 (wc.heap[gb346]? = some (.cells #[(.slice A0_0 l0_0.length c0_0), (.slice A0_1 l0_1.length c0_1), .int .u8 a0_2, .bool a0_3, .int .i64 a0_4, .int .i64 a0_5, .int .i64 a0_6, (.slice A0_7 l0_7.length c0_7)] 25 (0, 0))) ∧ Aside0 (wc.heap[gb347]? = some (.cells #[(.slice A1_0 l1_0.length c1_0), (.slice A1_1 l1_1.length c1_1), .int .u8 a1_2, .bool a1_3, .int .i64 a1_4, .int .i64 a1_5, .int .i64 a1_6, (.slice A1_7 l1_7.length c1_7)] 25 (0, 0))) ∧ Aside0 (wc.heap[gb364]? = some (.cells #[(.slice Ao32 t350.length co32), (.slice Ao36 t353.length co36), .int .u8 t356, .bool t357, .int .i64 t358, .int .i64 t359, .int .i64 t360, (.slice Ao37 t361.length co37)] 25 (0, 0))) ∧ Aside0 (Below w.heap.size w wc))
    case first =>
     have H := HC27.out
     clear HC27
     replace H := Option.bind_eq_some_iff.mp H
     obtain ⟨t369, A400, H⟩ := H
     replace H : ((capstanref07_May.f kj3 l0_0 l0_1 a0_2 a0_3 a0_4 a0_5 a0_6 l0_7).bind fun t370 => (if (t369 != t370) = true then (none) else ((method_Migrates.f kj3 t350 t353 t356 t357 t358 t359 t360 t361).bind fun t371 => ((capstanref07_Migrates.f kj3 l0_0 l0_1 a0_2 a0_3 a0_4 a0_5 a0_6 l0_7).bind fun t372 => (if (t371 != t372) = true then (none) else ((method_Fits.f kj3 t350 t353 t356 t357 t358 t359 t360 t361 l2).bind fun t373 => ((capstanref07_Fits.f kj3 l0_0 l0_1 a0_2 a0_3 a0_4 a0_5 a0_6 l0_7 l2).bind fun t374 => (if (t373 != t374) = true then (none) else ((method_Same.f kj3 t350 t353 t356 t357 t358 t359 t360 t361 l1_0 l1_1 a1_2 a1_3 a1_4 a1_5 a1_6 l1_7).bind fun t375 => ((capstanref07_Same.f kj3 l0_0 l0_1 a0_2 a0_3 a0_4 a0_5 a0_6 l0_7 l1_0 l1_1 a1_2 a1_3 a1_4 a1_5 a1_6 l1_7).bind fun t376 => (capstanlaw07_MethodTells.j1 kj3 t365 t368 (t375 != t376) l0_0 l0_1 a0_2 a0_3 a0_4 a0_5 a0_6 l0_7 t350 t353 t356 t357 t358 t359 t360 t361))))))))))) = some r := H
     have A40 := Aside0.mk A400
     clear A400
     replace H := Option.bind_eq_some_iff.mp H
     obtain ⟨t370, A410, H⟩ := H
     replace H : (if (t369 != t370) = true then (none) else ((method_Migrates.f kj3 t350 t353 t356 t357 t358 t359 t360 t361).bind fun t371 => ((capstanref07_Migrates.f kj3 l0_0 l0_1 a0_2 a0_3 a0_4 a0_5 a0_6 l0_7).bind fun t372 => (if (t371 != t372) = true then (none) else ((method_Fits.f kj3 t350 t353 t356 t357 t358 t359 t360 t361 l2).bind fun t373 => ((capstanref07_Fits.f kj3 l0_0 l0_1 a0_2 a0_3 a0_4 a0_5 a0_6 l0_7 l2).bind fun t374 => (if (t373 != t374) = true then (none) else ((method_Same.f kj3 t350 t353 t356 t357 t358 t359 t360 t361 l1_0 l1_1 a1_2 a1_3 a1_4 a1_5 a1_6 l1_7).bind fun t375 => ((capstanref07_Same.f kj3 l0_0 l0_1 a0_2 a0_3 a0_4 a0_5 a0_6 l0_7 l1_0 l1_1 a1_2 a1_3 a1_4 a1_5 a1_6 l1_7).bind fun t376 => (capstanlaw07_MethodTells.j1 kj3 t365 t368 (t375 != t376) l0_0 l0_1 a0_2 a0_3 a0_4 a0_5 a0_6 l0_7 t350 t353 t356 t357 t358 t359 t360 t361)))))))))) = some r := H
     have A41 := Aside0.mk A410
     clear A410
     by_cases c42 : (t369 != t370) = true
     ·
      rw [if_pos c42] at H
      exact absurd H (by simp)
     ·
      rw [if_neg c42] at H
      have c42b0 : (t369 != t370) = false := by simpa using c42
      (try (have c42b1 : decide (t369 = t370) = true := by first | (simp; done) | simpa using c42))
      (try (have c42b2 : (t369 == t370) = true := by first | (simp; done) | simpa using c42))
      clear c42
      (first | rw [c42b0] | (simp only [i64_w, i32_w]; rw [c42b0]) | skip)
      replace H := Option.bind_eq_some_iff.mp H
      obtain ⟨t371, A430, H⟩ := H
      replace H : ((capstanref07_Migrates.f kj3 l0_0 l0_1 a0_2 a0_3 a0_4 a0_5 a0_6 l0_7).bind fun t372 => (if (t371 != t372) = true then (none) else ((method_Fits.f kj3 t350 t353 t356 t357 t358 t359 t360 t361 l2).bind fun t373 => ((capstanref07_Fits.f kj3 l0_0 l0_1 a0_2 a0_3 a0_4 a0_5 a0_6 l0_7 l2).bind fun t374 => (if (t373 != t374) = true then (none) else ((method_Same.f kj3 t350 t353 t356 t357 t358 t359 t360 t361 l1_0 l1_1 a1_2 a1_3 a1_4 a1_5 a1_6 l1_7).bind fun t375 => ((capstanref07_Same.f kj3 l0_0 l0_1 a0_2 a0_3 a0_4 a0_5 a0_6 l0_7 l1_0 l1_1 a1_2 a1_3 a1_4 a1_5 a1_6 l1_7).bind fun t376 => (capstanlaw07_MethodTells.j1 kj3 t365 t368 (t375 != t376) l0_0 l0_1 a0_2 a0_3 a0_4 a0_5 a0_6 l0_7 t350 t353 t356 t357 t358 t359 t360 t361)))))))) = some r := H
      have A43 := Aside0.mk A430
      clear A430
      replace H := Option.bind_eq_some_iff.mp H
      obtain ⟨t372, A440, H⟩ := H
      replace H : (if (t371 != t372) = true then (none) else ((method_Fits.f kj3 t350 t353 t356 t357 t358 t359 t360 t361 l2).bind fun t373 => ((capstanref07_Fits.f kj3 l0_0 l0_1 a0_2 a0_3 a0_4 a0_5 a0_6 l0_7 l2).bind fun t374 => (if (t373 != t374) = true then (none) else ((method_Same.f kj3 t350 t353 t356 t357 t358 t359 t360 t361 l1_0 l1_1 a1_2 a1_3 a1_4 a1_5 a1_6 l1_7).bind fun t375 => ((capstanref07_Same.f kj3 l0_0 l0_1 a0_2 a0_3 a0_4 a0_5 a0_6 l0_7 l1_0 l1_1 a1_2 a1_3 a1_4 a1_5 a1_6 l1_7).bind fun t376 => (capstanlaw07_MethodTells.j1 kj3 t365 t368 (t375 != t376) l0_0 l0_1 a0_2 a0_3 a0_4 a0_5 a0_6 l0_7 t350 t353 t356 t357 t358 t359 t360 t361))))))) = some r := H
      have A44 := Aside0.mk A440
      clear A440
      by_cases c45 : (t371 != t372) = true
      ·
       rw [if_pos c45] at H
       exact absurd H (by simp)
      ·
       rw [if_neg c45] at H
       have c45b0 : (t371 != t372) = false := by simpa using c45
       (try (have c45b1 : decide (t371 = t372) = true := by first | (simp; done) | simpa using c45))
       (try (have c45b2 : (t371 == t372) = true := by first | (simp; done) | simpa using c45))
       clear c45
       replace H := Option.bind_eq_some_iff.mp H
       obtain ⟨t373, A460, H⟩ := H
       replace H : ((capstanref07_Fits.f kj3 l0_0 l0_1 a0_2 a0_3 a0_4 a0_5 a0_6 l0_7 l2).bind fun t374 => (if (t373 != t374) = true then (none) else ((method_Same.f kj3 t350 t353 t356 t357 t358 t359 t360 t361 l1_0 l1_1 a1_2 a1_3 a1_4 a1_5 a1_6 l1_7).bind fun t375 => ((capstanref07_Same.f kj3 l0_0 l0_1 a0_2 a0_3 a0_4 a0_5 a0_6 l0_7 l1_0 l1_1 a1_2 a1_3 a1_4 a1_5 a1_6 l1_7).bind fun t376 => (capstanlaw07_MethodTells.j1 kj3 t365 t368 (t375 != t376) l0_0 l0_1 a0_2 a0_3 a0_4 a0_5 a0_6 l0_7 t350 t353 t356 t357 t358 t359 t360 t361))))) = some r := H
       have A46 := Aside0.mk A460
       clear A460
       replace H := Option.bind_eq_some_iff.mp H
       obtain ⟨t374, A470, H⟩ := H
       replace H : (if (t373 != t374) = true then (none) else ((method_Same.f kj3 t350 t353 t356 t357 t358 t359 t360 t361 l1_0 l1_1 a1_2 a1_3 a1_4 a1_5 a1_6 l1_7).bind fun t375 => ((capstanref07_Same.f kj3 l0_0 l0_1 a0_2 a0_3 a0_4 a0_5 a0_6 l0_7 l1_0 l1_1 a1_2 a1_3 a1_4 a1_5 a1_6 l1_7).bind fun t376 => (capstanlaw07_MethodTells.j1 kj3 t365 t368 (t375 != t376) l0_0 l0_1 a0_2 a0_3 a0_4 a0_5 a0_6 l0_7 t350 t353 t356 t357 t358 t359 t360 t361)))) = some r := H
       have A47 := Aside0.mk A470
       clear A470
       by_cases c48 : (t373 != t374) = true
       ·
        rw [if_pos c48] at H
        exact absurd H (by simp)
       ·
        rw [if_neg c48] at H
        have c48b0 : (t373 != t374) = false := by simpa using c48
        (try (have c48b1 : decide (t373 = t374) = true := by first | (simp; done) | simpa using c48))
        (try (have c48b2 : (t373 == t374) = true := by first | (simp; done) | simpa using c48))
        clear c48
        replace H := Option.bind_eq_some_iff.mp H
        obtain ⟨t375, A490, H⟩ := H
        replace H : ((capstanref07_Same.f kj3 l0_0 l0_1 a0_2 a0_3 a0_4 a0_5 a0_6 l0_7 l1_0 l1_1 a1_2 a1_3 a1_4 a1_5 a1_6 l1_7).bind fun t376 => (capstanlaw07_MethodTells.j1 kj3 t365 t368 (t375 != t376) l0_0 l0_1 a0_2 a0_3 a0_4 a0_5 a0_6 l0_7 t350 t353 t356 t357 t358 t359 t360 t361)) = some r := H
        have A49 := Aside0.mk A490
        clear A490
        replace H := Option.bind_eq_some_iff.mp H
        obtain ⟨t376, A500, H⟩ := H
        replace H : (capstanlaw07_MethodTells.j1 kj3 t365 t368 (t375 != t376) l0_0 l0_1 a0_2 a0_3 a0_4 a0_5 a0_6 l0_7 t350 t353 t356 t357 t358 t359 t360 t361) = some r := H
        have A50 := Aside0.mk A500
        clear A500
        have H' := Aside0.mk H
        clear H
        try go_wp2
        (try (rw [drewN_self w39]; generalize hq_ : World.drewN w39 _ = w39; have n0_ : Aside0 (Kd.R (Kd.int .u8) 5 w39 w.heap.size (fun k_ => some k_ ≠ (.slice Ao36 t353.length co36 : Value).ownBlock ∧ some k_ ≠ (v366 : Value).ownBlock) (.slice Ao32 t350.length co32) t350) := ⟨by rw [← hq_]; exact (au59)⟩; have n1_ : Aside0 (Kd.R (Kd.int .u8) 5 w39 w.heap.size (fun k_ => some k_ ≠ (.slice Ao32 t350.length co32 : Value).ownBlock ∧ some k_ ≠ (v366 : Value).ownBlock) (.slice Ao36 t353.length co36) t353) := ⟨by rw [← hq_]; exact (au60)⟩; have n2_ : Aside0 (Kd.V k130 130 w39 w.heap.size (fun k_ => some k_ ≠ (.slice Ao32 t350.length co32 : Value).ownBlock ∧ some k_ ≠ (.slice Ao36 t353.length co36 : Value).ownBlock ∧ some k_ ≠ (v366 : Value).ownBlock ∧ k_ ≠ gb346 ∧ k_ ≠ gb347 ∧ k_ ≠ gb364) (.slice Ao37 t361.length co37) t361) := ⟨by rw [← hq_]; exact (by (with_reducible repeat (first | apply Kd.V_alloc | apply Kd.V_drewN | apply Kd.V_drew)); exact Kd.V_mono HO363.out (fun _ hk => ⟨hk.1.1.1, ⟨hk.1.1.2.1, ⟨hk.2, ⟨hk.1.1.2.2.1, ⟨hk.1.1.2.2.2, hk.1.2⟩⟩⟩⟩⟩))⟩; have n3_ : Aside0 (Kd.R (Kd.int .u8) 5 w39 w.heap.size (fun k_ => some k_ ≠ (.slice Ao32 t350.length co32 : Value).ownBlock ∧ some k_ ≠ (.slice Ao36 t353.length co36 : Value).ownBlock) v366 t365) := ⟨by rw [← hq_]; exact (by (with_reducible repeat (first | apply Kd.R_alloc | apply Kd.R_drewN | apply Kd.R_drew)); exact Kd.R_mono HO367.out (fun _ hk => ⟨hk.1.2, hk.2⟩))⟩; have n4_ : Aside0 (w39.heap[gb346]? = some (.cells #[.slice A0_0 l0_0.length c0_0, .slice A0_1 l0_1.length c0_1, .int .u8 a0_2, .bool a0_3, .int .i64 a0_4, .int .i64 a0_5, .int .i64 a0_6, .slice A0_7 l0_7.length c0_7] 25 (0, 0))) := ⟨by rw [← hq_]; exact (au9)⟩; have n5_ : Aside0 (w39.heap[gb347]? = some (.cells #[.slice A1_0 l1_0.length c1_0, .slice A1_1 l1_1.length c1_1, .int .u8 a1_2, .bool a1_3, .int .i64 a1_4, .int .i64 a1_5, .int .i64 a1_6, .slice A1_7 l1_7.length c1_7] 25 (0, 0))) := ⟨by rw [← hq_]; exact (au12)⟩; have n6_ : Aside0 (w39.heap[gb364]? = some (.cells #[.slice Ao32 t350.length co32, .slice Ao36 t353.length co36, .int .u8 t356, .bool t357, .int .i64 t358, .int .i64 t359, .int .i64 t360, .slice Ao37 t361.length co37] 25 (0, 0))) := ⟨by rw [← hq_]; exact (au23)⟩; have n7_ : Aside0 (Below w.heap.size w w39) := ⟨by rw [← hq_]; exact (au4)⟩; clear HO352 HO355 HO363 HO367 BK346 BK347 BK364 HB hq_; have HO352 := n0_; have HO355 := n1_; have HO363 := n2_; have HO367 := n3_; have BK346 := n4_; have BK347 := n5_; have BK364 := n6_; have HB := n7_; clear n0_ n1_ n2_ n3_ n4_ n5_ n6_ n7_))
        (try obtain ⟨hcu51_0, hcu51_1, hcu51_2, hcu51_3, hcu51_4, hcu51_5, hcu51_6, hcu51_7, hfu51_0, hfu51_1, hfu51_2, hfu51_3, hfu51_4, hfu51_5, hfu51_6, hfu51_7⟩ := blk_all8 BK346.out)
        (try obtain ⟨hcu52_0, hcu52_1, hcu52_2, hcu52_3, hcu52_4, hcu52_5, hcu52_6, hcu52_7, hfu52_0, hfu52_1, hfu52_2, hfu52_3, hfu52_4, hfu52_5, hfu52_6, hfu52_7⟩ := blk_all8 BK347.out)
        (try obtain ⟨hcu53_0, hcu53_1, hcu53_2, hcu53_3, hcu53_4, hcu53_5, hcu53_6, hcu53_7, hfu53_0, hfu53_1, hfu53_2, hfu53_3, hfu53_4, hfu53_5, hfu53_6, hfu53_7⟩ := blk_all8 BK364.out)
        have n0_ := Aside0.mk (Kd.R_drew HO352.out)
        have n1_ := Aside0.mk (Kd.R_drew HO355.out)
        have n2_ := Aside0.mk (Kd.V_drew HO363.out)
        have n3_ := Aside0.mk (Kd.R_drew HO367.out)
        have n4_ := Aside0.mk (blk_drew BK346.out)
        have n5_ := Aside0.mk (blk_drew BK347.out)
        have n6_ := Aside0.mk (blk_drew BK364.out)
        have n7_ := Aside0.mk (below_drew1 HB.out)
        clear HO352
        clear HO355
        clear HO363
        clear HO367
        clear BK346
        clear BK347
        clear BK364
        clear HB
        have HO352 := n0_
        have HO355 := n1_
        have HO363 := n2_
        have HO367 := n3_
        have BK346 := n4_
        have BK347 := n5_
        have BK364 := n6_
        have HB := n7_
        clear n0_ n1_ n2_ n3_ n4_ n5_ n6_ n7_
        refine start_ (n := 30) (S := fun w' => w'.cell? ⟨gb364, 0, none⟩ = some (.slice Ao32 t350.length co32) ∧ w'.cell? ⟨gb364, 1, none⟩ = some (.slice Ao36 t353.length co36) ∧ w'.cell? ⟨gb364, 2, none⟩ = some (.int .u8 t356) ∧ w'.cell? ⟨gb364, 3, none⟩ = some (.bool t357) ∧ w'.cell? ⟨gb364, 4, none⟩ = some (.int .i64 t358) ∧ w'.cell? ⟨gb364, 5, none⟩ = some (.int .i64 t359) ∧ w'.cell? ⟨gb364, 6, none⟩ = some (.int .i64 t360) ∧ w'.cell? ⟨gb364, 7, none⟩ = some (.slice Ao37 t361.length co37) ∧ w'.cell? ⟨gb346, 0, none⟩ = some (.slice A0_0 l0_0.length c0_0) ∧ w'.cell? ⟨gb346, 1, none⟩ = some (.slice A0_1 l0_1.length c0_1) ∧ w'.cell? ⟨gb346, 2, none⟩ = some (.int .u8 a0_2) ∧ w'.cell? ⟨gb346, 3, none⟩ = some (.bool a0_3) ∧ w'.cell? ⟨gb346, 4, none⟩ = some (.int .i64 a0_4) ∧ w'.cell? ⟨gb346, 5, none⟩ = some (.int .i64 a0_5) ∧ w'.cell? ⟨gb346, 6, none⟩ = some (.int .i64 a0_6) ∧ w'.cell? ⟨gb346, 7, none⟩ = some (.slice A0_7 l0_7.length c0_7) ∧ w'.cell? ⟨gb347, 0, none⟩ = some (.slice A1_0 l1_0.length c1_0) ∧ w'.cell? ⟨gb347, 1, none⟩ = some (.slice A1_1 l1_1.length c1_1) ∧ w'.cell? ⟨gb347, 2, none⟩ = some (.int .u8 a1_2) ∧ w'.cell? ⟨gb347, 3, none⟩ = some (.bool a1_3) ∧ w'.cell? ⟨gb347, 4, none⟩ = some (.int .i64 a1_4) ∧ w'.cell? ⟨gb347, 5, none⟩ = some (.int .i64 a1_5) ∧ w'.cell? ⟨gb347, 6, none⟩ = some (.int .i64 a1_6) ∧ w'.cell? ⟨gb347, 7, none⟩ = some (.slice A1_7 l1_7.length c1_7)) (ds := []) #[false, false, false, false, false, false, false, false, false, false, false, false, false, false, false, false, false, false, false, false, false, false, false, false, false, false, false, false, false, false] (by kernel_rfl) rfl rfl ⟨(blk_cell BK364.out 0).trans rfl, (blk_cell BK364.out 1).trans rfl, (blk_cell BK364.out 2).trans rfl, (blk_cell BK364.out 3).trans rfl, (blk_cell BK364.out 4).trans rfl, (blk_cell BK364.out 5).trans rfl, (blk_cell BK364.out 6).trans rfl, (blk_cell BK364.out 7).trans rfl, (blk_cell BK346.out 0).trans rfl, (blk_cell BK346.out 1).trans rfl, (blk_cell BK346.out 2).trans rfl, (blk_cell BK346.out 3).trans rfl, (blk_cell BK346.out 4).trans rfl, (blk_cell BK346.out 5).trans rfl, (blk_cell BK346.out 6).trans rfl, (blk_cell BK346.out 7).trans rfl, (blk_cell BK347.out 0).trans rfl, (blk_cell BK347.out 1).trans rfl, (blk_cell BK347.out 2).trans rfl, (blk_cell BK347.out 3).trans rfl, (blk_cell BK347.out 4).trans rfl, (blk_cell BK347.out 5).trans rfl, (blk_cell BK347.out 6).trans rfl, (blk_cell BK347.out 7).trans rfl⟩ (fun hHeld => ?_); refine with_tabW capstanlaw07_MethodTells.tab5 capstanlaw07_MethodTells.bits5 (fun HT_ HW_ => ?_)
        generalize w39.drew = w54 at HO352 HO355 HO363 HO367 BK346 BK347 BK364 HB hHeld ⊢
        refine take_ (i := 0) (N := some 39) (v := ?_) (a' := ?_) #[true, false, false, false, false, false, false, false, false, false, false, false, false, false, false, false, false, false, false, false, false, false, false, false, false, false, false, false, false, false] rfl rfl (take_ofW HT_.out HW_.out (by kernel_rfl)) (fun _ _ _ h => h) (Or.inl ⟨by rfl, ?_⟩) hHeld ?_ ?_
        rotate_left
        ·
         rintro w' ⟨s0, s1, s2, s3, s4, s5, s6, s7, s8, s9, s10, s11, s12, s13, s14, s15, s16, s17, s18, s19, s20, s21, s22, s23⟩
         go_simp
         with_reducible rfl
        rotate_left
        ·
         simp only [Act.put, List.setIfInBounds_toArray, List.set_cons_zero, List.set_cons_succ, i64_w, i32_w]
         rfl
        refine take_ (i := 2) (N := some 41) (v := ?_) (a' := ?_) #[true, false, true, false, false, false, false, false, false, false, false, false, false, false, false, false, false, false, false, false, false, false, false, false, false, false, false, false, false, false] rfl rfl (take_ofW HT_.out HW_.out (by kernel_rfl)) (fun _ _ _ h => h) (Or.inl ⟨by rfl, ?_⟩) hHeld ?_ ?_
        rotate_left
        ·
         rintro w' ⟨s0, s1, s2, s3, s4, s5, s6, s7, s8, s9, s10, s11, s12, s13, s14, s15, s16, s17, s18, s19, s20, s21, s22, s23⟩
         go_simp
         with_reducible rfl
        rotate_left
        ·
         simp only [Act.put, List.setIfInBounds_toArray, List.set_cons_zero, List.set_cons_succ, i64_w, i32_w]
         rfl
        refine one_ (i := 1) (N := some 40) #[true, true, true, false, false, false, false, false, false, false, false, false, false, false, false, false, false, false, false, false, false, false, false, false, false, false, false, false, false, false] rfl rfl (one_of HT_.out (by kernel_rfl)) (by decide) (fun K hK => ?_)
        refine goes_ Try.func25 (by kernel_rfl) rfl #[.agg #[.slice Ao32 t350.length co32, .slice Ao36 t353.length co36, .int .u8 t356, .bool t357, .int .i64 t358, .int .i64 t359, .int .i64 t360, .slice Ao37 t361.length co37]] (by rfl) rfl rfl (au3) ?_
        with_reducible refine (method_May.calls kj3 _ _ t350 _ _ t353 t356 t357 t358 t359 t360 _ _ t361 t369 _ ?side1 ?side2 ?side3 ?side4 ?side5 ?side6 A40.out).mono ?_
        (case side1 => exact au90)
        (case side2 => exact (Kd.R_reads' HO352.out).2.1)
        (case side3 => exact au91)
        (case side4 => exact (Kd.R_reads' HO355.out).2.1)
        (case side5 => exact au92)
        (case side6 => exact (Kd.V_reads' HO363.out).2.1)
        rintro e w55 ⟨rfl, hb⟩
        refine ⟨_, rfl, ?_⟩
        have n0_ := Aside0.mk (Kd.R_below (au59) hb)
        have n1_ := Aside0.mk (Kd.R_below (au60) hb)
        have n2_ := Aside0.mk (Kd.V_below (au66) hb)
        have n3_ := Aside0.mk (Kd.R_below (au75) hb)
        have n4_ := Aside0.mk (blk_below (g := gb346) (o := .cells #[.slice A0_0 l0_0.length c0_0, .slice A0_1 l0_1.length c0_1, .int .u8 a0_2, .bool a0_3, .int .i64 a0_4, .int .i64 a0_5, .int .i64 a0_6, .slice A0_7 l0_7.length c0_7] 25 (0, 0)) (au9) hb)
        have n5_ := Aside0.mk (blk_below (g := gb347) (o := .cells #[.slice A1_0 l1_0.length c1_0, .slice A1_1 l1_1.length c1_1, .int .u8 a1_2, .bool a1_3, .int .i64 a1_4, .int .i64 a1_5, .int .i64 a1_6, .slice A1_7 l1_7.length c1_7] 25 (0, 0)) (au12) hb)
        have n6_ := Aside0.mk (blk_below (g := gb364) (o := .cells #[.slice Ao32 t350.length co32, .slice Ao36 t353.length co36, .int .u8 t356, .bool t357, .int .i64 t358, .int .i64 t359, .int .i64 t360, .slice Ao37 t361.length co37] 25 (0, 0)) (au23) hb)
        have n7_ := Aside0.mk (below_step (au4) hb)
        clear HO352
        clear HO355
        clear HO363
        clear HO367
        clear BK346
        clear BK347
        clear BK364
        clear HB
        have HO352 := n0_
        have HO355 := n1_
        have HO363 := n2_
        have HO367 := n3_
        have BK346 := n4_
        have BK347 := n5_
        have BK364 := n6_
        have HB := n7_
        clear n0_ n1_ n2_ n3_ n4_ n5_ n6_ n7_
        (try clear hb)
        (try clear hb2)
        (try clear hk)
        (try clear hi)
        refine hK.out _ _ ⟨(blk_cell BK364.out 0).trans rfl, (blk_cell BK364.out 1).trans rfl, (blk_cell BK364.out 2).trans rfl, (blk_cell BK364.out 3).trans rfl, (blk_cell BK364.out 4).trans rfl, (blk_cell BK364.out 5).trans rfl, (blk_cell BK364.out 6).trans rfl, (blk_cell BK364.out 7).trans rfl, (blk_cell BK346.out 0).trans rfl, (blk_cell BK346.out 1).trans rfl, (blk_cell BK346.out 2).trans rfl, (blk_cell BK346.out 3).trans rfl, (blk_cell BK346.out 4).trans rfl, (blk_cell BK346.out 5).trans rfl, (blk_cell BK346.out 6).trans rfl, (blk_cell BK346.out 7).trans rfl, (blk_cell BK347.out 0).trans rfl, (blk_cell BK347.out 1).trans rfl, (blk_cell BK347.out 2).trans rfl, (blk_cell BK347.out 3).trans rfl, (blk_cell BK347.out 4).trans rfl, (blk_cell BK347.out 5).trans rfl, (blk_cell BK347.out 6).trans rfl, (blk_cell BK347.out 7).trans rfl⟩ (fun hHeld => ?_)
        clear hK K
        refine norm_ (a' := ?_) ?_ ?_
        rotate_left
        ·
         show Act.put _ (some 40) _ = _
         simp only [Act.put, List.setIfInBounds_toArray, List.set_cons_zero, List.set_cons_succ, i64_w, i32_w]
         rfl
        refine one_ (i := 3) (N := some 42) #[true, true, true, true, false, false, false, false, false, false, false, false, false, false, false, false, false, false, false, false, false, false, false, false, false, false, false, false, false, false] rfl rfl (one_of HT_.out (by kernel_rfl)) (by decide) (fun K hK => ?_)
        refine goes_ Try.func26 (by kernel_rfl) rfl #[.agg #[.slice A0_0 l0_0.length c0_0, .slice A0_1 l0_1.length c0_1, .int .u8 a0_2, .bool a0_3, .int .i64 a0_4, .int .i64 a0_5, .int .i64 a0_6, .slice A0_7 l0_7.length c0_7]] (by rfl) rfl rfl (au3) ?_
        with_reducible refine (capstanref07_May.calls kj3 _ _ l0_0 _ _ l0_1 a0_2 a0_3 a0_4 a0_5 a0_6 _ _ l0_7 t370 _ ?side1 ?side2 ?side3 ?side4 ?side5 ?side6 A41.out).mono ?_
        (case side1 => exact au6)
        (case side2 => exact HC0_0.out)
        (case side3 => exact au15)
        (case side4 => exact HC0_1.out)
        (case side5 => exact au16)
        (case side6 => exact HC0_7.out)
        rintro e w56 ⟨rfl, hb⟩
        refine ⟨_, rfl, ?_⟩
        have n0_ := Aside0.mk (Kd.R_below (au59) hb)
        have n1_ := Aside0.mk (Kd.R_below (au60) hb)
        have n2_ := Aside0.mk (Kd.V_below (au66) hb)
        have n3_ := Aside0.mk (Kd.R_below (au75) hb)
        have n4_ := Aside0.mk (blk_below (g := gb346) (o := .cells #[.slice A0_0 l0_0.length c0_0, .slice A0_1 l0_1.length c0_1, .int .u8 a0_2, .bool a0_3, .int .i64 a0_4, .int .i64 a0_5, .int .i64 a0_6, .slice A0_7 l0_7.length c0_7] 25 (0, 0)) (au9) hb)
        have n5_ := Aside0.mk (blk_below (g := gb347) (o := .cells #[.slice A1_0 l1_0.length c1_0, .slice A1_1 l1_1.length c1_1, .int .u8 a1_2, .bool a1_3, .int .i64 a1_4, .int .i64 a1_5, .int .i64 a1_6, .slice A1_7 l1_7.length c1_7] 25 (0, 0)) (au12) hb)
        have n6_ := Aside0.mk (blk_below (g := gb364) (o := .cells #[.slice Ao32 t350.length co32, .slice Ao36 t353.length co36, .int .u8 t356, .bool t357, .int .i64 t358, .int .i64 t359, .int .i64 t360, .slice Ao37 t361.length co37] 25 (0, 0)) (au23) hb)
        have n7_ := Aside0.mk (below_step (au4) hb)
        clear HO352
        clear HO355
        clear HO363
        clear HO367
        clear BK346
        clear BK347
        clear BK364
        clear HB
        have HO352 := n0_
        have HO355 := n1_
        have HO363 := n2_
        have HO367 := n3_
        have BK346 := n4_
        have BK347 := n5_
        have BK364 := n6_
        have HB := n7_
        clear n0_ n1_ n2_ n3_ n4_ n5_ n6_ n7_
        (try clear hb)
        (try clear hb2)
        (try clear hk)
        (try clear hi)
        refine hK.out _ _ ⟨(blk_cell BK364.out 0).trans rfl, (blk_cell BK364.out 1).trans rfl, (blk_cell BK364.out 2).trans rfl, (blk_cell BK364.out 3).trans rfl, (blk_cell BK364.out 4).trans rfl, (blk_cell BK364.out 5).trans rfl, (blk_cell BK364.out 6).trans rfl, (blk_cell BK364.out 7).trans rfl, (blk_cell BK346.out 0).trans rfl, (blk_cell BK346.out 1).trans rfl, (blk_cell BK346.out 2).trans rfl, (blk_cell BK346.out 3).trans rfl, (blk_cell BK346.out 4).trans rfl, (blk_cell BK346.out 5).trans rfl, (blk_cell BK346.out 6).trans rfl, (blk_cell BK346.out 7).trans rfl, (blk_cell BK347.out 0).trans rfl, (blk_cell BK347.out 1).trans rfl, (blk_cell BK347.out 2).trans rfl, (blk_cell BK347.out 3).trans rfl, (blk_cell BK347.out 4).trans rfl, (blk_cell BK347.out 5).trans rfl, (blk_cell BK347.out 6).trans rfl, (blk_cell BK347.out 7).trans rfl⟩ (fun hHeld => ?_)
        clear hK K
        refine norm_ (a' := ?_) ?_ ?_
        rotate_left
        ·
         show Act.put _ (some 42) _ = _
         simp only [Act.put, List.setIfInBounds_toArray, List.set_cons_zero, List.set_cons_succ, i64_w, i32_w]
         rfl
        refine pure_ (i := 4) (N := some 43) (v := ?_) (a' := ?_) #[true, true, true, true, true, false, false, false, false, false, false, false, false, false, false, false, false, false, false, false, false, false, false, false, false, false, false, false, false, false] rfl rfl (any_of HT_.out (by kernel_rfl)) (fun _ _ _ h => h) (Or.inl ⟨by rfl, ?_⟩) ?_ ?_
        rotate_left
        ·
         intro w'
         go_simp
         with_reducible rfl
        rotate_left
        ·
         simp only [Act.put, List.setIfInBounds_toArray, List.set_cons_zero, List.set_cons_succ, i64_w, i32_w]
         rfl
        refine pure_ (i := 5) (N := some 44) (v := ?_) (a' := ?_) #[true, true, true, true, true, true, false, false, false, false, false, false, false, false, false, false, false, false, false, false, false, false, false, false, false, false, false, false, false, false] rfl rfl (any_of HT_.out (by kernel_rfl)) (fun _ _ _ h => h) (Or.inl ⟨by rfl, ?_⟩) ?_ ?_
        rotate_left
        ·
         intro w'
         go_simp
         with_reducible rfl
        rotate_left
        ·
         simp only [Act.put, List.setIfInBounds_toArray, List.set_cons_zero, List.set_cons_succ, i64_w, i32_w]
         rfl
        refine take_ (i := 6) (N := some 45) (v := ?_) (a' := ?_) #[true, true, true, true, true, true, true, false, false, false, false, false, false, false, false, false, false, false, false, false, false, false, false, false, false, false, false, false, false, false] rfl rfl (take_ofW HT_.out HW_.out (by kernel_rfl)) (fun _ _ _ h => h) (Or.inl ⟨by rfl, ?_⟩) hHeld ?_ ?_
        rotate_left
        ·
         rintro w' ⟨s0, s1, s2, s3, s4, s5, s6, s7, s8, s9, s10, s11, s12, s13, s14, s15, s16, s17, s18, s19, s20, s21, s22, s23⟩
         go_simp
         with_reducible rfl
        rotate_left
        ·
         simp only [Act.put, List.setIfInBounds_toArray, List.set_cons_zero, List.set_cons_succ, i64_w, i32_w]
         rfl
        refine take_ (i := 8) (N := some 47) (v := ?_) (a' := ?_) #[true, true, true, true, true, true, true, false, true, false, false, false, false, false, false, false, false, false, false, false, false, false, false, false, false, false, false, false, false, false] rfl rfl (take_ofW HT_.out HW_.out (by kernel_rfl)) (fun _ _ _ h => h) (Or.inl ⟨by rfl, ?_⟩) hHeld ?_ ?_
        rotate_left
        ·
         rintro w' ⟨s0, s1, s2, s3, s4, s5, s6, s7, s8, s9, s10, s11, s12, s13, s14, s15, s16, s17, s18, s19, s20, s21, s22, s23⟩
         go_simp
         with_reducible rfl
        rotate_left
        ·
         simp only [Act.put, List.setIfInBounds_toArray, List.set_cons_zero, List.set_cons_succ, i64_w, i32_w]
         rfl
        refine one_ (i := 7) (N := some 46) #[true, true, true, true, true, true, true, true, true, false, false, false, false, false, false, false, false, false, false, false, false, false, false, false, false, false, false, false, false, false] rfl rfl (one_of HT_.out (by kernel_rfl)) (by decide) (fun K hK => ?_)
        refine goes_ Try.func27 (by kernel_rfl) rfl #[.agg #[.slice Ao32 t350.length co32, .slice Ao36 t353.length co36, .int .u8 t356, .bool t357, .int .i64 t358, .int .i64 t359, .int .i64 t360, .slice Ao37 t361.length co37]] (by rfl) rfl rfl (au3) ?_
        with_reducible refine (method_Migrates.calls kj3 _ _ t350 _ _ t353 t356 t357 t358 t359 t360 _ _ t361 t371 _ ?side1 ?side2 ?side3 ?side4 ?side5 ?side6 A43.out).mono ?_
        (case side1 => exact au90)
        (case side2 => exact (Kd.R_reads' HO352.out).2.1)
        (case side3 => exact au91)
        (case side4 => exact (Kd.R_reads' HO355.out).2.1)
        (case side5 => exact au92)
        (case side6 => exact (Kd.V_reads' HO363.out).2.1)
        rintro e w57 ⟨rfl, hb⟩
        refine ⟨_, rfl, ?_⟩
        have n0_ := Aside0.mk (Kd.R_below (au59) hb)
        have n1_ := Aside0.mk (Kd.R_below (au60) hb)
        have n2_ := Aside0.mk (Kd.V_below (au66) hb)
        have n3_ := Aside0.mk (Kd.R_below (au75) hb)
        have n4_ := Aside0.mk (blk_below (g := gb346) (o := .cells #[.slice A0_0 l0_0.length c0_0, .slice A0_1 l0_1.length c0_1, .int .u8 a0_2, .bool a0_3, .int .i64 a0_4, .int .i64 a0_5, .int .i64 a0_6, .slice A0_7 l0_7.length c0_7] 25 (0, 0)) (au9) hb)
        have n5_ := Aside0.mk (blk_below (g := gb347) (o := .cells #[.slice A1_0 l1_0.length c1_0, .slice A1_1 l1_1.length c1_1, .int .u8 a1_2, .bool a1_3, .int .i64 a1_4, .int .i64 a1_5, .int .i64 a1_6, .slice A1_7 l1_7.length c1_7] 25 (0, 0)) (au12) hb)
        have n6_ := Aside0.mk (blk_below (g := gb364) (o := .cells #[.slice Ao32 t350.length co32, .slice Ao36 t353.length co36, .int .u8 t356, .bool t357, .int .i64 t358, .int .i64 t359, .int .i64 t360, .slice Ao37 t361.length co37] 25 (0, 0)) (au23) hb)
        have n7_ := Aside0.mk (below_step (au4) hb)
        clear HO352
        clear HO355
        clear HO363
        clear HO367
        clear BK346
        clear BK347
        clear BK364
        clear HB
        have HO352 := n0_
        have HO355 := n1_
        have HO363 := n2_
        have HO367 := n3_
        have BK346 := n4_
        have BK347 := n5_
        have BK364 := n6_
        have HB := n7_
        clear n0_ n1_ n2_ n3_ n4_ n5_ n6_ n7_
        (try clear hb)
        (try clear hb2)
        (try clear hk)
        (try clear hi)
        refine hK.out _ _ ⟨(blk_cell BK364.out 0).trans rfl, (blk_cell BK364.out 1).trans rfl, (blk_cell BK364.out 2).trans rfl, (blk_cell BK364.out 3).trans rfl, (blk_cell BK364.out 4).trans rfl, (blk_cell BK364.out 5).trans rfl, (blk_cell BK364.out 6).trans rfl, (blk_cell BK364.out 7).trans rfl, (blk_cell BK346.out 0).trans rfl, (blk_cell BK346.out 1).trans rfl, (blk_cell BK346.out 2).trans rfl, (blk_cell BK346.out 3).trans rfl, (blk_cell BK346.out 4).trans rfl, (blk_cell BK346.out 5).trans rfl, (blk_cell BK346.out 6).trans rfl, (blk_cell BK346.out 7).trans rfl, (blk_cell BK347.out 0).trans rfl, (blk_cell BK347.out 1).trans rfl, (blk_cell BK347.out 2).trans rfl, (blk_cell BK347.out 3).trans rfl, (blk_cell BK347.out 4).trans rfl, (blk_cell BK347.out 5).trans rfl, (blk_cell BK347.out 6).trans rfl, (blk_cell BK347.out 7).trans rfl⟩ (fun hHeld => ?_)
        clear hK K
        refine norm_ (a' := ?_) ?_ ?_
        rotate_left
        ·
         show Act.put _ (some 46) _ = _
         simp only [Act.put, List.setIfInBounds_toArray, List.set_cons_zero, List.set_cons_succ, i64_w, i32_w]
         rfl
        refine one_ (i := 9) (N := some 48) #[true, true, true, true, true, true, true, true, true, true, false, false, false, false, false, false, false, false, false, false, false, false, false, false, false, false, false, false, false, false] rfl rfl (one_of HT_.out (by kernel_rfl)) (by decide) (fun K hK => ?_)
        refine goes_ Try.func28 (by kernel_rfl) rfl #[.agg #[.slice A0_0 l0_0.length c0_0, .slice A0_1 l0_1.length c0_1, .int .u8 a0_2, .bool a0_3, .int .i64 a0_4, .int .i64 a0_5, .int .i64 a0_6, .slice A0_7 l0_7.length c0_7]] (by rfl) rfl rfl (au3) ?_
        with_reducible refine (capstanref07_Migrates.calls kj3 _ _ l0_0 _ _ l0_1 a0_2 a0_3 a0_4 a0_5 a0_6 _ _ l0_7 t372 _ ?side1 ?side2 ?side3 ?side4 ?side5 ?side6 A44.out).mono ?_
        (case side1 => exact au6)
        (case side2 => exact HC0_0.out)
        (case side3 => exact au15)
        (case side4 => exact HC0_1.out)
        (case side5 => exact au16)
        (case side6 => exact HC0_7.out)
        rintro e w58 ⟨rfl, hb⟩
        refine ⟨_, rfl, ?_⟩
        have n0_ := Aside0.mk (Kd.R_below (au59) hb)
        have n1_ := Aside0.mk (Kd.R_below (au60) hb)
        have n2_ := Aside0.mk (Kd.V_below (au66) hb)
        have n3_ := Aside0.mk (Kd.R_below (au75) hb)
        have n4_ := Aside0.mk (blk_below (g := gb346) (o := .cells #[.slice A0_0 l0_0.length c0_0, .slice A0_1 l0_1.length c0_1, .int .u8 a0_2, .bool a0_3, .int .i64 a0_4, .int .i64 a0_5, .int .i64 a0_6, .slice A0_7 l0_7.length c0_7] 25 (0, 0)) (au9) hb)
        have n5_ := Aside0.mk (blk_below (g := gb347) (o := .cells #[.slice A1_0 l1_0.length c1_0, .slice A1_1 l1_1.length c1_1, .int .u8 a1_2, .bool a1_3, .int .i64 a1_4, .int .i64 a1_5, .int .i64 a1_6, .slice A1_7 l1_7.length c1_7] 25 (0, 0)) (au12) hb)
        have n6_ := Aside0.mk (blk_below (g := gb364) (o := .cells #[.slice Ao32 t350.length co32, .slice Ao36 t353.length co36, .int .u8 t356, .bool t357, .int .i64 t358, .int .i64 t359, .int .i64 t360, .slice Ao37 t361.length co37] 25 (0, 0)) (au23) hb)
        have n7_ := Aside0.mk (below_step (au4) hb)
        clear HO352
        clear HO355
        clear HO363
        clear HO367
        clear BK346
        clear BK347
        clear BK364
        clear HB
        have HO352 := n0_
        have HO355 := n1_
        have HO363 := n2_
        have HO367 := n3_
        have BK346 := n4_
        have BK347 := n5_
        have BK364 := n6_
        have HB := n7_
        clear n0_ n1_ n2_ n3_ n4_ n5_ n6_ n7_
        (try clear hb)
        (try clear hb2)
        (try clear hk)
        (try clear hi)
        refine hK.out _ _ ⟨(blk_cell BK364.out 0).trans rfl, (blk_cell BK364.out 1).trans rfl, (blk_cell BK364.out 2).trans rfl, (blk_cell BK364.out 3).trans rfl, (blk_cell BK364.out 4).trans rfl, (blk_cell BK364.out 5).trans rfl, (blk_cell BK364.out 6).trans rfl, (blk_cell BK364.out 7).trans rfl, (blk_cell BK346.out 0).trans rfl, (blk_cell BK346.out 1).trans rfl, (blk_cell BK346.out 2).trans rfl, (blk_cell BK346.out 3).trans rfl, (blk_cell BK346.out 4).trans rfl, (blk_cell BK346.out 5).trans rfl, (blk_cell BK346.out 6).trans rfl, (blk_cell BK346.out 7).trans rfl, (blk_cell BK347.out 0).trans rfl, (blk_cell BK347.out 1).trans rfl, (blk_cell BK347.out 2).trans rfl, (blk_cell BK347.out 3).trans rfl, (blk_cell BK347.out 4).trans rfl, (blk_cell BK347.out 5).trans rfl, (blk_cell BK347.out 6).trans rfl, (blk_cell BK347.out 7).trans rfl⟩ (fun hHeld => ?_)
        clear hK K
        refine norm_ (a' := ?_) ?_ ?_
        rotate_left
        ·
         show Act.put _ (some 48) _ = _
         simp only [Act.put, List.setIfInBounds_toArray, List.set_cons_zero, List.set_cons_succ, i64_w, i32_w]
         rfl
        refine pure_ (i := 10) (N := some 49) (v := ?_) (a' := ?_) #[true, true, true, true, true, true, true, true, true, true, true, false, false, false, false, false, false, false, false, false, false, false, false, false, false, false, false, false, false, false] rfl rfl (any_of HT_.out (by kernel_rfl)) (fun _ _ _ h => h) (Or.inl ⟨by rfl, ?_⟩) ?_ ?_
        rotate_left
        ·
         intro w'
         go_simp
         with_reducible rfl
        rotate_left
        ·
         simp only [Act.put, List.setIfInBounds_toArray, List.set_cons_zero, List.set_cons_succ, i64_w, i32_w]
         rfl
        refine pure_ (i := 11) (N := some 50) (v := ?_) (a' := ?_) #[true, true, true, true, true, true, true, true, true, true, true, true, false, false, false, false, false, false, false, false, false, false, false, false, false, false, false, false, false, false] rfl rfl (any_of HT_.out (by kernel_rfl)) (fun _ _ _ h => h) (Or.inl ⟨by rfl, ?_⟩) ?_ ?_
        rotate_left
        ·
         intro w'
         go_simp
         with_reducible rfl
        rotate_left
        ·
         simp only [Act.put, List.setIfInBounds_toArray, List.set_cons_zero, List.set_cons_succ, i64_w, i32_w]
         rfl
        refine pure_ (i := 12) (N := some 51) (v := ?_) (a' := ?_) #[true, true, true, true, true, true, true, true, true, true, true, true, true, false, false, false, false, false, false, false, false, false, false, false, false, false, false, false, false, false] rfl rfl (any_of HT_.out (by kernel_rfl)) (fun _ _ _ h => h) (Or.inl ⟨by rfl, ?_⟩) ?_ ?_
        rotate_left
        ·
         intro w'
         go_simp
         with_reducible rfl
        rotate_left
        ·
         simp only [Act.put, List.setIfInBounds_toArray, List.set_cons_zero, List.set_cons_succ, i64_w, i32_w]
         rfl
        refine pure_ (i := 14) (N := some 53) (v := ?_) (a' := ?_) #[true, true, true, true, true, true, true, true, true, true, true, true, true, false, true, false, false, false, false, false, false, false, false, false, false, false, false, false, false, false] rfl rfl (any_of HT_.out (by kernel_rfl)) (fun _ _ _ h => h) (Or.inl ⟨by rfl, ?_⟩) ?_ ?_
        rotate_left
        ·
         intro w'
         go_simp
         with_reducible rfl
        rotate_left
        ·
         simp only [Act.put, List.setIfInBounds_toArray, List.set_cons_zero, List.set_cons_succ, i64_w, i32_w]
         rfl
        refine pure_ (i := 17) (N := some 56) (v := ?_) (a' := ?_) #[true, true, true, true, true, true, true, true, true, true, true, true, true, false, true, false, false, true, false, false, false, false, false, false, false, false, false, false, false, false] rfl rfl (any_of HT_.out (by kernel_rfl)) (fun _ _ _ h => h) (Or.inl ⟨by rfl, ?_⟩) ?_ ?_
        rotate_left
        ·
         intro w'
         go_simp
         with_reducible rfl
        rotate_left
        ·
         simp only [Act.put, List.setIfInBounds_toArray, List.set_cons_zero, List.set_cons_succ, i64_w, i32_w]
         rfl
        refine take_ (i := 13) (N := some 52) (v := ?_) (a' := ?_) #[true, true, true, true, true, true, true, true, true, true, true, true, true, true, true, false, false, true, false, false, false, false, false, false, false, false, false, false, false, false] rfl rfl (take_ofW HT_.out HW_.out (by kernel_rfl)) (fun _ _ _ h => h) (Or.inl ⟨by rfl, ?_⟩) hHeld ?_ ?_
        rotate_left
        ·
         rintro w' ⟨s0, s1, s2, s3, s4, s5, s6, s7, s8, s9, s10, s11, s12, s13, s14, s15, s16, s17, s18, s19, s20, s21, s22, s23⟩
         go_simp
         with_reducible rfl
        rotate_left
        ·
         simp only [Act.put, List.setIfInBounds_toArray, List.set_cons_zero, List.set_cons_succ, i64_w, i32_w]
         rfl
        refine take_ (i := 16) (N := some 55) (v := ?_) (a' := ?_) #[true, true, true, true, true, true, true, true, true, true, true, true, true, true, true, false, true, true, false, false, false, false, false, false, false, false, false, false, false, false] rfl rfl (take_ofW HT_.out HW_.out (by kernel_rfl)) (fun _ _ _ h => h) (Or.inl ⟨by rfl, ?_⟩) hHeld ?_ ?_
        rotate_left
        ·
         rintro w' ⟨s0, s1, s2, s3, s4, s5, s6, s7, s8, s9, s10, s11, s12, s13, s14, s15, s16, s17, s18, s19, s20, s21, s22, s23⟩
         go_simp
         with_reducible rfl
        rotate_left
        ·
         simp only [Act.put, List.setIfInBounds_toArray, List.set_cons_zero, List.set_cons_succ, i64_w, i32_w]
         rfl
        refine one_ (i := 15) (N := some 54) #[true, true, true, true, true, true, true, true, true, true, true, true, true, true, true, true, true, true, false, false, false, false, false, false, false, false, false, false, false, false] rfl rfl (one_of HT_.out (by kernel_rfl)) (by decide) (fun K hK => ?_)
        refine goes_ Try.func29 (by kernel_rfl) rfl #[.agg #[.slice Ao32 t350.length co32, .slice Ao36 t353.length co36, .int .u8 t356, .bool t357, .int .i64 t358, .int .i64 t359, .int .i64 t360, .slice Ao37 t361.length co37], .slice A2 l2.length c2] (by rfl) rfl rfl (au3) ?_
        with_reducible refine (method_Fits.calls kj3 _ _ t350 _ _ t353 t356 t357 t358 t359 t360 _ _ t361 _ _ l2 t373 _ ?side1 ?side2 ?side3 ?side4 ?side5 ?side6 ?side7 ?side8 A46.out).mono ?_
        (case side1 => exact au90)
        (case side2 => exact (Kd.R_reads' HO352.out).2.1)
        (case side3 => exact au91)
        (case side4 => exact (Kd.R_reads' HO355.out).2.1)
        (case side5 => exact au92)
        (case side6 => exact (Kd.V_reads' HO363.out).2.1)
        (case side7 => repeat (first | exact (Kd.C_below HR2.out HB.out) | (with_reducible refine Kd.C_alloc ?_ _) | (with_reducible refine Kd.C_drewN ?_ _) | (with_reducible refine Kd.C_drew ?_)))
        (case side8 => exact HC2.out)
        rintro e w59 ⟨rfl, hb⟩
        refine ⟨_, rfl, ?_⟩
        have n0_ := Aside0.mk (Kd.R_below (au59) hb)
        have n1_ := Aside0.mk (Kd.R_below (au60) hb)
        have n2_ := Aside0.mk (Kd.V_below (au66) hb)
        have n3_ := Aside0.mk (Kd.R_below (au75) hb)
        have n4_ := Aside0.mk (blk_below (g := gb346) (o := .cells #[.slice A0_0 l0_0.length c0_0, .slice A0_1 l0_1.length c0_1, .int .u8 a0_2, .bool a0_3, .int .i64 a0_4, .int .i64 a0_5, .int .i64 a0_6, .slice A0_7 l0_7.length c0_7] 25 (0, 0)) (au9) hb)
        have n5_ := Aside0.mk (blk_below (g := gb347) (o := .cells #[.slice A1_0 l1_0.length c1_0, .slice A1_1 l1_1.length c1_1, .int .u8 a1_2, .bool a1_3, .int .i64 a1_4, .int .i64 a1_5, .int .i64 a1_6, .slice A1_7 l1_7.length c1_7] 25 (0, 0)) (au12) hb)
        have n6_ := Aside0.mk (blk_below (g := gb364) (o := .cells #[.slice Ao32 t350.length co32, .slice Ao36 t353.length co36, .int .u8 t356, .bool t357, .int .i64 t358, .int .i64 t359, .int .i64 t360, .slice Ao37 t361.length co37] 25 (0, 0)) (au23) hb)
        have n7_ := Aside0.mk (below_step (au4) hb)
        clear HO352
        clear HO355
        clear HO363
        clear HO367
        clear BK346
        clear BK347
        clear BK364
        clear HB
        have HO352 := n0_
        have HO355 := n1_
        have HO363 := n2_
        have HO367 := n3_
        have BK346 := n4_
        have BK347 := n5_
        have BK364 := n6_
        have HB := n7_
        clear n0_ n1_ n2_ n3_ n4_ n5_ n6_ n7_
        (try clear hb)
        (try clear hb2)
        (try clear hk)
        (try clear hi)
        refine hK.out _ _ ⟨(blk_cell BK364.out 0).trans rfl, (blk_cell BK364.out 1).trans rfl, (blk_cell BK364.out 2).trans rfl, (blk_cell BK364.out 3).trans rfl, (blk_cell BK364.out 4).trans rfl, (blk_cell BK364.out 5).trans rfl, (blk_cell BK364.out 6).trans rfl, (blk_cell BK364.out 7).trans rfl, (blk_cell BK346.out 0).trans rfl, (blk_cell BK346.out 1).trans rfl, (blk_cell BK346.out 2).trans rfl, (blk_cell BK346.out 3).trans rfl, (blk_cell BK346.out 4).trans rfl, (blk_cell BK346.out 5).trans rfl, (blk_cell BK346.out 6).trans rfl, (blk_cell BK346.out 7).trans rfl, (blk_cell BK347.out 0).trans rfl, (blk_cell BK347.out 1).trans rfl, (blk_cell BK347.out 2).trans rfl, (blk_cell BK347.out 3).trans rfl, (blk_cell BK347.out 4).trans rfl, (blk_cell BK347.out 5).trans rfl, (blk_cell BK347.out 6).trans rfl, (blk_cell BK347.out 7).trans rfl⟩ (fun hHeld => ?_)
        clear hK K
        refine norm_ (a' := ?_) ?_ ?_
        rotate_left
        ·
         show Act.put _ (some 54) _ = _
         simp only [Act.put, List.setIfInBounds_toArray, List.set_cons_zero, List.set_cons_succ, i64_w, i32_w]
         rfl
        refine one_ (i := 18) (N := some 57) #[true, true, true, true, true, true, true, true, true, true, true, true, true, true, true, true, true, true, true, false, false, false, false, false, false, false, false, false, false, false] rfl rfl (one_of HT_.out (by kernel_rfl)) (by decide) (fun K hK => ?_)
        refine goes_ Try.func30 (by kernel_rfl) rfl #[.agg #[.slice A0_0 l0_0.length c0_0, .slice A0_1 l0_1.length c0_1, .int .u8 a0_2, .bool a0_3, .int .i64 a0_4, .int .i64 a0_5, .int .i64 a0_6, .slice A0_7 l0_7.length c0_7], .slice A2 l2.length c2] (by rfl) rfl rfl (au3) ?_
        with_reducible refine (capstanref07_Fits.calls kj3 _ _ l0_0 _ _ l0_1 a0_2 a0_3 a0_4 a0_5 a0_6 _ _ l0_7 _ _ l2 t374 _ ?side1 ?side2 ?side3 ?side4 ?side5 ?side6 ?side7 ?side8 A47.out).mono ?_
        (case side1 => exact au6)
        (case side2 => exact HC0_0.out)
        (case side3 => exact au15)
        (case side4 => exact HC0_1.out)
        (case side5 => exact au16)
        (case side6 => exact HC0_7.out)
        (case side7 => repeat (first | exact (Kd.C_below HR2.out HB.out) | (with_reducible refine Kd.C_alloc ?_ _) | (with_reducible refine Kd.C_drewN ?_ _) | (with_reducible refine Kd.C_drew ?_)))
        (case side8 => exact HC2.out)
        rintro e w60 ⟨rfl, hb⟩
        refine ⟨_, rfl, ?_⟩
        have n0_ := Aside0.mk (Kd.R_below (au59) hb)
        have n1_ := Aside0.mk (Kd.R_below (au60) hb)
        have n2_ := Aside0.mk (Kd.V_below (au66) hb)
        have n3_ := Aside0.mk (Kd.R_below (au75) hb)
        have n4_ := Aside0.mk (blk_below (g := gb346) (o := .cells #[.slice A0_0 l0_0.length c0_0, .slice A0_1 l0_1.length c0_1, .int .u8 a0_2, .bool a0_3, .int .i64 a0_4, .int .i64 a0_5, .int .i64 a0_6, .slice A0_7 l0_7.length c0_7] 25 (0, 0)) (au9) hb)
        have n5_ := Aside0.mk (blk_below (g := gb347) (o := .cells #[.slice A1_0 l1_0.length c1_0, .slice A1_1 l1_1.length c1_1, .int .u8 a1_2, .bool a1_3, .int .i64 a1_4, .int .i64 a1_5, .int .i64 a1_6, .slice A1_7 l1_7.length c1_7] 25 (0, 0)) (au12) hb)
        have n6_ := Aside0.mk (blk_below (g := gb364) (o := .cells #[.slice Ao32 t350.length co32, .slice Ao36 t353.length co36, .int .u8 t356, .bool t357, .int .i64 t358, .int .i64 t359, .int .i64 t360, .slice Ao37 t361.length co37] 25 (0, 0)) (au23) hb)
        have n7_ := Aside0.mk (below_step (au4) hb)
        clear HO352
        clear HO355
        clear HO363
        clear HO367
        clear BK346
        clear BK347
        clear BK364
        clear HB
        have HO352 := n0_
        have HO355 := n1_
        have HO363 := n2_
        have HO367 := n3_
        have BK346 := n4_
        have BK347 := n5_
        have BK364 := n6_
        have HB := n7_
        clear n0_ n1_ n2_ n3_ n4_ n5_ n6_ n7_
        (try clear hb)
        (try clear hb2)
        (try clear hk)
        (try clear hi)
        refine hK.out _ _ ⟨(blk_cell BK364.out 0).trans rfl, (blk_cell BK364.out 1).trans rfl, (blk_cell BK364.out 2).trans rfl, (blk_cell BK364.out 3).trans rfl, (blk_cell BK364.out 4).trans rfl, (blk_cell BK364.out 5).trans rfl, (blk_cell BK364.out 6).trans rfl, (blk_cell BK364.out 7).trans rfl, (blk_cell BK346.out 0).trans rfl, (blk_cell BK346.out 1).trans rfl, (blk_cell BK346.out 2).trans rfl, (blk_cell BK346.out 3).trans rfl, (blk_cell BK346.out 4).trans rfl, (blk_cell BK346.out 5).trans rfl, (blk_cell BK346.out 6).trans rfl, (blk_cell BK346.out 7).trans rfl, (blk_cell BK347.out 0).trans rfl, (blk_cell BK347.out 1).trans rfl, (blk_cell BK347.out 2).trans rfl, (blk_cell BK347.out 3).trans rfl, (blk_cell BK347.out 4).trans rfl, (blk_cell BK347.out 5).trans rfl, (blk_cell BK347.out 6).trans rfl, (blk_cell BK347.out 7).trans rfl⟩ (fun hHeld => ?_)
        clear hK K
        refine norm_ (a' := ?_) ?_ ?_
        rotate_left
        ·
         show Act.put _ (some 57) _ = _
         simp only [Act.put, List.setIfInBounds_toArray, List.set_cons_zero, List.set_cons_succ, i64_w, i32_w]
         rfl
        refine pure_ (i := 19) (N := some 58) (v := ?_) (a' := ?_) #[true, true, true, true, true, true, true, true, true, true, true, true, true, true, true, true, true, true, true, true, false, false, false, false, false, false, false, false, false, false] rfl rfl (any_of HT_.out (by kernel_rfl)) (fun _ _ _ h => h) (Or.inl ⟨by rfl, ?_⟩) ?_ ?_
        rotate_left
        ·
         intro w'
         go_simp
         with_reducible rfl
        rotate_left
        ·
         simp only [Act.put, List.setIfInBounds_toArray, List.set_cons_zero, List.set_cons_succ, i64_w, i32_w]
         rfl
        refine pure_ (i := 20) (N := some 59) (v := ?_) (a' := ?_) #[true, true, true, true, true, true, true, true, true, true, true, true, true, true, true, true, true, true, true, true, true, false, false, false, false, false, false, false, false, false] rfl rfl (any_of HT_.out (by kernel_rfl)) (fun _ _ _ h => h) (Or.inl ⟨by rfl, ?_⟩) ?_ ?_
        rotate_left
        ·
         intro w'
         go_simp
         with_reducible rfl
        rotate_left
        ·
         simp only [Act.put, List.setIfInBounds_toArray, List.set_cons_zero, List.set_cons_succ, i64_w, i32_w]
         rfl
        refine pure_ (i := 21) (N := some 60) (v := ?_) (a' := ?_) #[true, true, true, true, true, true, true, true, true, true, true, true, true, true, true, true, true, true, true, true, true, true, false, false, false, false, false, false, false, false] rfl rfl (any_of HT_.out (by kernel_rfl)) (fun _ _ _ h => h) (Or.inl ⟨by rfl, ?_⟩) ?_ ?_
        rotate_left
        ·
         intro w'
         go_simp
         with_reducible rfl
        rotate_left
        ·
         simp only [Act.put, List.setIfInBounds_toArray, List.set_cons_zero, List.set_cons_succ, i64_w, i32_w]
         rfl
        refine take_ (i := 22) (N := some 61) (v := ?_) (a' := ?_) #[true, true, true, true, true, true, true, true, true, true, true, true, true, true, true, true, true, true, true, true, true, true, true, false, false, false, false, false, false, false] rfl rfl (take_ofW HT_.out HW_.out (by kernel_rfl)) (fun _ _ _ h => h) (Or.inl ⟨by rfl, ?_⟩) hHeld ?_ ?_
        rotate_left
        ·
         rintro w' ⟨s0, s1, s2, s3, s4, s5, s6, s7, s8, s9, s10, s11, s12, s13, s14, s15, s16, s17, s18, s19, s20, s21, s22, s23⟩
         go_simp
         with_reducible rfl
        rotate_left
        ·
         simp only [Act.put, List.setIfInBounds_toArray, List.set_cons_zero, List.set_cons_succ, i64_w, i32_w]
         rfl
        refine take_ (i := 23) (N := some 62) (v := ?_) (a' := ?_) #[true, true, true, true, true, true, true, true, true, true, true, true, true, true, true, true, true, true, true, true, true, true, true, true, false, false, false, false, false, false] rfl rfl (take_ofW HT_.out HW_.out (by kernel_rfl)) (fun _ _ _ h => h) (Or.inl ⟨by rfl, ?_⟩) hHeld ?_ ?_
        rotate_left
        ·
         rintro w' ⟨s0, s1, s2, s3, s4, s5, s6, s7, s8, s9, s10, s11, s12, s13, s14, s15, s16, s17, s18, s19, s20, s21, s22, s23⟩
         go_simp
         with_reducible rfl
        rotate_left
        ·
         simp only [Act.put, List.setIfInBounds_toArray, List.set_cons_zero, List.set_cons_succ, i64_w, i32_w]
         rfl
        refine take_ (i := 25) (N := some 64) (v := ?_) (a' := ?_) #[true, true, true, true, true, true, true, true, true, true, true, true, true, true, true, true, true, true, true, true, true, true, true, true, false, true, false, false, false, false] rfl rfl (take_ofW HT_.out HW_.out (by kernel_rfl)) (fun _ _ _ h => h) (Or.inl ⟨by rfl, ?_⟩) hHeld ?_ ?_
        rotate_left
        ·
         rintro w' ⟨s0, s1, s2, s3, s4, s5, s6, s7, s8, s9, s10, s11, s12, s13, s14, s15, s16, s17, s18, s19, s20, s21, s22, s23⟩
         go_simp
         with_reducible rfl
        rotate_left
        ·
         simp only [Act.put, List.setIfInBounds_toArray, List.set_cons_zero, List.set_cons_succ, i64_w, i32_w]
         rfl
        refine take_ (i := 26) (N := some 65) (v := ?_) (a' := ?_) #[true, true, true, true, true, true, true, true, true, true, true, true, true, true, true, true, true, true, true, true, true, true, true, true, false, true, true, false, false, false] rfl rfl (take_ofW HT_.out HW_.out (by kernel_rfl)) (fun _ _ _ h => h) (Or.inl ⟨by rfl, ?_⟩) hHeld ?_ ?_
        rotate_left
        ·
         rintro w' ⟨s0, s1, s2, s3, s4, s5, s6, s7, s8, s9, s10, s11, s12, s13, s14, s15, s16, s17, s18, s19, s20, s21, s22, s23⟩
         go_simp
         with_reducible rfl
        rotate_left
        ·
         simp only [Act.put, List.setIfInBounds_toArray, List.set_cons_zero, List.set_cons_succ, i64_w, i32_w]
         rfl
        refine one_ (i := 24) (N := some 63) #[true, true, true, true, true, true, true, true, true, true, true, true, true, true, true, true, true, true, true, true, true, true, true, true, true, true, true, false, false, false] rfl rfl (one_of HT_.out (by kernel_rfl)) (by decide) (fun K hK => ?_)
        refine goes_ Try.func31 (by kernel_rfl) rfl #[.agg #[.slice Ao32 t350.length co32, .slice Ao36 t353.length co36, .int .u8 t356, .bool t357, .int .i64 t358, .int .i64 t359, .int .i64 t360, .slice Ao37 t361.length co37], .agg #[.slice A1_0 l1_0.length c1_0, .slice A1_1 l1_1.length c1_1, .int .u8 a1_2, .bool a1_3, .int .i64 a1_4, .int .i64 a1_5, .int .i64 a1_6, .slice A1_7 l1_7.length c1_7]] (by rfl) rfl rfl (au3) ?_
        with_reducible refine (method_Same.calls kj3 _ _ t350 _ _ t353 t356 t357 t358 t359 t360 _ _ t361 _ _ l1_0 _ _ l1_1 a1_2 a1_3 a1_4 a1_5 a1_6 _ _ l1_7 t375 _ ?side1 ?side2 ?side3 ?side4 ?side5 ?side6 ?side7 ?side8 ?side9 ?side10 ?side11 ?side12 A49.out).mono ?_
        (case side1 => exact au90)
        (case side2 => exact (Kd.R_reads' HO352.out).2.1)
        (case side3 => exact au91)
        (case side4 => exact (Kd.R_reads' HO355.out).2.1)
        (case side5 => exact au92)
        (case side6 => exact (Kd.V_reads' HO363.out).2.1)
        (case side7 => exact au29)
        (case side8 => exact HC1_0.out)
        (case side9 => exact au76)
        (case side10 => exact HC1_1.out)
        (case side11 => exact au77)
        (case side12 => exact HC1_7.out)
        rintro e w61 ⟨rfl, hb⟩
        refine ⟨_, rfl, ?_⟩
        have n0_ := Aside0.mk (Kd.R_below (au59) hb)
        have n1_ := Aside0.mk (Kd.R_below (au60) hb)
        have n2_ := Aside0.mk (Kd.V_below (au66) hb)
        have n3_ := Aside0.mk (Kd.R_below (au75) hb)
        have n4_ := Aside0.mk (blk_below (g := gb346) (o := .cells #[.slice A0_0 l0_0.length c0_0, .slice A0_1 l0_1.length c0_1, .int .u8 a0_2, .bool a0_3, .int .i64 a0_4, .int .i64 a0_5, .int .i64 a0_6, .slice A0_7 l0_7.length c0_7] 25 (0, 0)) (au9) hb)
        have n5_ := Aside0.mk (blk_below (g := gb347) (o := .cells #[.slice A1_0 l1_0.length c1_0, .slice A1_1 l1_1.length c1_1, .int .u8 a1_2, .bool a1_3, .int .i64 a1_4, .int .i64 a1_5, .int .i64 a1_6, .slice A1_7 l1_7.length c1_7] 25 (0, 0)) (au12) hb)
        have n6_ := Aside0.mk (blk_below (g := gb364) (o := .cells #[.slice Ao32 t350.length co32, .slice Ao36 t353.length co36, .int .u8 t356, .bool t357, .int .i64 t358, .int .i64 t359, .int .i64 t360, .slice Ao37 t361.length co37] 25 (0, 0)) (au23) hb)
        have n7_ := Aside0.mk (below_step (au4) hb)
        clear HO352
        clear HO355
        clear HO363
        clear HO367
        clear BK346
        clear BK347
        clear BK364
        clear HB
        have HO352 := n0_
        have HO355 := n1_
        have HO363 := n2_
        have HO367 := n3_
        have BK346 := n4_
        have BK347 := n5_
        have BK364 := n6_
        have HB := n7_
        clear n0_ n1_ n2_ n3_ n4_ n5_ n6_ n7_
        (try clear hb)
        (try clear hb2)
        (try clear hk)
        (try clear hi)
        refine hK.out _ _ ⟨(blk_cell BK364.out 0).trans rfl, (blk_cell BK364.out 1).trans rfl, (blk_cell BK364.out 2).trans rfl, (blk_cell BK364.out 3).trans rfl, (blk_cell BK364.out 4).trans rfl, (blk_cell BK364.out 5).trans rfl, (blk_cell BK364.out 6).trans rfl, (blk_cell BK364.out 7).trans rfl, (blk_cell BK346.out 0).trans rfl, (blk_cell BK346.out 1).trans rfl, (blk_cell BK346.out 2).trans rfl, (blk_cell BK346.out 3).trans rfl, (blk_cell BK346.out 4).trans rfl, (blk_cell BK346.out 5).trans rfl, (blk_cell BK346.out 6).trans rfl, (blk_cell BK346.out 7).trans rfl, (blk_cell BK347.out 0).trans rfl, (blk_cell BK347.out 1).trans rfl, (blk_cell BK347.out 2).trans rfl, (blk_cell BK347.out 3).trans rfl, (blk_cell BK347.out 4).trans rfl, (blk_cell BK347.out 5).trans rfl, (blk_cell BK347.out 6).trans rfl, (blk_cell BK347.out 7).trans rfl⟩ (fun hHeld => ?_)
        clear hK K
        refine norm_ (a' := ?_) ?_ ?_
        rotate_left
        ·
         show Act.put _ (some 63) _ = _
         simp only [Act.put, List.setIfInBounds_toArray, List.set_cons_zero, List.set_cons_succ, i64_w, i32_w]
         rfl
        refine one_ (i := 27) (N := some 66) #[true, true, true, true, true, true, true, true, true, true, true, true, true, true, true, true, true, true, true, true, true, true, true, true, true, true, true, true, false, false] rfl rfl (one_of HT_.out (by kernel_rfl)) (by decide) (fun K hK => ?_)
        refine goes_ Try.func11 (by kernel_rfl) rfl #[.agg #[.slice A0_0 l0_0.length c0_0, .slice A0_1 l0_1.length c0_1, .int .u8 a0_2, .bool a0_3, .int .i64 a0_4, .int .i64 a0_5, .int .i64 a0_6, .slice A0_7 l0_7.length c0_7], .agg #[.slice A1_0 l1_0.length c1_0, .slice A1_1 l1_1.length c1_1, .int .u8 a1_2, .bool a1_3, .int .i64 a1_4, .int .i64 a1_5, .int .i64 a1_6, .slice A1_7 l1_7.length c1_7]] (by rfl) rfl rfl (au3) ?_
        with_reducible refine (capstanref07_Same.calls kj3 _ _ l0_0 _ _ l0_1 a0_2 a0_3 a0_4 a0_5 a0_6 _ _ l0_7 _ _ l1_0 _ _ l1_1 a1_2 a1_3 a1_4 a1_5 a1_6 _ _ l1_7 t376 _ ?side1 ?side2 ?side3 ?side4 ?side5 ?side6 ?side7 ?side8 ?side9 ?side10 ?side11 ?side12 A50.out).mono ?_
        (case side1 => exact au6)
        (case side2 => exact HC0_0.out)
        (case side3 => exact au15)
        (case side4 => exact HC0_1.out)
        (case side5 => exact au16)
        (case side6 => exact HC0_7.out)
        (case side7 => exact au29)
        (case side8 => exact HC1_0.out)
        (case side9 => exact au76)
        (case side10 => exact HC1_1.out)
        (case side11 => exact au77)
        (case side12 => exact HC1_7.out)
        rintro e w62 ⟨rfl, hb⟩
        refine ⟨_, rfl, ?_⟩
        have n0_ := Aside0.mk (Kd.R_below (au59) hb)
        have n1_ := Aside0.mk (Kd.R_below (au60) hb)
        have n2_ := Aside0.mk (Kd.V_below (au66) hb)
        have n3_ := Aside0.mk (Kd.R_below (au75) hb)
        have n4_ := Aside0.mk (blk_below (g := gb346) (o := .cells #[.slice A0_0 l0_0.length c0_0, .slice A0_1 l0_1.length c0_1, .int .u8 a0_2, .bool a0_3, .int .i64 a0_4, .int .i64 a0_5, .int .i64 a0_6, .slice A0_7 l0_7.length c0_7] 25 (0, 0)) (au9) hb)
        have n5_ := Aside0.mk (blk_below (g := gb347) (o := .cells #[.slice A1_0 l1_0.length c1_0, .slice A1_1 l1_1.length c1_1, .int .u8 a1_2, .bool a1_3, .int .i64 a1_4, .int .i64 a1_5, .int .i64 a1_6, .slice A1_7 l1_7.length c1_7] 25 (0, 0)) (au12) hb)
        have n6_ := Aside0.mk (blk_below (g := gb364) (o := .cells #[.slice Ao32 t350.length co32, .slice Ao36 t353.length co36, .int .u8 t356, .bool t357, .int .i64 t358, .int .i64 t359, .int .i64 t360, .slice Ao37 t361.length co37] 25 (0, 0)) (au23) hb)
        have n7_ := Aside0.mk (below_step (au4) hb)
        clear HO352
        clear HO355
        clear HO363
        clear HO367
        clear BK346
        clear BK347
        clear BK364
        clear HB
        have HO352 := n0_
        have HO355 := n1_
        have HO363 := n2_
        have HO367 := n3_
        have BK346 := n4_
        have BK347 := n5_
        have BK364 := n6_
        have HB := n7_
        clear n0_ n1_ n2_ n3_ n4_ n5_ n6_ n7_
        (try clear hb)
        (try clear hb2)
        (try clear hk)
        (try clear hi)
        refine hK.out _ _ ⟨(blk_cell BK364.out 0).trans rfl, (blk_cell BK364.out 1).trans rfl, (blk_cell BK364.out 2).trans rfl, (blk_cell BK364.out 3).trans rfl, (blk_cell BK364.out 4).trans rfl, (blk_cell BK364.out 5).trans rfl, (blk_cell BK364.out 6).trans rfl, (blk_cell BK364.out 7).trans rfl, (blk_cell BK346.out 0).trans rfl, (blk_cell BK346.out 1).trans rfl, (blk_cell BK346.out 2).trans rfl, (blk_cell BK346.out 3).trans rfl, (blk_cell BK346.out 4).trans rfl, (blk_cell BK346.out 5).trans rfl, (blk_cell BK346.out 6).trans rfl, (blk_cell BK346.out 7).trans rfl, (blk_cell BK347.out 0).trans rfl, (blk_cell BK347.out 1).trans rfl, (blk_cell BK347.out 2).trans rfl, (blk_cell BK347.out 3).trans rfl, (blk_cell BK347.out 4).trans rfl, (blk_cell BK347.out 5).trans rfl, (blk_cell BK347.out 6).trans rfl, (blk_cell BK347.out 7).trans rfl⟩ (fun hHeld => ?_)
        clear hK K
        refine norm_ (a' := ?_) ?_ ?_
        rotate_left
        ·
         show Act.put _ (some 66) _ = _
         simp only [Act.put, List.setIfInBounds_toArray, List.set_cons_zero, List.set_cons_succ, i64_w, i32_w]
         rfl
        refine pure_ (i := 28) (N := some 67) (v := ?_) (a' := ?_) #[true, true, true, true, true, true, true, true, true, true, true, true, true, true, true, true, true, true, true, true, true, true, true, true, true, true, true, true, true, false] rfl rfl (any_of HT_.out (by kernel_rfl)) (fun _ _ _ h => h) (Or.inl ⟨by rfl, ?_⟩) ?_ ?_
        rotate_left
        ·
         intro w'
         go_simp
         with_reducible rfl
        rotate_left
        ·
         simp only [Act.put, List.setIfInBounds_toArray, List.set_cons_zero, List.set_cons_succ, i64_w, i32_w]
         rfl
        refine pure_ (i := 29) (N := some 68) (v := ?_) (a' := ?_) #[true, true, true, true, true, true, true, true, true, true, true, true, true, true, true, true, true, true, true, true, true, true, true, true, true, true, true, true, true, true] rfl rfl (any_of HT_.out (by kernel_rfl)) (fun _ _ _ h => h) (Or.inl ⟨by rfl, ?_⟩) ?_ ?_
        rotate_left
        ·
         intro w'
         go_simp
         with_reducible rfl
        rotate_left
        ·
         simp only [Act.put, List.setIfInBounds_toArray, List.set_cons_zero, List.set_cons_succ, i64_w, i32_w]
         rfl
        refine done_ (done_of HT_.out (by kernel_rfl)) ?_
        try go_wp2
        go_meet
        case rel => exact ⟨_, ((t375 != t376)), (au19), H', ⟨by have := HJ3.out; first | omega | exact Nat.le_refl _⟩, ⟨by (with_reducible repeat (first | apply Kd.R_alloc | apply Kd.R_drewN | apply Kd.R_drew)); exact Kd.R_mono HO367.out (fun _ hk => ⟨hk.1.2, hk.2⟩)⟩, ⟨by (with_reducible repeat (first | apply Kd.R_alloc | apply Kd.R_drewN | apply Kd.R_drew)); exact Kd.R_mono HO352.out (fun _ hk => ⟨hk.2, hk.1⟩)⟩, ⟨by (with_reducible repeat (first | apply Kd.R_alloc | apply Kd.R_drewN | apply Kd.R_drew)); exact Kd.R_mono HO355.out (fun _ hk => ⟨hk.2, hk.1⟩)⟩, ⟨by (with_reducible repeat (first | apply Kd.V_alloc | apply Kd.V_drewN | apply Kd.V_drew)); exact Kd.V_mono HO363.out (fun _ hk => ⟨hk.2, ⟨hk.1.1.1, ⟨hk.1.1.2.1, ⟨hk.1.1.2.2.1, ⟨hk.1.1.2.2.2, hk.1.2⟩⟩⟩⟩⟩)⟩, ⟨au9⟩, ⟨au12⟩, ⟨au23⟩, ⟨au4⟩⟩
    case rest =>
     clear HC27
     try clear c1
     try clear c2
     try clear p2
     try clear c3
     try clear c11
     try clear c25
     try clear c26
     try clear c27
     try clear c28
     try clear c29
     try clear c30
     try clear c31
     obtain ⟨kq, x68_26, rfl, HA, HJ26, HO_8, HO_365000, HO_365001, HO_365007, BK346, BK347, BK364, HB⟩ := hcut
     cases kq with
     | zero => exact absurd HA.out (by simp [capstanlaw07_MethodTells.j1])
     | succ kj26 =>
      have H := HA.out
      clear HA
      simp only [capstanlaw07_MethodTells.j1] at H
      by_cases c63 : x68_26 = true
      ·
       subst c63
       have H1 : (none) = some r := by rw [if_pos rfl] at H; exact H
       clear H
       have H := H1
       clear H1
       exact absurd H (by simp)
      ·
       replace c63 := Bool.eq_false_iff.mpr c63
       subst c63
       have H1 : (capstanlaw07_MethodTells.l0 kj26 t365 t368 0 l0_0 l0_1 a0_2 a0_3 a0_4 a0_5 a0_6 l0_7 t350 t353 t356 t357 t358 t359 t360 t361) = some r := by rw [if_neg (show ¬ (false = true) by decide)] at H; exact H
       clear H
       have H := H1
       clear H1
       have H' := Aside0.mk H
       clear H
       go_wp2
       go_loopg [10] kj26 (fun kq v10 w' => ∃ (x8_3 : List Int) (x10_3 : Int) (x365000_3 : List Int) (x365001_3 : List Int) (u365000 : Value) (u365001 : Value), v10 = .int .i64 x10_3 ∧ Aside0 (capstanlaw07_MethodTells.l0 kq x8_3 t368 x10_3 l0_0 l0_1 a0_2 a0_3 a0_4 a0_5 a0_6 l0_7 x365000_3 x365001_3 t356 t357 t358 t359 t360 t361 = some r) ∧ Aside0 (kq ≤ kj26) ∧ Aside0 (Kd.R (Kd.int .u8) 5 w' w.heap.size (fun k_ => some k_ ≠ (u365000 : Value).ownBlock ∧ some k_ ≠ (u365001 : Value).ownBlock) v366 x8_3) ∧ Aside0 (Kd.R (Kd.int .u8) 5 w' w.heap.size (fun k_ => some k_ ≠ (v366 : Value).ownBlock ∧ some k_ ≠ (u365001 : Value).ownBlock) u365000 x365000_3) ∧ Aside0 (Kd.R (Kd.int .u8) 5 w' w.heap.size (fun k_ => some k_ ≠ (v366 : Value).ownBlock ∧ some k_ ≠ (u365000 : Value).ownBlock) u365001 x365001_3) ∧ Aside0 (Kd.V k130 130 w' w.heap.size (fun k_ => some k_ ≠ (v366 : Value).ownBlock ∧ some k_ ≠ (u365000 : Value).ownBlock ∧ some k_ ≠ (u365001 : Value).ownBlock ∧ k_ ≠ gb346 ∧ k_ ≠ gb347 ∧ k_ ≠ gb364) (.slice Ao37 t361.length co37) t361) ∧ Aside0 (w'.heap[gb346]? = some (.cells #[(.slice A0_0 l0_0.length c0_0), (.slice A0_1 l0_1.length c0_1), .int .u8 a0_2, .bool a0_3, .int .i64 a0_4, .int .i64 a0_5, .int .i64 a0_6, (.slice A0_7 l0_7.length c0_7)] 25 (0, 0))) ∧ Aside0 (w'.heap[gb347]? = some (.cells #[(.slice A1_0 l1_0.length c1_0), (.slice A1_1 l1_1.length c1_1), .int .u8 a1_2, .bool a1_3, .int .i64 a1_4, .int .i64 a1_5, .int .i64 a1_6, (.slice A1_7 l1_7.length c1_7)] 25 (0, 0))) ∧ Aside0 (w'.heap[gb364]? = some (.cells #[u365000, u365001, .int .u8 t356, .bool t357, .int .i64 t358, .int .i64 t359, .int .i64 t360, (.slice Ao37 t361.length co37)] 25 (0, 0))) ∧ Aside0 (Below w.heap.size w w'))
       case atStart => exact ⟨(t365), (0), (t350), (t353), (.slice Ao32 t350.length co32), (.slice Ao36 t353.length co36), (au19), H', ⟨Nat.le_refl _⟩, ⟨au49⟩, ⟨au46⟩, ⟨au47⟩, ⟨au72⟩, ⟨au9⟩, ⟨au12⟩, ⟨au23⟩, ⟨au4⟩⟩
       case round =>
        clear H'
        try clear c1
        try clear c2
        try clear p2
        try clear c3
        try clear c6
        try clear c11
        try clear c25
        try clear c26
        try clear c27
        try clear c28
        try clear c29
        try clear c30
        try clear c31
        try clear c63
        try clear p2
        obtain ⟨x8_3, x10_3, x365000_3, x365001_3, u365000, u365001, rfl, HA, HK3, HO_8, HO_365000, HO_365001, HO_365007, BK346, BK347, BK364, HB⟩ := hrel
        cases gk with
        | zero => exact absurd HA.out (by simp [capstanlaw07_MethodTells.l0])
        | succ k3 =>
         have H := HA.out
         clear HA
         simp only [capstanlaw07_MethodTells.l0] at H
         by_cases c64 : x10_3 < 2
         ·
          rw [if_pos c64] at H
          have c64b0 : decide (x10_3 < 2) = true := decide_eq_true c64
          clear c64
          replace H := Option.bind_eq_some_iff.mp H
          obtain ⟨⟨t377, t380⟩, A650, H⟩ := H
          replace H : ((method_Kinds.f k3 x365000_3 x365001_3 t356 t357 t358 t359 t360 t361).bind fun t381 => ((method_Zeros.f k3 x365000_3 x365001_3 t356 t357 t358 t359 t360 t361).bind fun bt384 => ((capstanref07_Zeros.f k3 l0_0 l0_1 a0_2 a0_3 a0_4 a0_5 a0_6 l0_7).bind fun bt388 => (if (strOfNums t377).toList = (strOfNums x8_3).toList then (if t380 = t368 then ((capstanref07_Kinds.f l0_0 l0_1 a0_2 a0_3 a0_4 a0_5 a0_6 l0_7).bind fun t392 => ((capstanref07_SameKinds.f k3 t381 t392).bind fun t395 => (if t395 = true then ((capstanref03_Same.f k3 bt384.1 bt388.1).bind fun t396 => (if t396 = true then (if (bt384.2 != bt388.2) = true then (none) else ((capstanref07_Same.f k3 x365000_3 x365001_3 t356 t357 t358 t359 t360 t361 l0_0 l0_1 a0_2 a0_3 a0_4 a0_5 a0_6 l0_7).bind fun t397 => (capstanlaw07_MethodTells.j3 k3 x8_3 t368 x10_3 t377 t381 bt384.1 (!t397) l0_0 l0_1 a0_2 a0_3 a0_4 a0_5 a0_6 l0_7 x365000_3 x365001_3 t356 t357 t358 t359 t360 t361))) else (none))) else (none)))) else (none)) else (none))))) = some r := H
          have A65 := Aside0.mk A650
          clear A650
          replace H := Option.bind_eq_some_iff.mp H
          obtain ⟨t381, A660, H⟩ := H
          replace H : ((method_Zeros.f k3 x365000_3 x365001_3 t356 t357 t358 t359 t360 t361).bind fun bt384 => ((capstanref07_Zeros.f k3 l0_0 l0_1 a0_2 a0_3 a0_4 a0_5 a0_6 l0_7).bind fun bt388 => (if (strOfNums t377).toList = (strOfNums x8_3).toList then (if t380 = t368 then ((capstanref07_Kinds.f l0_0 l0_1 a0_2 a0_3 a0_4 a0_5 a0_6 l0_7).bind fun t392 => ((capstanref07_SameKinds.f k3 t381 t392).bind fun t395 => (if t395 = true then ((capstanref03_Same.f k3 bt384.1 bt388.1).bind fun t396 => (if t396 = true then (if (bt384.2 != bt388.2) = true then (none) else ((capstanref07_Same.f k3 x365000_3 x365001_3 t356 t357 t358 t359 t360 t361 l0_0 l0_1 a0_2 a0_3 a0_4 a0_5 a0_6 l0_7).bind fun t397 => (capstanlaw07_MethodTells.j3 k3 x8_3 t368 x10_3 t377 t381 bt384.1 (!t397) l0_0 l0_1 a0_2 a0_3 a0_4 a0_5 a0_6 l0_7 x365000_3 x365001_3 t356 t357 t358 t359 t360 t361))) else (none))) else (none)))) else (none)) else (none)))) = some r := H
          have A66 := Aside0.mk A660
          clear A660
          replace H := Option.bind_eq_some_iff.mp H
          obtain ⟨⟨t384, t387⟩, A670, H⟩ := H
          replace H : ((capstanref07_Zeros.f k3 l0_0 l0_1 a0_2 a0_3 a0_4 a0_5 a0_6 l0_7).bind fun bt388 => (if (strOfNums t377).toList = (strOfNums x8_3).toList then (if t380 = t368 then ((capstanref07_Kinds.f l0_0 l0_1 a0_2 a0_3 a0_4 a0_5 a0_6 l0_7).bind fun t392 => ((capstanref07_SameKinds.f k3 t381 t392).bind fun t395 => (if t395 = true then ((capstanref03_Same.f k3 t384 bt388.1).bind fun t396 => (if t396 = true then (if (t387 != bt388.2) = true then (none) else ((capstanref07_Same.f k3 x365000_3 x365001_3 t356 t357 t358 t359 t360 t361 l0_0 l0_1 a0_2 a0_3 a0_4 a0_5 a0_6 l0_7).bind fun t397 => (capstanlaw07_MethodTells.j3 k3 x8_3 t368 x10_3 t377 t381 t384 (!t397) l0_0 l0_1 a0_2 a0_3 a0_4 a0_5 a0_6 l0_7 x365000_3 x365001_3 t356 t357 t358 t359 t360 t361))) else (none))) else (none)))) else (none)) else (none))) = some r := H
          have A67 := Aside0.mk A670
          clear A670
          replace H := Option.bind_eq_some_iff.mp H
          obtain ⟨⟨t388, t391⟩, A680, H⟩ := H
          replace H : (if (strOfNums t377).toList = (strOfNums x8_3).toList then (if t380 = t368 then ((capstanref07_Kinds.f l0_0 l0_1 a0_2 a0_3 a0_4 a0_5 a0_6 l0_7).bind fun t392 => ((capstanref07_SameKinds.f k3 t381 t392).bind fun t395 => (if t395 = true then ((capstanref03_Same.f k3 t384 t388).bind fun t396 => (if t396 = true then (if (t387 != t391) = true then (none) else ((capstanref07_Same.f k3 x365000_3 x365001_3 t356 t357 t358 t359 t360 t361 l0_0 l0_1 a0_2 a0_3 a0_4 a0_5 a0_6 l0_7).bind fun t397 => (capstanlaw07_MethodTells.j3 k3 x8_3 t368 x10_3 t377 t381 t384 (!t397) l0_0 l0_1 a0_2 a0_3 a0_4 a0_5 a0_6 l0_7 x365000_3 x365001_3 t356 t357 t358 t359 t360 t361))) else (none))) else (none)))) else (none)) else (none)) = some r := H
          have A68 := Aside0.mk A680
          clear A680
          have HC69 := Aside0.mk H
          clear H
          have hnb70 := NB364_346.out
          have hnc70 := NB346_364.out
          have hnb71 := NB364_347.out
          have hnc71 := NB347_364.out
          obtain ⟨hcz72_0, hcz72_1, hcz72_2, hcz72_3, hcz72_4, hcz72_5, hcz72_6, hcz72_7, hfz72_0, hfz72_1, hfz72_2, hfz72_3, hfz72_4, hfz72_5, hfz72_6, hfz72_7⟩ := blk_all8 BK364.out
          obtain ⟨Ao73, co73, eo73⟩ := Kd.R_slice HO_365000.out
          subst eo73
          obtain ⟨Ao74, co74, eo74⟩ := Kd.R_slice HO_365001.out
          subst eo74
          go_upto_region 14 with (first | ((with_reducible refine gate_callee (f := 32) rfl ?_); refine goesL_ (some 75) rfl rfl Try.func32 (by kernel_rfl) rfl #[.agg #[.slice Ao73 x365000_3.length co73, .slice Ao74 x365001_3.length co74, .int .u8 t356, .bool t357, .int .i64 t358, .int .i64 t359, .int .i64 t360, .slice Ao37 t361.length co37]] rfl (au3) ?_; (with_reducible refine (method_Bytes.calls k3 _ _ x365000_3 _ _ x365001_3 t356 t357 t358 t359 t360 _ _ t361 t377 t380 _ ?side1 ?side2 ?side3 ?side4 ?side5 ?side6 A65.out).mono ?_); (case side1 => exact au111); (case side2 => exact (Kd.R_reads' HO_365000.out).2.1); (case side3 => exact au112); (case side4 => exact (Kd.R_reads' HO_365001.out).2.1); (case side5 => exact au89); (case side6 => exact (Kd.V_reads' HO_365007.out).2.1); rintro e w75 ⟨v378, rfl, ho0, hb⟩; refine ⟨_, rfl, ?_⟩; have n0_ := Aside0.mk (Kd.R_elder' (au49) (Kd.R_base ho0) hb); have n1_ := Aside0.mk (Kd.R_elder' (au46) (Kd.R_base ho0) hb); have n2_ := Aside0.mk (Kd.R_elder' (au47) (Kd.R_base ho0) hb); have n3_ := Aside0.mk (Kd.V_elder' (au72) (Kd.R_base ho0) hb); have n4_ := Aside0.mk (Kd.R_lower (Kd.R_new' (Kd.R_new' (Kd.R_new' ho0 (Kd.R_lt (au49))) (Kd.R_lt (au46))) (Kd.R_lt (au47))) (below_size (au4))); have n5_ := Aside0.mk (blk_below (g := gb346) (o := .cells #[.slice A0_0 l0_0.length c0_0, .slice A0_1 l0_1.length c0_1, .int .u8 a0_2, .bool a0_3, .int .i64 a0_4, .int .i64 a0_5, .int .i64 a0_6, .slice A0_7 l0_7.length c0_7] 25 (0, 0)) (au9) hb); have n6_ := Aside0.mk (blk_below (g := gb347) (o := .cells #[.slice A1_0 l1_0.length c1_0, .slice A1_1 l1_1.length c1_1, .int .u8 a1_2, .bool a1_3, .int .i64 a1_4, .int .i64 a1_5, .int .i64 a1_6, .slice A1_7 l1_7.length c1_7] 25 (0, 0)) (au12) hb); have n7_ := Aside0.mk (blk_below (g := gb364) (o := .cells #[.slice Ao73 x365000_3.length co73, .slice Ao74 x365001_3.length co74, .int .u8 t356, .bool t357, .int .i64 t358, .int .i64 t359, .int .i64 t360, .slice Ao37 t361.length co37] 25 (0, 0)) (au23) hb); have n8_ := Aside0.mk (below_step (au4) hb); clear HO_8; clear HO_365000; clear HO_365001; clear HO_365007; clear BK346; clear BK347; clear BK364; clear HB; have HO_8 := n0_; have HO_365000 := n1_; have HO_365001 := n2_; have HO_365007 := n3_; have HO379 := n4_; have BK346 := n5_; have BK347 := n6_; have BK364 := n7_; have HB := n8_; clear n0_ n1_ n2_ n3_ n4_ n5_ n6_ n7_ n8_; (try clear hb); (try clear hb2); (try clear hk); (try clear hi); (try clear ho0); obtain ⟨hcz76_0, hcz76_1, hcz76_2, hcz76_3, hcz76_4, hcz76_5, hcz76_6, hcz76_7, hfz76_0, hfz76_1, hfz76_2, hfz76_3, hfz76_4, hfz76_5, hfz76_6, hfz76_7⟩ := blk_all8 BK364.out) | ((with_reducible refine gate_callee (f := 33) rfl ?_); refine goesL_ (some 79) rfl rfl Try.func33 (by kernel_rfl) rfl #[.agg #[.slice Ao73 x365000_3.length co73, .slice Ao74 x365001_3.length co74, .int .u8 t356, .bool t357, .int .i64 t358, .int .i64 t359, .int .i64 t360, .slice Ao37 t361.length co37]] rfl (au3) ?_; (with_reducible refine (method_Kinds.calls k3 (fun k_ => some k_ = (.slice Ao73 x365000_3.length co73 : Value).ownBlock) _ _ x365000_3 (fun k_ => some k_ = (.slice Ao74 x365001_3.length co74 : Value).ownBlock) _ _ x365001_3 t356 t357 t358 t359 t360 _ _ t361 t381 _ ?side1 ?side2 ?side3 ?side4 A66.out).mono ?_); (case side1 => exact Kd.R_V (Kd.R_tight rfl (Kd.R_types (Kd.R_types (Kd.R_types (HO_365000.out) BK346.out (by decide)) BK347.out (by decide)) BK364.out (by decide)))); (case side2 => exact Kd.R_V (Kd.R_tight rfl (Kd.R_types (Kd.R_types (Kd.R_types (HO_365001.out) BK346.out (by decide)) BK347.out (by decide)) BK364.out (by decide)))); (case side3 => exact au89); (case side4 => exact (Kd.V_reads' HO_365007.out).2.1); rintro e w77 ⟨v382, rfl, ho0, hb⟩; refine ⟨_, rfl, ?_⟩; have n0_ := Aside0.mk (Kd.R_elder' (au49) (Kd.R_base ho0) hb); have n1_ := Aside0.mk (Kd.R_elder' (au46) (Kd.R_base ho0) hb); have n2_ := Aside0.mk (Kd.R_elder' (au47) (Kd.R_base ho0) hb); have n3_ := Aside0.mk (Kd.V_elder' (au72) (Kd.R_base ho0) hb); have n4_ := Aside0.mk (Kd.R_elder' (au83) (Kd.R_base ho0) hb); have n5_ := Aside0.mk (Kd.R_lower (Kd.R_new' (Kd.R_new' (Kd.R_new' (Kd.R_new' (Kd.R_mono (ok' := fun k_ => True) ho0 (fun _ hk_ => trivial)) (Kd.R_lt (au49))) (Kd.R_lt (au46))) (Kd.R_lt (au47))) (Kd.R_lt (au83))) (below_size (au4))); have n6_ := Aside0.mk (blk_below (g := gb346) (o := .cells #[.slice A0_0 l0_0.length c0_0, .slice A0_1 l0_1.length c0_1, .int .u8 a0_2, .bool a0_3, .int .i64 a0_4, .int .i64 a0_5, .int .i64 a0_6, .slice A0_7 l0_7.length c0_7] 25 (0, 0)) (au9) hb); have n7_ := Aside0.mk (blk_below (g := gb347) (o := .cells #[.slice A1_0 l1_0.length c1_0, .slice A1_1 l1_1.length c1_1, .int .u8 a1_2, .bool a1_3, .int .i64 a1_4, .int .i64 a1_5, .int .i64 a1_6, .slice A1_7 l1_7.length c1_7] 25 (0, 0)) (au12) hb); have n8_ := Aside0.mk (blk_below (g := gb364) (o := .cells #[.slice Ao73 x365000_3.length co73, .slice Ao74 x365001_3.length co74, .int .u8 t356, .bool t357, .int .i64 t358, .int .i64 t359, .int .i64 t360, .slice Ao37 t361.length co37] 25 (0, 0)) (au23) hb); have n9_ := Aside0.mk (below_step (au4) hb); clear HO_8; clear HO_365000; clear HO_365001; clear HO_365007; clear HO379; clear BK346; clear BK347; clear BK364; clear HB; have HO_8 := n0_; have HO_365000 := n1_; have HO_365001 := n2_; have HO_365007 := n3_; have HO379 := n4_; have HO383 := n5_; have BK346 := n6_; have BK347 := n7_; have BK364 := n8_; have HB := n9_; clear n0_ n1_ n2_ n3_ n4_ n5_ n6_ n7_ n8_ n9_; (try clear hb); (try clear hb2); (try clear hk); (try clear hi); (try clear ho0); obtain ⟨hcz78_0, hcz78_1, hcz78_2, hcz78_3, hcz78_4, hcz78_5, hcz78_6, hcz78_7, hfz78_0, hfz78_1, hfz78_2, hfz78_3, hfz78_4, hfz78_5, hfz78_6, hfz78_7⟩ := blk_all8 BK364.out) | ((with_reducible refine gate_callee (f := 34) rfl ?_); refine goesL_ (some 82) rfl rfl Try.func34 (by kernel_rfl) rfl #[.agg #[.slice Ao73 x365000_3.length co73, .slice Ao74 x365001_3.length co74, .int .u8 t356, .bool t357, .int .i64 t358, .int .i64 t359, .int .i64 t360, .slice Ao37 t361.length co37]] rfl (au3) ?_; (with_reducible refine (method_Zeros.calls k3 _ _ x365000_3 _ _ x365001_3 t356 t357 t358 t359 t360 _ _ t361 t384 t387 _ ?side1 ?side2 ?side3 ?side4 ?side5 ?side6 A67.out).mono ?_); (case side1 => exact au111); (case side2 => exact (Kd.R_reads' HO_365000.out).2.1); (case side3 => exact au112); (case side4 => exact (Kd.R_reads' HO_365001.out).2.1); (case side5 => exact au89); (case side6 => exact (Kd.V_reads' HO_365007.out).2.1); rintro e w79 ⟨v385, rfl, ho0, hb⟩; refine ⟨_, rfl, ?_⟩; have n0_ := Aside0.mk (Kd.R_below (au49) hb); have n1_ := Aside0.mk (Kd.R_below (au46) hb); have n2_ := Aside0.mk (Kd.R_below (au47) hb); have n3_ := Aside0.mk (Kd.V_elder' (au72) (Kd.R_base ho0) hb); have n4_ := Aside0.mk (Kd.R_below (au83) hb); have n5_ := Aside0.mk (Kd.R_below (au108) hb); have n6_ := Aside0.mk (Kd.R_lower ho0 (below_size (au4))); have n7_ := Aside0.mk (blk_below (g := gb346) (o := .cells #[.slice A0_0 l0_0.length c0_0, .slice A0_1 l0_1.length c0_1, .int .u8 a0_2, .bool a0_3, .int .i64 a0_4, .int .i64 a0_5, .int .i64 a0_6, .slice A0_7 l0_7.length c0_7] 25 (0, 0)) (au9) hb); have n8_ := Aside0.mk (blk_below (g := gb347) (o := .cells #[.slice A1_0 l1_0.length c1_0, .slice A1_1 l1_1.length c1_1, .int .u8 a1_2, .bool a1_3, .int .i64 a1_4, .int .i64 a1_5, .int .i64 a1_6, .slice A1_7 l1_7.length c1_7] 25 (0, 0)) (au12) hb); have n9_ := Aside0.mk (blk_below (g := gb364) (o := .cells #[.slice Ao73 x365000_3.length co73, .slice Ao74 x365001_3.length co74, .int .u8 t356, .bool t357, .int .i64 t358, .int .i64 t359, .int .i64 t360, .slice Ao37 t361.length co37] 25 (0, 0)) (au23) hb); have n10_ := Aside0.mk (below_step (au4) hb); clear HO_8; clear HO_365000; clear HO_365001; clear HO_365007; clear HO379; clear HO383; clear BK346; clear BK347; clear BK364; clear HB; have HO_8 := n0_; have HO_365000 := n1_; have HO_365001 := n2_; have HO_365007 := n3_; have HO379 := n4_; have HO383 := n5_; have HO386 := n6_; have BK346 := n7_; have BK347 := n8_; have BK364 := n9_; have HB := n10_; clear n0_ n1_ n2_ n3_ n4_ n5_ n6_ n7_ n8_ n9_ n10_; (try clear hb); (try clear hb2); (try clear hk); (try clear hi); (try clear ho0); have hnb80 := NB346_347.out; have hnc80 := NB347_346.out; obtain ⟨hcz81_0, hcz81_1, hcz81_2, hcz81_3, hcz81_4, hcz81_5, hcz81_6, hcz81_7, hfz81_0, hfz81_1, hfz81_2, hfz81_3, hfz81_4, hfz81_5, hfz81_6, hfz81_7⟩ := blk_all8 BK346.out) | ((with_reducible refine gate_callee (f := 35) rfl ?_); refine goesL_ (some 87) rfl rfl Try.func35 (by kernel_rfl) rfl #[.agg #[.slice A0_0 l0_0.length c0_0, .slice A0_1 l0_1.length c0_1, .int .u8 a0_2, .bool a0_3, .int .i64 a0_4, .int .i64 a0_5, .int .i64 a0_6, .slice A0_7 l0_7.length c0_7]] rfl (au3) ?_; (with_reducible refine (capstanref07_Zeros.calls k3 _ _ l0_0 _ _ l0_1 a0_2 a0_3 a0_4 a0_5 a0_6 _ _ l0_7 t388 t391 _ ?side1 ?side2 ?side3 ?side4 ?side5 ?side6 A68.out).mono ?_); (case side1 => exact au6); (case side2 => exact HC0_0.out); (case side3 => exact au15); (case side4 => exact HC0_1.out); (case side5 => exact au16); (case side6 => exact HC0_7.out); rintro e w82 ⟨v389, rfl, ho0, hb⟩; refine ⟨_, rfl, ?_⟩; have n0_ := Aside0.mk (Kd.R_below (au49) hb); have n1_ := Aside0.mk (Kd.R_below (au46) hb); have n2_ := Aside0.mk (Kd.R_below (au47) hb); have n3_ := Aside0.mk (Kd.V_elder' (au72) (Kd.R_base ho0) hb); have n4_ := Aside0.mk (Kd.R_below (au83) hb); have n5_ := Aside0.mk (Kd.R_below (au108) hb); have n6_ := Aside0.mk (Kd.R_elder' (au116) (Kd.R_base ho0) hb); have n7_ := Aside0.mk (Kd.R_lower (Kd.R_new' ho0 (Kd.R_lt (au116))) (below_size (au4))); have n8_ := Aside0.mk (blk_below (g := gb346) (o := .cells #[.slice A0_0 l0_0.length c0_0, .slice A0_1 l0_1.length c0_1, .int .u8 a0_2, .bool a0_3, .int .i64 a0_4, .int .i64 a0_5, .int .i64 a0_6, .slice A0_7 l0_7.length c0_7] 25 (0, 0)) (au9) hb); have n9_ := Aside0.mk (blk_below (g := gb347) (o := .cells #[.slice A1_0 l1_0.length c1_0, .slice A1_1 l1_1.length c1_1, .int .u8 a1_2, .bool a1_3, .int .i64 a1_4, .int .i64 a1_5, .int .i64 a1_6, .slice A1_7 l1_7.length c1_7] 25 (0, 0)) (au12) hb); have n10_ := Aside0.mk (blk_below (g := gb364) (o := .cells #[.slice Ao73 x365000_3.length co73, .slice Ao74 x365001_3.length co74, .int .u8 t356, .bool t357, .int .i64 t358, .int .i64 t359, .int .i64 t360, .slice Ao37 t361.length co37] 25 (0, 0)) (au23) hb); have n11_ := Aside0.mk (below_step (au4) hb); clear HO_8; clear HO_365000; clear HO_365001; clear HO_365007; clear HO379; clear HO383; clear HO386; clear BK346; clear BK347; clear BK364; clear HB; have HO_8 := n0_; have HO_365000 := n1_; have HO_365001 := n2_; have HO_365007 := n3_; have HO379 := n4_; have HO383 := n5_; have HO386 := n6_; have HO390 := n7_; have BK346 := n8_; have BK347 := n9_; have BK364 := n10_; have HB := n11_; clear n0_ n1_ n2_ n3_ n4_ n5_ n6_ n7_ n8_ n9_ n10_ n11_; (try clear hb); (try clear hb2); (try clear hk); (try clear hi); (try clear ho0)))
          (try simp only [Act.put, List.setIfInBounds_toArray, List.set_cons_zero, List.set_cons_succ])
          go_cut [123] (fun v123 wc => ∃ (kq : Nat) (x123_68 : Bool), v123 = .bool x123_68 ∧ Aside0 (capstanlaw07_MethodTells.j3 kq x8_3 t368 x10_3 t377 t381 t384 x123_68 l0_0 l0_1 a0_2 a0_3 a0_4 a0_5 a0_6 l0_7 x365000_3 x365001_3 t356 t357 t358 t359 t360 t361 = some r) ∧ Aside0 (kq ≤ k3) ∧ Aside0 (Kd.R (Kd.int .u8) 5 wc w.heap.size (fun k_ => some k_ ≠ (v378 : Value).ownBlock ∧ some k_ ≠ (v382 : Value).ownBlock ∧ some k_ ≠ ((.slice Ao73 x365000_3.length co73) : Value).ownBlock ∧ some k_ ≠ ((.slice Ao74 x365001_3.length co74) : Value).ownBlock) v366 x8_3) ∧ Aside0 (Kd.R (Kd.int .u8) 5 wc w.heap.size (fun k_ => some k_ ≠ (v366 : Value).ownBlock ∧ some k_ ≠ (v382 : Value).ownBlock ∧ some k_ ≠ ((.slice Ao73 x365000_3.length co73) : Value).ownBlock ∧ some k_ ≠ ((.slice Ao74 x365001_3.length co74) : Value).ownBlock) v378 t377) ∧ Aside0 (Kd.R (Kd.int .u8) 5 wc w.heap.size (fun k_ => some k_ ≠ (v366 : Value).ownBlock ∧ some k_ ≠ (v378 : Value).ownBlock ∧ some k_ ≠ ((.slice Ao73 x365000_3.length co73) : Value).ownBlock ∧ some k_ ≠ ((.slice Ao74 x365001_3.length co74) : Value).ownBlock) v382 t381) ∧ Aside0 (Kd.R k35 35 wc w.heap.size (fun _ => True) v385 t384) ∧ Aside0 (Kd.R (Kd.int .u8) 5 wc w.heap.size (fun k_ => some k_ ≠ (v366 : Value).ownBlock ∧ some k_ ≠ (v378 : Value).ownBlock ∧ some k_ ≠ (v382 : Value).ownBlock ∧ some k_ ≠ ((.slice Ao74 x365001_3.length co74) : Value).ownBlock) (.slice Ao73 x365000_3.length co73) x365000_3) ∧ Aside0 (Kd.R (Kd.int .u8) 5 wc w.heap.size (fun k_ => some k_ ≠ (v366 : Value).ownBlock ∧ some k_ ≠ (v378 : Value).ownBlock ∧ some k_ ≠ (v382 : Value).ownBlock ∧ some k_ ≠ ((.slice Ao73 x365000_3.length co73) : Value).ownBlock) (.slice Ao74 x365001_3.length co74) x365001_3) ∧ Aside0 (Kd.V k130 130 wc w.heap.size (fun k_ => some k_ ≠ (v366 : Value).ownBlock ∧ some k_ ≠ (v378 : Value).ownBlock ∧ some k_ ≠ (v382 : Value).ownBlock ∧ some k_ ≠ (v385 : Value).ownBlock ∧ some k_ ≠ ((.slice Ao73 x365000_3.length co73) : Value).ownBlock ∧ some k_ ≠ ((.slice Ao74 x365001_3.length co74) : Value).ownBlock ∧ k_ ≠ gb346 ∧ k_ ≠ gb347 ∧ k_ ≠ gb364) (.slice Ao37 t361.length co37) t361) ∧ Aside0 (wc.heap[gb346]? = some (.cells #[(.slice A0_0 l0_0.length c0_0), (.slice A0_1 l0_1.length c0_1), .int .u8 a0_2, .bool a0_3, .int .i64 a0_4, .int .i64 a0_5, .int .i64 a0_6, (.slice A0_7 l0_7.length c0_7)] 25 (0, 0))) ∧ Aside0 (wc.heap[gb347]? = some (.cells #[(.slice A1_0 l1_0.length c1_0), (.slice A1_1 l1_1.length c1_1), .int .u8 a1_2, .bool a1_3, .int .i64 a1_4, .int .i64 a1_5, .int .i64 a1_6, (.slice A1_7 l1_7.length c1_7)] 25 (0, 0))) ∧ Aside0 (wc.heap[gb364]? = some (.cells #[(.slice Ao73 x365000_3.length co73), (.slice Ao74 x365001_3.length co74), .int .u8 t356, .bool t357, .int .i64 t358, .int .i64 t359, .int .i64 t360, (.slice Ao37 t361.length co37)] 25 (0, 0))) ∧ Aside0 (Below w.heap.size w wc))
          case first =>
           have H := HC69.out
           clear HC69
           by_cases c83 : (strOfNums t377).toList = (strOfNums x8_3).toList
           ·
            rw [if_pos c83] at H
            have c83b0 : ((strOfNums t377).toList == (strOfNums x8_3).toList) = true := beq_iff_eq.mpr c83
            have c83b1 : ((strOfNums t377).toList != (strOfNums x8_3).toList) = false := bne_eq_false_iff_eq.mpr c83
            clear c83
            (first | rw [c83b0] | (simp only [i64_w, i32_w]; rw [c83b0]) | skip)
            by_cases c84 : t380 = t368
            ·
             rw [if_pos c84] at H
             have c84b0 : (t380 == t368) = true := beq_iff_eq.mpr c84
             have c84b1 : (t380 != t368) = false := bne_eq_false_iff_eq.mpr c84
             clear c84
             replace H := Option.bind_eq_some_iff.mp H
             obtain ⟨t392, A850, H⟩ := H
             replace H : ((capstanref07_SameKinds.f k3 t381 t392).bind fun t395 => (if t395 = true then ((capstanref03_Same.f k3 t384 t388).bind fun t396 => (if t396 = true then (if (t387 != t391) = true then (none) else ((capstanref07_Same.f k3 x365000_3 x365001_3 t356 t357 t358 t359 t360 t361 l0_0 l0_1 a0_2 a0_3 a0_4 a0_5 a0_6 l0_7).bind fun t397 => (capstanlaw07_MethodTells.j3 k3 x8_3 t368 x10_3 t377 t381 t384 (!t397) l0_0 l0_1 a0_2 a0_3 a0_4 a0_5 a0_6 l0_7 x365000_3 x365001_3 t356 t357 t358 t359 t360 t361))) else (none))) else (none))) = some r := H
             have A85 := Aside0.mk A850
             clear A850
             replace H := Option.bind_eq_some_iff.mp H
             obtain ⟨t395, A860, H⟩ := H
             replace H : (if t395 = true then ((capstanref03_Same.f k3 t384 t388).bind fun t396 => (if t396 = true then (if (t387 != t391) = true then (none) else ((capstanref07_Same.f k3 x365000_3 x365001_3 t356 t357 t358 t359 t360 t361 l0_0 l0_1 a0_2 a0_3 a0_4 a0_5 a0_6 l0_7).bind fun t397 => (capstanlaw07_MethodTells.j3 k3 x8_3 t368 x10_3 t377 t381 t384 (!t397) l0_0 l0_1 a0_2 a0_3 a0_4 a0_5 a0_6 l0_7 x365000_3 x365001_3 t356 t357 t358 t359 t360 t361))) else (none))) else (none)) = some r := H
             have A86 := Aside0.mk A860
             clear A860
             by_cases c87 : t395 = true
             ·
              subst c87
              have H1 : ((capstanref03_Same.f k3 t384 t388).bind fun t396 => (if t396 = true then (if (t387 != t391) = true then (none) else ((capstanref07_Same.f k3 x365000_3 x365001_3 t356 t357 t358 t359 t360 t361 l0_0 l0_1 a0_2 a0_3 a0_4 a0_5 a0_6 l0_7).bind fun t397 => (capstanlaw07_MethodTells.j3 k3 x8_3 t368 x10_3 t377 t381 t384 (!t397) l0_0 l0_1 a0_2 a0_3 a0_4 a0_5 a0_6 l0_7 x365000_3 x365001_3 t356 t357 t358 t359 t360 t361))) else (none))) = some r := by rw [if_pos rfl] at H; exact H
              clear H
              have H := H1
              clear H1
              replace H := Option.bind_eq_some_iff.mp H
              obtain ⟨t396, A880, H⟩ := H
              replace H : (if t396 = true then (if (t387 != t391) = true then (none) else ((capstanref07_Same.f k3 x365000_3 x365001_3 t356 t357 t358 t359 t360 t361 l0_0 l0_1 a0_2 a0_3 a0_4 a0_5 a0_6 l0_7).bind fun t397 => (capstanlaw07_MethodTells.j3 k3 x8_3 t368 x10_3 t377 t381 t384 (!t397) l0_0 l0_1 a0_2 a0_3 a0_4 a0_5 a0_6 l0_7 x365000_3 x365001_3 t356 t357 t358 t359 t360 t361))) else (none)) = some r := H
              have A88 := Aside0.mk A880
              clear A880
              by_cases c89 : t396 = true
              ·
               subst c89
               have H1 : (if (t387 != t391) = true then (none) else ((capstanref07_Same.f k3 x365000_3 x365001_3 t356 t357 t358 t359 t360 t361 l0_0 l0_1 a0_2 a0_3 a0_4 a0_5 a0_6 l0_7).bind fun t397 => (capstanlaw07_MethodTells.j3 k3 x8_3 t368 x10_3 t377 t381 t384 (!t397) l0_0 l0_1 a0_2 a0_3 a0_4 a0_5 a0_6 l0_7 x365000_3 x365001_3 t356 t357 t358 t359 t360 t361))) = some r := by rw [if_pos rfl] at H; exact H
               clear H
               have H := H1
               clear H1
               by_cases c90 : (t387 != t391) = true
               ·
                rw [if_pos c90] at H
                exact absurd H (by simp)
               ·
                rw [if_neg c90] at H
                have c90b0 : (t387 != t391) = false := by simpa using c90
                (try (have c90b1 : decide (t387 = t391) = true := by first | (simp; done) | simpa using c90))
                (try (have c90b2 : (t387 == t391) = true := by first | (simp; done) | simpa using c90))
                clear c90
                replace H := Option.bind_eq_some_iff.mp H
                obtain ⟨t397, A910, H⟩ := H
                replace H : (capstanlaw07_MethodTells.j3 k3 x8_3 t368 x10_3 t377 t381 t384 (!t397) l0_0 l0_1 a0_2 a0_3 a0_4 a0_5 a0_6 l0_7 x365000_3 x365001_3 t356 t357 t358 t359 t360 t361) = some r := H
                have A91 := Aside0.mk A910
                clear A910
                have H' := Aside0.mk H
                clear H
                have hcv92 := own_string (P := Try.prog) Try.underlying22 Try.underlying5 Try.underlying9 (Kd.own_of_R HO379.out)
                (try have hcv93 := fun n_ : Nat => own_string (P := Try.prog) Try.underlying22 Try.underlying5 Try.underlying9 (Kd.own_of_R (Kd.R_drewN HO379.out n_)))
                have hcv94 := own_string (P := Try.prog) Try.underlying22 Try.underlying5 Try.underlying9 (Kd.own_of_R HO_8.out)
                (try have hcv95 := fun n_ : Nat => own_string (P := Try.prog) Try.underlying22 Try.underlying5 Try.underlying9 (Kd.own_of_R (Kd.R_drewN HO_8.out n_)))
                have hnb96 := NB346_347.out
                have hnc96 := NB347_346.out
                have hnb97 := NB346_364.out
                have hnc97 := NB364_346.out
                obtain ⟨hcz98_0, hcz98_1, hcz98_2, hcz98_3, hcz98_4, hcz98_5, hcz98_6, hcz98_7, hfz98_0, hfz98_1, hfz98_2, hfz98_3, hfz98_4, hfz98_5, hfz98_6, hfz98_7⟩ := blk_all8 BK346.out
                go_wp2_with (first | ((fail_if_success (have h_ := w99)); go_at_call 37; (with_reducible refine (capstanref07_Kinds.calls _ _ l0_0 _ _ l0_1 a0_2 a0_3 a0_4 a0_5 a0_6 _ _ l0_7 t392 _ ?side1 ?side2 ?side3 ?side4 ?side5 ?side6 A85.out).mono ?_); (case side1 => exact au6); (case side2 => exact HC0_0.out); (case side3 => exact au15); (case side4 => exact HC0_1.out); (case side5 => exact au16); (case side6 => exact HC0_7.out); rintro e w99 ⟨v393, rfl, ho0, hb⟩; have n0_ := Aside0.mk (Kd.R_elder' (au49) (Kd.R_base ho0) hb); have n1_ := Aside0.mk (Kd.R_elder' (au46) (Kd.R_base ho0) hb); have n2_ := Aside0.mk (Kd.R_elder' (au47) (Kd.R_base ho0) hb); have n3_ := Aside0.mk (Kd.V_elder' (au72) (Kd.R_base ho0) hb); have n4_ := Aside0.mk (Kd.R_elder' (au83) (Kd.R_base ho0) hb); have n5_ := Aside0.mk (Kd.R_elder' (au108) (Kd.R_base ho0) hb); have n6_ := Aside0.mk (Kd.R_below (au116) hb); have n7_ := Aside0.mk (Kd.R_below (by (with_reducible repeat (first | apply Kd.R_alloc | apply Kd.R_drewN | apply Kd.R_drew)); exact HO390.out) hb); have n8_ := Aside0.mk (Kd.R_lower (Kd.R_new' (Kd.R_new' (Kd.R_new' (Kd.R_new' (Kd.R_new' ho0 (Kd.R_lt (au49))) (Kd.R_lt (au46))) (Kd.R_lt (au47))) (Kd.R_lt (au83))) (Kd.R_lt (au108))) (below_size (au4))); have n9_ := Aside0.mk (blk_below (g := gb346) (o := .cells #[.slice A0_0 l0_0.length c0_0, .slice A0_1 l0_1.length c0_1, .int .u8 a0_2, .bool a0_3, .int .i64 a0_4, .int .i64 a0_5, .int .i64 a0_6, .slice A0_7 l0_7.length c0_7] 25 (0, 0)) (au9) hb); have n10_ := Aside0.mk (blk_below (g := gb347) (o := .cells #[.slice A1_0 l1_0.length c1_0, .slice A1_1 l1_1.length c1_1, .int .u8 a1_2, .bool a1_3, .int .i64 a1_4, .int .i64 a1_5, .int .i64 a1_6, .slice A1_7 l1_7.length c1_7] 25 (0, 0)) (au12) hb); have n11_ := Aside0.mk (blk_below (g := gb364) (o := .cells #[.slice Ao73 x365000_3.length co73, .slice Ao74 x365001_3.length co74, .int .u8 t356, .bool t357, .int .i64 t358, .int .i64 t359, .int .i64 t360, .slice Ao37 t361.length co37] 25 (0, 0)) (au23) hb); have n12_ := Aside0.mk (below_step (au4) hb); clear HO_8; clear HO_365000; clear HO_365001; clear HO_365007; clear HO379; clear HO383; clear HO386; clear HO390; clear BK346; clear BK347; clear BK364; clear HB; have HO_8 := n0_; have HO_365000 := n1_; have HO_365001 := n2_; have HO_365007 := n3_; have HO379 := n4_; have HO383 := n5_; have HO386 := n6_; have HO390 := n7_; have HO394 := n8_; have BK346 := n9_; have BK347 := n10_; have BK364 := n11_; have HB := n12_; clear n0_ n1_ n2_ n3_ n4_ n5_ n6_ n7_ n8_ n9_ n10_ n11_ n12_; (try clear hb); (try clear hb2); (try clear hk); (try clear hi); (try clear ho0); obtain ⟨Ao100, co100, eo100⟩ := Kd.R_slice HO383.out; subst eo100; obtain ⟨Ao101, co101, eo101⟩ := Kd.R_slice HO394.out; subst eo101) | (go_at_call 36; (with_reducible refine (capstanref07_SameKinds.calls k3 _ _ t381 _ _ t392 true _ ?side1 ?side2 ?side3 ?side4 A86.out).mono ?_); (case side1 => repeat (first | exact (Kd.R_reads' HO383.out).2.2 | (with_reducible refine Kd.C_alloc ?_ _) | (with_reducible refine Kd.C_drewN ?_ _) | (with_reducible refine Kd.C_drew ?_))); (case side2 => exact (Kd.R_reads' HO383.out).2.1); (case side3 => repeat (first | exact (Kd.R_reads' HO394.out).2.2 | (with_reducible refine Kd.C_alloc ?_ _) | (with_reducible refine Kd.C_drewN ?_ _) | (with_reducible refine Kd.C_drew ?_))); (case side4 => exact (Kd.R_reads' HO394.out).2.1); rintro e w' ⟨rfl, ⟨nd, rfl⟩⟩; obtain ⟨Ao102, co102, eo102⟩ := Kd.R_slice HO386.out; subst eo102; obtain ⟨Ao103, co103, eo103⟩ := Kd.R_slice HO390.out; subst eo103) | (go_at_call 21; (with_reducible refine (capstanref03_Same.calls k3 _ _ t384 _ _ t388 true _ ?side1 ?side2 ?side3 ?side4 A88.out).mono ?_); (case side1 => repeat (first | exact (Kd.R_reads' HO386.out).2.2 | (with_reducible refine Kd.C_alloc ?_ _) | (with_reducible refine Kd.C_drewN ?_ _) | (with_reducible refine Kd.C_drew ?_))); (case side2 => exact (Kd.R_reads' HO386.out).2.1); (case side3 => repeat (first | exact (Kd.R_reads' HO390.out).2.2 | (with_reducible refine Kd.C_alloc ?_ _) | (with_reducible refine Kd.C_drewN ?_ _) | (with_reducible refine Kd.C_drew ?_))); (case side4 => exact (Kd.R_reads' HO390.out).2.1); rintro e w' ⟨rfl, ⟨nd, rfl⟩⟩; have hnb104 := NB364_347.out; have hnc104 := NB347_364.out; obtain ⟨hcz105_0, hcz105_1, hcz105_2, hcz105_3, hcz105_4, hcz105_5, hcz105_6, hcz105_7, hfz105_0, hfz105_1, hfz105_2, hfz105_3, hfz105_4, hfz105_5, hfz105_6, hfz105_7⟩ := blk_all8 BK364.out; obtain ⟨hcz106_0, hcz106_1, hcz106_2, hcz106_3, hcz106_4, hcz106_5, hcz106_6, hcz106_7, hfz106_0, hfz106_1, hfz106_2, hfz106_3, hfz106_4, hfz106_5, hfz106_6, hfz106_7⟩ := blk_all8 BK346.out) | ((fail_if_success (have h_ := w107)); go_at_call 11; (with_reducible refine (capstanref07_Same.calls k3 _ _ x365000_3 _ _ x365001_3 t356 t357 t358 t359 t360 _ _ t361 _ _ l0_0 _ _ l0_1 a0_2 a0_3 a0_4 a0_5 a0_6 _ _ l0_7 t397 _ ?side1 ?side2 ?side3 ?side4 ?side5 ?side6 ?side7 ?side8 ?side9 ?side10 ?side11 ?side12 A91.out).mono ?_); (case side1 => exact au111); (case side2 => exact (Kd.R_reads' HO_365000.out).2.1); (case side3 => exact au112); (case side4 => exact (Kd.R_reads' HO_365001.out).2.1); (case side5 => exact au89); (case side6 => exact (Kd.V_reads' HO_365007.out).2.1); (case side7 => repeat (first | exact (Kd.C_below HR0_0.out (au4)) | (with_reducible refine Kd.C_alloc ?_ _) | (with_reducible refine Kd.C_drewN ?_ _) | (with_reducible refine Kd.C_drew ?_))); (case side8 => exact HC0_0.out); (case side9 => repeat (first | exact (Kd.C_below HR0_1.out (au4)) | (with_reducible refine Kd.C_alloc ?_ _) | (with_reducible refine Kd.C_drewN ?_ _) | (with_reducible refine Kd.C_drew ?_))); (case side10 => exact HC0_1.out); (case side11 => repeat (first | exact (Kd.C_below HR0_7.out (au4)) | (with_reducible refine Kd.C_alloc ?_ _) | (with_reducible refine Kd.C_drewN ?_ _) | (with_reducible refine Kd.C_drew ?_))); (case side12 => exact HC0_7.out); rintro e w107 ⟨rfl, hb⟩; have n0_ := Aside0.mk (Kd.R_below (au49) hb); have n1_ := Aside0.mk (Kd.R_below (au46) hb); have n2_ := Aside0.mk (Kd.R_below (au47) hb); have n3_ := Aside0.mk (Kd.V_below (au72) hb); have n4_ := Aside0.mk (Kd.R_below (au83) hb); have n5_ := Aside0.mk (Kd.R_below (au108) hb); have n6_ := Aside0.mk (Kd.R_below (au116) hb); have n7_ := Aside0.mk (Kd.R_below (by (with_reducible repeat (first | apply Kd.R_alloc | apply Kd.R_drewN | apply Kd.R_drew)); exact HO390.out) hb); have n8_ := Aside0.mk (Kd.R_below (by (with_reducible repeat (first | apply Kd.R_alloc | apply Kd.R_drewN | apply Kd.R_drew)); exact HO394.out) hb); have n9_ := Aside0.mk (blk_below (g := gb346) (o := .cells #[.slice A0_0 l0_0.length c0_0, .slice A0_1 l0_1.length c0_1, .int .u8 a0_2, .bool a0_3, .int .i64 a0_4, .int .i64 a0_5, .int .i64 a0_6, .slice A0_7 l0_7.length c0_7] 25 (0, 0)) (au9) hb); have n10_ := Aside0.mk (blk_below (g := gb347) (o := .cells #[.slice A1_0 l1_0.length c1_0, .slice A1_1 l1_1.length c1_1, .int .u8 a1_2, .bool a1_3, .int .i64 a1_4, .int .i64 a1_5, .int .i64 a1_6, .slice A1_7 l1_7.length c1_7] 25 (0, 0)) (au12) hb); have n11_ := Aside0.mk (blk_below (g := gb364) (o := .cells #[.slice Ao73 x365000_3.length co73, .slice Ao74 x365001_3.length co74, .int .u8 t356, .bool t357, .int .i64 t358, .int .i64 t359, .int .i64 t360, .slice Ao37 t361.length co37] 25 (0, 0)) (au23) hb); have n12_ := Aside0.mk (below_step (au4) hb); clear HO_8; clear HO_365000; clear HO_365001; clear HO_365007; clear HO379; clear HO383; clear HO386; clear HO390; clear HO394; clear BK346; clear BK347; clear BK364; clear HB; have HO_8 := n0_; have HO_365000 := n1_; have HO_365001 := n2_; have HO_365007 := n3_; have HO379 := n4_; have HO383 := n5_; have HO386 := n6_; have HO390 := n7_; have HO394 := n8_; have BK346 := n9_; have BK347 := n10_; have BK364 := n11_; have HB := n12_; clear n0_ n1_ n2_ n3_ n4_ n5_ n6_ n7_ n8_ n9_ n10_ n11_ n12_; (try clear hb); (try clear hb2); (try clear hk); (try clear hi)))
                go_meet
                case rel => exact ⟨_, (!t397), (au19), H', ⟨by have := HJ3.out; have := HJ26.out; have := HK3.out; first | omega | exact Nat.le_refl _⟩, ⟨by (with_reducible repeat (first | apply Kd.R_alloc | apply Kd.R_drewN | apply Kd.R_drew)); exact Kd.R_mono HO_8.out (fun _ hk => ⟨hk.1.1.2, ⟨hk.1.2, ⟨hk.1.1.1.1, hk.1.1.1.2⟩⟩⟩)⟩, ⟨by (with_reducible repeat (first | apply Kd.R_alloc | apply Kd.R_drewN | apply Kd.R_drew)); exact Kd.R_mono HO379.out (fun _ hk => ⟨hk.1.1.1.1.2, ⟨hk.1.2, ⟨hk.1.1.1.2, hk.1.1.2⟩⟩⟩)⟩, ⟨by (with_reducible repeat (first | apply Kd.R_alloc | apply Kd.R_drewN | apply Kd.R_drew)); exact Kd.R_mono HO383.out (fun _ hk => ⟨hk.1.1.1.1.2, ⟨hk.1.2, ⟨hk.1.1.1.2, hk.1.1.2⟩⟩⟩)⟩, ⟨by (with_reducible repeat (first | apply Kd.R_alloc | apply Kd.R_drewN | apply Kd.R_drew)); exact Kd.R_mono HO386.out (fun _ hk => trivial)⟩, ⟨by (with_reducible repeat (first | apply Kd.R_alloc | apply Kd.R_drewN | apply Kd.R_drew)); exact Kd.R_mono HO_365000.out (fun _ hk => ⟨hk.1.1.1.1, ⟨hk.1.1.2, ⟨hk.1.2, hk.1.1.1.2⟩⟩⟩)⟩, ⟨by (with_reducible repeat (first | apply Kd.R_alloc | apply Kd.R_drewN | apply Kd.R_drew)); exact Kd.R_mono HO_365001.out (fun _ hk => ⟨hk.1.1.1.1, ⟨hk.1.1.2, ⟨hk.1.2, hk.1.1.1.2⟩⟩⟩)⟩, ⟨by (with_reducible repeat (first | apply Kd.V_alloc | apply Kd.V_drewN | apply Kd.V_drew)); exact Kd.V_mono HO_365007.out (fun _ hk => ⟨hk.1.1.1.1.1.1, ⟨hk.1.1.1.1.2, ⟨hk.1.1.1.2, ⟨hk.1.1.2, ⟨hk.1.1.1.1.1.2.1, ⟨hk.1.1.1.1.1.2.2.1, ⟨hk.1.1.1.1.1.2.2.2.1, ⟨hk.1.1.1.1.1.2.2.2.2.1, hk.1.1.1.1.1.2.2.2.2.2⟩⟩⟩⟩⟩⟩⟩⟩)⟩, ⟨au9⟩, ⟨au12⟩, ⟨au23⟩, ⟨au4⟩⟩
              ·
               replace c89 := Bool.eq_false_iff.mpr c89
               subst c89
               have H1 : (none) = some r := by rw [if_neg (show ¬ (false = true) by decide)] at H; exact H
               clear H
               have H := H1
               clear H1
               exact absurd H (by simp)
             ·
              replace c87 := Bool.eq_false_iff.mpr c87
              subst c87
              have H1 : (none) = some r := by rw [if_neg (show ¬ (false = true) by decide)] at H; exact H
              clear H
              have H := H1
              clear H1
              exact absurd H (by simp)
            ·
             rw [if_neg c84] at H
             exact absurd H (by simp)
           ·
            rw [if_neg c83] at H
            exact absurd H (by simp)
          case rest =>
           clear HC69
           try clear c1
           try clear c2
           try clear p2
           try clear c3
           try clear c6
           try clear c7
           try clear c8
           try clear c9
           try clear hcv9
           try clear c10
           try clear c11
           try clear c25
           try clear c26
           try clear c27
           try clear c28
           try clear c29
           try clear c30
           try clear c31
           try clear c32
           try clear c33
           try clear c34
           try clear c35
           try clear c63
           try clear c64
           try clear c64b0
           try clear c70
           try clear c71
           try clear c80
           try clear c83
           try clear c83b0
           try clear c83b1
           try clear c84
           try clear c84b0
           try clear c84b1
           try clear c87
           try clear c89
           try clear c90
           try clear c90b0
           try clear c90b1
           try clear c90b2
           try clear hcv92
           try clear hcv93
           try clear hcv94
           try clear hcv95
           try clear c96
           try clear c97
           try clear c104
           try clear hcz105_0
           try clear hcz105_1
           try clear hcz105_2
           try clear hcz105_3
           try clear hcz105_4
           try clear hcz105_5
           try clear hcz105_6
           try clear hcz105_7
           try clear hcz106_0
           try clear hcz106_1
           try clear hcz106_2
           try clear hcz106_3
           try clear hcz106_4
           try clear hcz106_5
           try clear hcz106_6
           try clear hcz106_7
           try clear hcz72_0
           try clear hcz72_1
           try clear hcz72_2
           try clear hcz72_3
           try clear hcz72_4
           try clear hcz72_5
           try clear hcz72_6
           try clear hcz72_7
           try clear hcz76_0
           try clear hcz76_1
           try clear hcz76_2
           try clear hcz76_3
           try clear hcz76_4
           try clear hcz76_5
           try clear hcz76_6
           try clear hcz76_7
           try clear hcz78_0
           try clear hcz78_1
           try clear hcz78_2
           try clear hcz78_3
           try clear hcz78_4
           try clear hcz78_5
           try clear hcz78_6
           try clear hcz78_7
           try clear hcz81_0
           try clear hcz81_1
           try clear hcz81_2
           try clear hcz81_3
           try clear hcz81_4
           try clear hcz81_5
           try clear hcz81_6
           try clear hcz81_7
           try clear hcz98_0
           try clear hcz98_1
           try clear hcz98_2
           try clear hcz98_3
           try clear hcz98_4
           try clear hcz98_5
           try clear hcz98_6
           try clear hcz98_7
           try clear hfz105_0
           try clear hfz105_1
           try clear hfz105_2
           try clear hfz105_3
           try clear hfz105_4
           try clear hfz105_5
           try clear hfz105_6
           try clear hfz105_7
           try clear hfz106_0
           try clear hfz106_1
           try clear hfz106_2
           try clear hfz106_3
           try clear hfz106_4
           try clear hfz106_5
           try clear hfz106_6
           try clear hfz106_7
           try clear hfz72_0
           try clear hfz72_1
           try clear hfz72_2
           try clear hfz72_3
           try clear hfz72_4
           try clear hfz72_5
           try clear hfz72_6
           try clear hfz72_7
           try clear hfz76_0
           try clear hfz76_1
           try clear hfz76_2
           try clear hfz76_3
           try clear hfz76_4
           try clear hfz76_5
           try clear hfz76_6
           try clear hfz76_7
           try clear hfz78_0
           try clear hfz78_1
           try clear hfz78_2
           try clear hfz78_3
           try clear hfz78_4
           try clear hfz78_5
           try clear hfz78_6
           try clear hfz78_7
           try clear hfz81_0
           try clear hfz81_1
           try clear hfz81_2
           try clear hfz81_3
           try clear hfz81_4
           try clear hfz81_5
           try clear hfz81_6
           try clear hfz81_7
           try clear hfz98_0
           try clear hfz98_1
           try clear hfz98_2
           try clear hfz98_3
           try clear hfz98_4
           try clear hfz98_5
           try clear hfz98_6
           try clear hfz98_7
           try clear p2
           obtain ⟨kq, x123_68, rfl, HA, HJ68, HO_8, HO_11, HO_13, HO_14, HO_365000, HO_365001, HO_365007, BK346, BK347, BK364, HB⟩ := hcut
           cases kq with
           | zero => exact absurd HA.out (by simp [capstanlaw07_MethodTells.j3])
           | succ kj68 =>
            have H := HA.out
            clear HA
            simp only [capstanlaw07_MethodTells.j3] at H
            by_cases c108 : x123_68 = true
            ·
             subst c108
             have H1 : (none) = some r := by rw [if_pos rfl] at H; exact H
             clear H
             have H := H1
             clear H1
             exact absurd H (by simp)
            ·
             replace c108 := Bool.eq_false_iff.mpr c108
             subst c108
             have H1 : (capstanlaw07_MethodTells.l1 kj68 x8_3 t368 x10_3 t377 t381 t384 0 l0_0 l0_1 a0_2 a0_3 a0_4 a0_5 a0_6 l0_7 x365000_3 x365001_3 t356 t357 t358 t359 t360 t361) = some r := by rw [if_neg (show ¬ (false = true) by decide)] at H; exact H
             clear H
             have H := H1
             clear H1
             have H' := Aside0.mk H
             clear H
             go_wp2
             go_loopg [18] kj68 (fun kq v18 w' => ∃ (x11_5 : List Int) (x18_5 : Int), v18 = .int .i64 x18_5 ∧ Aside0 (capstanlaw07_MethodTells.l1 kq x8_3 t368 x10_3 x11_5 t381 t384 x18_5 l0_0 l0_1 a0_2 a0_3 a0_4 a0_5 a0_6 l0_7 x365000_3 x365001_3 t356 t357 t358 t359 t360 t361 = some r) ∧ Aside0 (kq ≤ kj68) ∧ Aside0 (Kd.R (Kd.int .u8) 5 w' w.heap.size (fun k_ => some k_ ≠ (v378 : Value).ownBlock ∧ some k_ ≠ (v382 : Value).ownBlock ∧ some k_ ≠ ((.slice Ao73 x365000_3.length co73) : Value).ownBlock ∧ some k_ ≠ ((.slice Ao74 x365001_3.length co74) : Value).ownBlock) v366 x8_3) ∧ Aside0 (Kd.R (Kd.int .u8) 5 w' w.heap.size (fun k_ => some k_ ≠ (v366 : Value).ownBlock ∧ some k_ ≠ (v382 : Value).ownBlock ∧ some k_ ≠ ((.slice Ao73 x365000_3.length co73) : Value).ownBlock ∧ some k_ ≠ ((.slice Ao74 x365001_3.length co74) : Value).ownBlock) v378 x11_5) ∧ Aside0 (Kd.R (Kd.int .u8) 5 w' w.heap.size (fun k_ => some k_ ≠ (v366 : Value).ownBlock ∧ some k_ ≠ (v378 : Value).ownBlock ∧ some k_ ≠ ((.slice Ao73 x365000_3.length co73) : Value).ownBlock ∧ some k_ ≠ ((.slice Ao74 x365001_3.length co74) : Value).ownBlock) v382 t381) ∧ Aside0 (Kd.R k35 35 w' w.heap.size (fun _ => True) v385 t384) ∧ Aside0 (Kd.R (Kd.int .u8) 5 w' w.heap.size (fun k_ => some k_ ≠ (v366 : Value).ownBlock ∧ some k_ ≠ (v378 : Value).ownBlock ∧ some k_ ≠ (v382 : Value).ownBlock ∧ some k_ ≠ ((.slice Ao74 x365001_3.length co74) : Value).ownBlock) (.slice Ao73 x365000_3.length co73) x365000_3) ∧ Aside0 (Kd.R (Kd.int .u8) 5 w' w.heap.size (fun k_ => some k_ ≠ (v366 : Value).ownBlock ∧ some k_ ≠ (v378 : Value).ownBlock ∧ some k_ ≠ (v382 : Value).ownBlock ∧ some k_ ≠ ((.slice Ao73 x365000_3.length co73) : Value).ownBlock) (.slice Ao74 x365001_3.length co74) x365001_3) ∧ Aside0 (Kd.V k130 130 w' w.heap.size (fun k_ => some k_ ≠ (v366 : Value).ownBlock ∧ some k_ ≠ (v378 : Value).ownBlock ∧ some k_ ≠ (v382 : Value).ownBlock ∧ some k_ ≠ (v385 : Value).ownBlock ∧ some k_ ≠ ((.slice Ao73 x365000_3.length co73) : Value).ownBlock ∧ some k_ ≠ ((.slice Ao74 x365001_3.length co74) : Value).ownBlock ∧ k_ ≠ gb346 ∧ k_ ≠ gb347 ∧ k_ ≠ gb364) (.slice Ao37 t361.length co37) t361) ∧ Aside0 (w'.heap[gb346]? = some (.cells #[(.slice A0_0 l0_0.length c0_0), (.slice A0_1 l0_1.length c0_1), .int .u8 a0_2, .bool a0_3, .int .i64 a0_4, .int .i64 a0_5, .int .i64 a0_6, (.slice A0_7 l0_7.length c0_7)] 25 (0, 0))) ∧ Aside0 (w'.heap[gb347]? = some (.cells #[(.slice A1_0 l1_0.length c1_0), (.slice A1_1 l1_1.length c1_1), .int .u8 a1_2, .bool a1_3, .int .i64 a1_4, .int .i64 a1_5, .int .i64 a1_6, (.slice A1_7 l1_7.length c1_7)] 25 (0, 0))) ∧ Aside0 (w'.heap[gb364]? = some (.cells #[(.slice Ao73 x365000_3.length co73), (.slice Ao74 x365001_3.length co74), .int .u8 t356, .bool t357, .int .i64 t358, .int .i64 t359, .int .i64 t360, (.slice Ao37 t361.length co37)] 25 (0, 0))) ∧ Aside0 (Below w.heap.size w w'))
             case atStart => exact ⟨(t377), (0), (au19), H', ⟨Nat.le_refl _⟩, ⟨au49⟩, ⟨by (with_reducible repeat (first | apply Kd.R_alloc | apply Kd.R_drewN | apply Kd.R_drew)); exact HO_11.out⟩, ⟨by (with_reducible repeat (first | apply Kd.R_alloc | apply Kd.R_drewN | apply Kd.R_drew)); exact HO_13.out⟩, ⟨au67⟩, ⟨au46⟩, ⟨au47⟩, ⟨au72⟩, ⟨au9⟩, ⟨au12⟩, ⟨au23⟩, ⟨au4⟩⟩
             case round =>
              clear H'
              try clear c1
              try clear c2
              try clear p2
              try clear c3
              try clear c6
              try clear c7
              try clear c8
              try clear c9
              try clear hcv9
              try clear c10
              try clear c11
              try clear c25
              try clear c26
              try clear c27
              try clear c28
              try clear c29
              try clear c30
              try clear c31
              try clear c32
              try clear c33
              try clear c34
              try clear c35
              try clear c63
              try clear c64
              try clear c64b0
              try clear c70
              try clear c71
              try clear c80
              try clear c83
              try clear c83b0
              try clear c83b1
              try clear c84
              try clear c84b0
              try clear c84b1
              try clear c87
              try clear c89
              try clear c90
              try clear c90b0
              try clear c90b1
              try clear c90b2
              try clear hcv92
              try clear hcv93
              try clear hcv94
              try clear hcv95
              try clear c96
              try clear c97
              try clear c104
              try clear c108
              try clear hcz105_0
              try clear hcz105_1
              try clear hcz105_2
              try clear hcz105_3
              try clear hcz105_4
              try clear hcz105_5
              try clear hcz105_6
              try clear hcz105_7
              try clear hcz106_0
              try clear hcz106_1
              try clear hcz106_2
              try clear hcz106_3
              try clear hcz106_4
              try clear hcz106_5
              try clear hcz106_6
              try clear hcz106_7
              try clear hcz72_0
              try clear hcz72_1
              try clear hcz72_2
              try clear hcz72_3
              try clear hcz72_4
              try clear hcz72_5
              try clear hcz72_6
              try clear hcz72_7
              try clear hcz76_0
              try clear hcz76_1
              try clear hcz76_2
              try clear hcz76_3
              try clear hcz76_4
              try clear hcz76_5
              try clear hcz76_6
              try clear hcz76_7
              try clear hcz78_0
              try clear hcz78_1
              try clear hcz78_2
              try clear hcz78_3
              try clear hcz78_4
              try clear hcz78_5
              try clear hcz78_6
              try clear hcz78_7
              try clear hcz81_0
              try clear hcz81_1
              try clear hcz81_2
              try clear hcz81_3
              try clear hcz81_4
              try clear hcz81_5
              try clear hcz81_6
              try clear hcz81_7
              try clear hcz98_0
              try clear hcz98_1
              try clear hcz98_2
              try clear hcz98_3
              try clear hcz98_4
              try clear hcz98_5
              try clear hcz98_6
              try clear hcz98_7
              try clear hfz105_0
              try clear hfz105_1
              try clear hfz105_2
              try clear hfz105_3
              try clear hfz105_4
              try clear hfz105_5
              try clear hfz105_6
              try clear hfz105_7
              try clear hfz106_0
              try clear hfz106_1
              try clear hfz106_2
              try clear hfz106_3
              try clear hfz106_4
              try clear hfz106_5
              try clear hfz106_6
              try clear hfz106_7
              try clear hfz72_0
              try clear hfz72_1
              try clear hfz72_2
              try clear hfz72_3
              try clear hfz72_4
              try clear hfz72_5
              try clear hfz72_6
              try clear hfz72_7
              try clear hfz76_0
              try clear hfz76_1
              try clear hfz76_2
              try clear hfz76_3
              try clear hfz76_4
              try clear hfz76_5
              try clear hfz76_6
              try clear hfz76_7
              try clear hfz78_0
              try clear hfz78_1
              try clear hfz78_2
              try clear hfz78_3
              try clear hfz78_4
              try clear hfz78_5
              try clear hfz78_6
              try clear hfz78_7
              try clear hfz81_0
              try clear hfz81_1
              try clear hfz81_2
              try clear hfz81_3
              try clear hfz81_4
              try clear hfz81_5
              try clear hfz81_6
              try clear hfz81_7
              try clear hfz98_0
              try clear hfz98_1
              try clear hfz98_2
              try clear hfz98_3
              try clear hfz98_4
              try clear hfz98_5
              try clear hfz98_6
              try clear hfz98_7
              try clear p2
              obtain ⟨x11_5, x18_5, rfl, HA, HK5, HO_8, HO_11, HO_13, HO_14, HO_365000, HO_365001, HO_365007, BK346, BK347, BK364, HB⟩ := hrel
              cases gk with
              | zero => exact absurd HA.out (by simp [capstanlaw07_MethodTells.l1])
              | succ k5 =>
               have H := HA.out
               clear HA
               simp only [capstanlaw07_MethodTells.l1] at H
               by_cases c109 : x18_5 < (x11_5.length : Int)
               ·
                rw [if_pos c109] at H
                have c109b0 : decide (x18_5 < (x11_5.length : Int)) = true := decide_eq_true c109
                clear c109
                by_cases c110 : 0 ≤ x18_5
                ·
                 rw [if_pos c110] at H
                 have c110b0 : decide (0 ≤ x18_5) = true := decide_eq_true c110
                 clear c110
                 obtain ⟨y399, hy399⟩ : ∃ y_ : List Int, y_ = (x11_5.set (x18_5 : Int).toNat (((rd x11_5 x18_5) + 1) % 256)) := ⟨_, rfl⟩
                 replace H : (capstanlaw07_MethodTells.l1 k5 x8_3 t368 x10_3 y399 t381 t384 (wrap64 (x18_5 + 1)) l0_0 l0_1 a0_2 a0_3 a0_4 a0_5 a0_6 l0_7 x365000_3 x365001_3 t356 t357 t358 t359 t360 t361) = some r := by first | (rw [hy399]; with_reducible exact H) | (have H2_ := (Option.bind_some _ _).symm.trans H; rw [hy399]; with_reducible exact H2_) | (have H2_ := (Option.bind_some _ _).symm.trans H; with_reducible exact H2_) | with_reducible exact H | (rw [hy399]; exact H) | exact H
                 have Ny399 := Aside0.mk hy399
                 clear hy399
                 have H' := Aside0.mk H
                 clear H
                 obtain ⟨Ao112, co112, eo112⟩ := Kd.R_slice HO_11.out
                 subst eo112
                 have p398 : 0 ≤ (x18_5 : Int) := of_decide_eq_true (au8)
                 have q398 : x18_5 < (x11_5.length : Int) := of_decide_eq_true (au8)
                 obtain ⟨ad398, e398, hx398_0⟩ := Kd.at_int (Kd.R_reads' HO_11.out).2.2 x18_5 p398 q398
                 cases e398
                 replace p398 := eq_true p398
                 replace q398 := eq_true q398
                 have p111 : 0 ≤ (x18_5 : Int) := of_decide_eq_true (au8)
                 have q111 : (x18_5 : Int) < ((x11_5.length : Int) : Int) := of_decide_eq_true (au8)
                 obtain ⟨go111, co111, eo111, gb111, gl111, cl111, HG111⟩ := Kd.R_form HO_11.out (by omega)
                 (first | cases eo111 | (injection eo111 with ea_ en_ ec_; (first | subst ea_ | (injection ea_ with ea_; subst ea_)); subst ec_; clear en_))
                 have GB111 := Aside0.mk gb111
                 have GG111 := Aside0.mk HG111
                 clear gb111 gl111 HG111
                 (first | simp only [add_plain] at hx398_0 | skip)
                 obtain ⟨hx111_0, hf111_0⟩ := Kd.R_celln 0 HO_11.out (x18_5 : Int) p111 q111
                 replace p111 := eq_true p111
                 replace q111 := eq_true q111
                 have HP113 := Kd.R_putg HO_11.out (x18_5 : Int) (((rd x11_5 x18_5) + 1) % 256)
                 go_wp2_with (first | ((with_reducible refine gate_store (t := 5) (p := 135) rfl ?_); refine store_event (t := 5) (p := 135) (v := ?vo_w114) (w1 := (wr.setCell ⟨go111, (x18_5 : Int).toNat, none⟩ (.int .u8 (((rd x11_5 x18_5) + 1) % 256)))) ?hg ?ho ?hn ?hr ?_; (case ho => rfl); (case hg => rfl); (case hn => rfl); (case hr => first | (go_simp; done) | (go_simp; rfl)); intro w114 hw; have hg : wr.grownBy w114 (some go111) := (by rw [hw]; exact HP113.2); have hp_ : Kd.R (Kd.int .u8) 5 w114 w.heap.size (fun k_ => some k_ ≠ (v366 : Value).ownBlock ∧ some k_ ≠ (v382 : Value).ownBlock ∧ some k_ ≠ (.slice Ao73 x365000_3.length co73 : Value).ownBlock ∧ some k_ ≠ (.slice Ao74 x365001_3.length co74 : Value).ownBlock) (.slice (some ⟨go111, 0, none⟩) x11_5.length co112) y399 := (by rw [hw, Ny399.out]; exact HP113.1); clear HP113; have n0_ := Aside0.mk (Kd.R_after (v := (.slice (some ⟨go111, 0, none⟩) x11_5.length co112)) (v1 := (.slice (some ⟨go111, 0, none⟩) x11_5.length co112)) (ok := (fun k_ => some k_ ≠ (v382 : Value).ownBlock ∧ some k_ ≠ (.slice Ao73 x365000_3.length co73 : Value).ownBlock ∧ some k_ ≠ (.slice Ao74 x365001_3.length co74 : Value).ownBlock)) (by (with_reducible repeat (first | apply Kd.R_alloc | apply Kd.R_drewN | apply Kd.R_drew)); exact Kd.R_mono HO_8.out (fun _ hk => ⟨⟨hk.2.1, ⟨hk.2.2.1, hk.2.2.2⟩⟩, hk.1⟩)) hg (.inl rfl)); have n1_ := Aside0.mk (hp_); have n2_ := Aside0.mk (Kd.R_after (v := (.slice (some ⟨go111, 0, none⟩) x11_5.length co112)) (v1 := (.slice (some ⟨go111, 0, none⟩) x11_5.length co112)) (ok := (fun k_ => some k_ ≠ (v366 : Value).ownBlock ∧ some k_ ≠ (.slice Ao73 x365000_3.length co73 : Value).ownBlock ∧ some k_ ≠ (.slice Ao74 x365001_3.length co74 : Value).ownBlock)) (by (with_reducible repeat (first | apply Kd.R_alloc | apply Kd.R_drewN | apply Kd.R_drew)); exact Kd.R_mono HO_13.out (fun _ hk => ⟨⟨hk.1, ⟨hk.2.2.1, hk.2.2.2⟩⟩, hk.2.1⟩)) hg (.inl rfl)); have n3_ := Aside0.mk (Kd.R_over' (v := (.slice (some ⟨go111, 0, none⟩) x11_5.length co112)) (au67) (Kd.R_typed HO_11.out) (by decide) hg); have n4_ := Aside0.mk (Kd.R_after (v := (.slice (some ⟨go111, 0, none⟩) x11_5.length co112)) (v1 := (.slice (some ⟨go111, 0, none⟩) x11_5.length co112)) (ok := (fun k_ => some k_ ≠ (v366 : Value).ownBlock ∧ some k_ ≠ (v382 : Value).ownBlock ∧ some k_ ≠ (.slice Ao74 x365001_3.length co74 : Value).ownBlock)) (by (with_reducible repeat (first | apply Kd.R_alloc | apply Kd.R_drewN | apply Kd.R_drew)); exact Kd.R_mono HO_365000.out (fun _ hk => ⟨⟨hk.1, ⟨hk.2.2.1, hk.2.2.2⟩⟩, hk.2.1⟩)) hg (.inl rfl)); have n5_ := Aside0.mk (Kd.R_after (v := (.slice (some ⟨go111, 0, none⟩) x11_5.length co112)) (v1 := (.slice (some ⟨go111, 0, none⟩) x11_5.length co112)) (ok := (fun k_ => some k_ ≠ (v366 : Value).ownBlock ∧ some k_ ≠ (v382 : Value).ownBlock ∧ some k_ ≠ (.slice Ao73 x365000_3.length co73 : Value).ownBlock)) (by (with_reducible repeat (first | apply Kd.R_alloc | apply Kd.R_drewN | apply Kd.R_drew)); exact Kd.R_mono HO_365001.out (fun _ hk => ⟨⟨hk.1, ⟨hk.2.2.1, hk.2.2.2⟩⟩, hk.2.1⟩)) hg (.inl rfl)); have n6_ := Aside0.mk (Kd.V_afterv (v := (.slice (some ⟨go111, 0, none⟩) x11_5.length co112)) (v1 := (.slice (some ⟨go111, 0, none⟩) x11_5.length co112)) (ok := (fun k_ => some k_ ≠ (v366 : Value).ownBlock ∧ some k_ ≠ (v382 : Value).ownBlock ∧ some k_ ≠ (v385 : Value).ownBlock ∧ some k_ ≠ (.slice Ao73 x365000_3.length co73 : Value).ownBlock ∧ some k_ ≠ (.slice Ao74 x365001_3.length co74 : Value).ownBlock ∧ k_ ≠ gb346 ∧ k_ ≠ gb347 ∧ k_ ≠ gb364)) (by (with_reducible repeat (first | apply Kd.V_alloc | apply Kd.V_drewN | apply Kd.V_drew)); exact Kd.V_mono HO_365007.out (fun _ hk => ⟨⟨hk.1, ⟨hk.2.2.1, ⟨hk.2.2.2.1, ⟨hk.2.2.2.2.1, ⟨hk.2.2.2.2.2.1, ⟨hk.2.2.2.2.2.2.1, ⟨hk.2.2.2.2.2.2.2.1, hk.2.2.2.2.2.2.2.2⟩⟩⟩⟩⟩⟩⟩, hk.2.1⟩)) hg (.inl rfl)); have n7_ := Aside0.mk (blk_grown (g := gb346) (o := .cells #[.slice A0_0 l0_0.length c0_0, .slice A0_1 l0_1.length c0_1, .int .u8 a0_2, .bool a0_3, .int .i64 a0_4, .int .i64 a0_5, .int .i64 a0_6, .slice A0_7 l0_7.length c0_7] 25 (0, 0)) (au9) hg (Kd.R_ne HO_11.out BK346.out (by decide))); have n8_ := Aside0.mk (blk_grown (g := gb347) (o := .cells #[.slice A1_0 l1_0.length c1_0, .slice A1_1 l1_1.length c1_1, .int .u8 a1_2, .bool a1_3, .int .i64 a1_4, .int .i64 a1_5, .int .i64 a1_6, .slice A1_7 l1_7.length c1_7] 25 (0, 0)) (au12) hg (Kd.R_ne HO_11.out BK347.out (by decide))); have n9_ := Aside0.mk (blk_grown (g := gb364) (o := .cells #[.slice Ao73 x365000_3.length co73, .slice Ao74 x365001_3.length co74, .int .u8 t356, .bool t357, .int .i64 t358, .int .i64 t359, .int .i64 t360, .slice Ao37 t361.length co37] 25 (0, 0)) (au23) hg (Kd.R_ne HO_11.out BK364.out (by decide))); have n10_ := Aside0.mk ((by rw [hw]; exact below_set (HB.out) GB111.out : Below w.heap.size w w114)); clear HO_8; clear HO_11; clear HO_13; clear HO_14; clear HO_365000; clear HO_365001; clear HO_365007; clear BK346; clear BK347; clear BK364; clear HB; have HO_8 := n0_; have HO_11 := n1_; have HO_13 := n2_; have HO_14 := n3_; have HO_365000 := n4_; have HO_365001 := n5_; have HO_365007 := n6_; have BK346 := n7_; have BK347 := n8_; have BK364 := n9_; have HB := n10_; clear n0_ n1_ n2_ n3_ n4_ n5_ n6_ n7_ n8_ n9_ n10_; clear hg hw hp_))
                 go_roundg k5
                 case measure => have := HJ3.out; have := HJ26.out; have := HK3.out; have := HJ68.out; have := HK5.out; omega
                 case rel => exact ⟨(y399), (wrap64 (x18_5 + 1)), (au19), H', ⟨by have := HJ3.out; have := HJ26.out; have := HK3.out; have := HJ68.out; have := HK5.out; omega⟩, ⟨by (with_reducible repeat (first | apply Kd.R_alloc | apply Kd.R_drewN | apply Kd.R_drew)); exact Kd.R_mono HO_8.out (fun _ hk => ⟨hk.2, ⟨hk.1.1, ⟨hk.1.2.1, hk.1.2.2⟩⟩⟩)⟩, ⟨by (with_reducible repeat (first | apply Kd.R_alloc | apply Kd.R_drewN | apply Kd.R_drew)); exact HO_11.out⟩, ⟨by (with_reducible repeat (first | apply Kd.R_alloc | apply Kd.R_drewN | apply Kd.R_drew)); exact Kd.R_mono HO_13.out (fun _ hk => ⟨hk.1.1, ⟨hk.2, ⟨hk.1.2.1, hk.1.2.2⟩⟩⟩)⟩, ⟨au67⟩, ⟨by (with_reducible repeat (first | apply Kd.R_alloc | apply Kd.R_drewN | apply Kd.R_drew)); exact Kd.R_mono HO_365000.out (fun _ hk => ⟨hk.1.1, ⟨hk.2, ⟨hk.1.2.1, hk.1.2.2⟩⟩⟩)⟩, ⟨by (with_reducible repeat (first | apply Kd.R_alloc | apply Kd.R_drewN | apply Kd.R_drew)); exact Kd.R_mono HO_365001.out (fun _ hk => ⟨hk.1.1, ⟨hk.2, ⟨hk.1.2.1, hk.1.2.2⟩⟩⟩)⟩, ⟨by (with_reducible repeat (first | apply Kd.V_alloc | apply Kd.V_drewN | apply Kd.V_drew)); exact Kd.V_mono HO_365007.out (fun _ hk => ⟨hk.1.1, ⟨hk.2, ⟨hk.1.2.1, ⟨hk.1.2.2.1, ⟨hk.1.2.2.2.1, ⟨hk.1.2.2.2.2.1, ⟨hk.1.2.2.2.2.2.1, ⟨hk.1.2.2.2.2.2.2.1, hk.1.2.2.2.2.2.2.2⟩⟩⟩⟩⟩⟩⟩⟩)⟩, ⟨au9⟩, ⟨au12⟩, ⟨au23⟩, ⟨au4⟩⟩
                ·
                 rw [if_neg c110] at H
                 exact absurd H (by simp)
               ·
                rw [if_neg c109] at H
                have c109b0 : decide (x18_5 < (x11_5.length : Int)) = false := decide_eq_false c109
                clear c109
                have H' := Aside0.mk H
                clear H
                obtain ⟨Ao115, co115, eo115⟩ := Kd.R_slice HO_11.out
                subst eo115
                go_wp2
                go_loopg [19] k5 (fun kq v19 w' => ∃ (x13_6 : List Int) (x19_6 : Int), v19 = .int .i64 x19_6 ∧ Aside0 (capstanlaw07_MethodTells.l2 kq x8_3 t368 x10_3 x13_6 t384 x19_6 l0_0 l0_1 a0_2 a0_3 a0_4 a0_5 a0_6 l0_7 x365000_3 x365001_3 t356 t357 t358 t359 t360 t361 = some r) ∧ Aside0 (kq ≤ k5) ∧ Aside0 (Kd.R (Kd.int .u8) 5 w' w.heap.size (fun k_ => some k_ ≠ (v382 : Value).ownBlock ∧ some k_ ≠ ((.slice Ao73 x365000_3.length co73) : Value).ownBlock ∧ some k_ ≠ ((.slice Ao74 x365001_3.length co74) : Value).ownBlock) v366 x8_3) ∧ Aside0 (Kd.R (Kd.int .u8) 5 w' w.heap.size (fun k_ => some k_ ≠ (v366 : Value).ownBlock ∧ some k_ ≠ ((.slice Ao73 x365000_3.length co73) : Value).ownBlock ∧ some k_ ≠ ((.slice Ao74 x365001_3.length co74) : Value).ownBlock) v382 x13_6) ∧ Aside0 (Kd.R k35 35 w' w.heap.size (fun _ => True) v385 t384) ∧ Aside0 (Kd.R (Kd.int .u8) 5 w' w.heap.size (fun k_ => some k_ ≠ (v366 : Value).ownBlock ∧ some k_ ≠ (v382 : Value).ownBlock ∧ some k_ ≠ ((.slice Ao74 x365001_3.length co74) : Value).ownBlock) (.slice Ao73 x365000_3.length co73) x365000_3) ∧ Aside0 (Kd.R (Kd.int .u8) 5 w' w.heap.size (fun k_ => some k_ ≠ (v366 : Value).ownBlock ∧ some k_ ≠ (v382 : Value).ownBlock ∧ some k_ ≠ ((.slice Ao73 x365000_3.length co73) : Value).ownBlock) (.slice Ao74 x365001_3.length co74) x365001_3) ∧ Aside0 (Kd.V k130 130 w' w.heap.size (fun k_ => some k_ ≠ (v366 : Value).ownBlock ∧ some k_ ≠ (v382 : Value).ownBlock ∧ some k_ ≠ (v385 : Value).ownBlock ∧ some k_ ≠ ((.slice Ao73 x365000_3.length co73) : Value).ownBlock ∧ some k_ ≠ ((.slice Ao74 x365001_3.length co74) : Value).ownBlock ∧ k_ ≠ gb346 ∧ k_ ≠ gb347 ∧ k_ ≠ gb364) (.slice Ao37 t361.length co37) t361) ∧ Aside0 (w'.heap[gb346]? = some (.cells #[(.slice A0_0 l0_0.length c0_0), (.slice A0_1 l0_1.length c0_1), .int .u8 a0_2, .bool a0_3, .int .i64 a0_4, .int .i64 a0_5, .int .i64 a0_6, (.slice A0_7 l0_7.length c0_7)] 25 (0, 0))) ∧ Aside0 (w'.heap[gb347]? = some (.cells #[(.slice A1_0 l1_0.length c1_0), (.slice A1_1 l1_1.length c1_1), .int .u8 a1_2, .bool a1_3, .int .i64 a1_4, .int .i64 a1_5, .int .i64 a1_6, (.slice A1_7 l1_7.length c1_7)] 25 (0, 0))) ∧ Aside0 (w'.heap[gb364]? = some (.cells #[(.slice Ao73 x365000_3.length co73), (.slice Ao74 x365001_3.length co74), .int .u8 t356, .bool t357, .int .i64 t358, .int .i64 t359, .int .i64 t360, (.slice Ao37 t361.length co37)] 25 (0, 0))) ∧ Aside0 (Below w.heap.size w w'))
                case atStart => exact ⟨(t381), (0), (au19), H', ⟨Nat.le_refl _⟩, ⟨by (with_reducible repeat (first | apply Kd.R_alloc | apply Kd.R_drewN | apply Kd.R_drew)); exact Kd.R_mono HO_8.out (fun _ hk => ⟨hk.2.1, ⟨hk.2.2.1, hk.2.2.2⟩⟩)⟩, ⟨by (with_reducible repeat (first | apply Kd.R_alloc | apply Kd.R_drewN | apply Kd.R_drew)); exact Kd.R_mono HO_13.out (fun _ hk => ⟨hk.1, ⟨hk.2.2.1, hk.2.2.2⟩⟩)⟩, ⟨au67⟩, ⟨by (with_reducible repeat (first | apply Kd.R_alloc | apply Kd.R_drewN | apply Kd.R_drew)); exact Kd.R_mono HO_365000.out (fun _ hk => ⟨hk.1, ⟨hk.2.2.1, hk.2.2.2⟩⟩)⟩, ⟨by (with_reducible repeat (first | apply Kd.R_alloc | apply Kd.R_drewN | apply Kd.R_drew)); exact Kd.R_mono HO_365001.out (fun _ hk => ⟨hk.1, ⟨hk.2.2.1, hk.2.2.2⟩⟩)⟩, ⟨by (with_reducible repeat (first | apply Kd.V_alloc | apply Kd.V_drewN | apply Kd.V_drew)); exact Kd.V_mono HO_365007.out (fun _ hk => ⟨hk.1, ⟨hk.2.2.1, ⟨hk.2.2.2.1, ⟨hk.2.2.2.2.1, ⟨hk.2.2.2.2.2.1, ⟨hk.2.2.2.2.2.2.1, ⟨hk.2.2.2.2.2.2.2.1, hk.2.2.2.2.2.2.2.2⟩⟩⟩⟩⟩⟩⟩)⟩, ⟨au9⟩, ⟨au12⟩, ⟨au23⟩, ⟨au4⟩⟩
                case round =>
                 clear H'
                 try clear c1
                 try clear p1
                 try clear q1
                 try clear hx1
                 try clear c2
                 try clear p2
                 try clear c3
                 try clear p3
                 try clear q3
                 try clear hx3
                 try clear c6
                 try clear p6
                 try clear c7
                 try clear c8
                 try clear c9
                 try clear hcv9
                 try clear c10
                 try clear c11
                 try clear p11
                 try clear q11
                 try clear hx11
                 try clear hf11
                 try clear c25
                 try clear c26
                 try clear c27
                 try clear c28
                 try clear c29
                 try clear c30
                 try clear c31
                 try clear c32
                 try clear c33
                 try clear c34
                 try clear c35
                 try clear p39
                 try clear q39
                 try clear hx39
                 try clear c63
                 try clear c64
                 try clear c64b0
                 try clear p64
                 try clear c70
                 try clear c71
                 try clear c80
                 try clear c83
                 try clear c83b0
                 try clear c83b1
                 try clear c84
                 try clear c84b0
                 try clear c84b1
                 try clear c87
                 try clear c89
                 try clear c90
                 try clear c90b0
                 try clear c90b1
                 try clear c90b2
                 try clear hcv92
                 try clear hcv93
                 try clear hcv94
                 try clear hcv95
                 try clear c96
                 try clear c97
                 try clear c104
                 try clear c108
                 try clear c109
                 try clear c109b0
                 try clear c110
                 try clear c110b0
                 try clear p111
                 try clear q111
                 try clear hx111
                 try clear hf111
                 try clear hcz105_0
                 try clear hcz105_1
                 try clear hcz105_2
                 try clear hcz105_3
                 try clear hcz105_4
                 try clear hcz105_5
                 try clear hcz105_6
                 try clear hcz105_7
                 try clear hcz106_0
                 try clear hcz106_1
                 try clear hcz106_2
                 try clear hcz106_3
                 try clear hcz106_4
                 try clear hcz106_5
                 try clear hcz106_6
                 try clear hcz106_7
                 try clear hcz72_0
                 try clear hcz72_1
                 try clear hcz72_2
                 try clear hcz72_3
                 try clear hcz72_4
                 try clear hcz72_5
                 try clear hcz72_6
                 try clear hcz72_7
                 try clear hcz76_0
                 try clear hcz76_1
                 try clear hcz76_2
                 try clear hcz76_3
                 try clear hcz76_4
                 try clear hcz76_5
                 try clear hcz76_6
                 try clear hcz76_7
                 try clear hcz78_0
                 try clear hcz78_1
                 try clear hcz78_2
                 try clear hcz78_3
                 try clear hcz78_4
                 try clear hcz78_5
                 try clear hcz78_6
                 try clear hcz78_7
                 try clear hcz81_0
                 try clear hcz81_1
                 try clear hcz81_2
                 try clear hcz81_3
                 try clear hcz81_4
                 try clear hcz81_5
                 try clear hcz81_6
                 try clear hcz81_7
                 try clear hcz98_0
                 try clear hcz98_1
                 try clear hcz98_2
                 try clear hcz98_3
                 try clear hcz98_4
                 try clear hcz98_5
                 try clear hcz98_6
                 try clear hcz98_7
                 try clear hfz105_0
                 try clear hfz105_1
                 try clear hfz105_2
                 try clear hfz105_3
                 try clear hfz105_4
                 try clear hfz105_5
                 try clear hfz105_6
                 try clear hfz105_7
                 try clear hfz106_0
                 try clear hfz106_1
                 try clear hfz106_2
                 try clear hfz106_3
                 try clear hfz106_4
                 try clear hfz106_5
                 try clear hfz106_6
                 try clear hfz106_7
                 try clear hfz72_0
                 try clear hfz72_1
                 try clear hfz72_2
                 try clear hfz72_3
                 try clear hfz72_4
                 try clear hfz72_5
                 try clear hfz72_6
                 try clear hfz72_7
                 try clear hfz76_0
                 try clear hfz76_1
                 try clear hfz76_2
                 try clear hfz76_3
                 try clear hfz76_4
                 try clear hfz76_5
                 try clear hfz76_6
                 try clear hfz76_7
                 try clear hfz78_0
                 try clear hfz78_1
                 try clear hfz78_2
                 try clear hfz78_3
                 try clear hfz78_4
                 try clear hfz78_5
                 try clear hfz78_6
                 try clear hfz78_7
                 try clear hfz81_0
                 try clear hfz81_1
                 try clear hfz81_2
                 try clear hfz81_3
                 try clear hfz81_4
                 try clear hfz81_5
                 try clear hfz81_6
                 try clear hfz81_7
                 try clear hfz98_0
                 try clear hfz98_1
                 try clear hfz98_2
                 try clear hfz98_3
                 try clear hfz98_4
                 try clear hfz98_5
                 try clear hfz98_6
                 try clear hfz98_7
                 try clear hx111_0
                 try clear hx398_0
                 try clear p111
                 try clear p2
                 try clear p398
                 try clear q111
                 try clear q398
                 obtain ⟨x13_6, x19_6, rfl, HA, HK6, HO_8, HO_13, HO_14, HO_365000, HO_365001, HO_365007, BK346, BK347, BK364, HB⟩ := hrel
                 cases gk with
                 | zero => exact absurd HA.out (by simp [capstanlaw07_MethodTells.l2])
                 | succ k6 =>
                  have H := HA.out
                  clear HA
                  simp only [capstanlaw07_MethodTells.l2] at H
                  by_cases c116 : x19_6 < (x13_6.length : Int)
                  ·
                   rw [if_pos c116] at H
                   have c116b0 : decide (x19_6 < (x13_6.length : Int)) = true := decide_eq_true c116
                   clear c116
                   by_cases c117 : 0 ≤ x19_6
                   ·
                    rw [if_pos c117] at H
                    have c117b0 : decide (0 ≤ x19_6) = true := decide_eq_true c117
                    clear c117
                    obtain ⟨y400, hy400⟩ : ∃ y_ : List Int, y_ = (x13_6.set (x19_6 : Int).toNat 77) := ⟨_, rfl⟩
                    replace H : (capstanlaw07_MethodTells.l2 k6 x8_3 t368 x10_3 y400 t384 (wrap64 (x19_6 + 1)) l0_0 l0_1 a0_2 a0_3 a0_4 a0_5 a0_6 l0_7 x365000_3 x365001_3 t356 t357 t358 t359 t360 t361) = some r := by first | (rw [hy400]; with_reducible exact H) | (have H2_ := (Option.bind_some _ _).symm.trans H; rw [hy400]; with_reducible exact H2_) | (have H2_ := (Option.bind_some _ _).symm.trans H; with_reducible exact H2_) | with_reducible exact H | (rw [hy400]; exact H) | exact H
                    have Ny400 := Aside0.mk hy400
                    clear hy400
                    have H' := Aside0.mk H
                    clear H
                    obtain ⟨Ao119, co119, eo119⟩ := Kd.R_slice HO_13.out
                    subst eo119
                    have p118 : 0 ≤ (x19_6 : Int) := of_decide_eq_true (au8)
                    have q118 : (x19_6 : Int) < ((x13_6.length : Int) : Int) := of_decide_eq_true (au8)
                    obtain ⟨go118, co118, eo118, gb118, gl118, cl118, HG118⟩ := Kd.R_form HO_13.out (by omega)
                    (first | cases eo118 | (injection eo118 with ea_ en_ ec_; (first | subst ea_ | (injection ea_ with ea_; subst ea_)); subst ec_; clear en_))
                    have GB118 := Aside0.mk gb118
                    have GG118 := Aside0.mk HG118
                    clear gb118 gl118 HG118
                    obtain ⟨hx118_0, hf118_0⟩ := Kd.R_celln 0 HO_13.out (x19_6 : Int) p118 q118
                    replace p118 := eq_true p118
                    replace q118 := eq_true q118
                    have HP120 := Kd.R_putg HO_13.out (x19_6 : Int) 77
                    go_wp2_with (first | ((with_reducible refine gate_store (t := 5) (p := 144) rfl ?_); refine store_event (t := 5) (p := 144) (v := ?vo_w121) (w1 := (wr.setCell ⟨go118, (x19_6 : Int).toNat, none⟩ (.int .u8 77))) ?hg ?ho ?hn ?hr ?_; (case ho => rfl); (case hg => rfl); (case hn => rfl); (case hr => first | (go_simp; done) | (go_simp; rfl)); intro w121 hw; have hg : wr.grownBy w121 (some go118) := (by rw [hw]; exact HP120.2); have hp_ : Kd.R (Kd.int .u8) 5 w121 w.heap.size (fun k_ => some k_ ≠ (v366 : Value).ownBlock ∧ some k_ ≠ (.slice Ao73 x365000_3.length co73 : Value).ownBlock ∧ some k_ ≠ (.slice Ao74 x365001_3.length co74 : Value).ownBlock) (.slice (some ⟨go118, 0, none⟩) x13_6.length co119) y400 := (by rw [hw, Ny400.out]; exact HP120.1); clear HP120; have n0_ := Aside0.mk (Kd.R_after (v := (.slice (some ⟨go118, 0, none⟩) x13_6.length co119)) (v1 := (.slice (some ⟨go118, 0, none⟩) x13_6.length co119)) (ok := (fun k_ => some k_ ≠ (.slice Ao73 x365000_3.length co73 : Value).ownBlock ∧ some k_ ≠ (.slice Ao74 x365001_3.length co74 : Value).ownBlock)) (by (with_reducible repeat (first | apply Kd.R_alloc | apply Kd.R_drewN | apply Kd.R_drew)); exact Kd.R_mono HO_8.out (fun _ hk => ⟨⟨hk.2.1, hk.2.2⟩, hk.1⟩)) hg (.inl rfl)); have n1_ := Aside0.mk (hp_); have n2_ := Aside0.mk (Kd.R_over' (v := (.slice (some ⟨go118, 0, none⟩) x13_6.length co119)) (au67) (Kd.R_typed HO_13.out) (by decide) hg); have n3_ := Aside0.mk (Kd.R_after (v := (.slice (some ⟨go118, 0, none⟩) x13_6.length co119)) (v1 := (.slice (some ⟨go118, 0, none⟩) x13_6.length co119)) (ok := (fun k_ => some k_ ≠ (v366 : Value).ownBlock ∧ some k_ ≠ (.slice Ao74 x365001_3.length co74 : Value).ownBlock)) (by (with_reducible repeat (first | apply Kd.R_alloc | apply Kd.R_drewN | apply Kd.R_drew)); exact Kd.R_mono HO_365000.out (fun _ hk => ⟨⟨hk.1, hk.2.2⟩, hk.2.1⟩)) hg (.inl rfl)); have n4_ := Aside0.mk (Kd.R_after (v := (.slice (some ⟨go118, 0, none⟩) x13_6.length co119)) (v1 := (.slice (some ⟨go118, 0, none⟩) x13_6.length co119)) (ok := (fun k_ => some k_ ≠ (v366 : Value).ownBlock ∧ some k_ ≠ (.slice Ao73 x365000_3.length co73 : Value).ownBlock)) (by (with_reducible repeat (first | apply Kd.R_alloc | apply Kd.R_drewN | apply Kd.R_drew)); exact Kd.R_mono HO_365001.out (fun _ hk => ⟨⟨hk.1, hk.2.2⟩, hk.2.1⟩)) hg (.inl rfl)); have n5_ := Aside0.mk (Kd.V_afterv (v := (.slice (some ⟨go118, 0, none⟩) x13_6.length co119)) (v1 := (.slice (some ⟨go118, 0, none⟩) x13_6.length co119)) (ok := (fun k_ => some k_ ≠ (v366 : Value).ownBlock ∧ some k_ ≠ (v385 : Value).ownBlock ∧ some k_ ≠ (.slice Ao73 x365000_3.length co73 : Value).ownBlock ∧ some k_ ≠ (.slice Ao74 x365001_3.length co74 : Value).ownBlock ∧ k_ ≠ gb346 ∧ k_ ≠ gb347 ∧ k_ ≠ gb364)) (by (with_reducible repeat (first | apply Kd.V_alloc | apply Kd.V_drewN | apply Kd.V_drew)); exact Kd.V_mono HO_365007.out (fun _ hk => ⟨⟨hk.1, ⟨hk.2.2.1, ⟨hk.2.2.2.1, ⟨hk.2.2.2.2.1, ⟨hk.2.2.2.2.2.1, ⟨hk.2.2.2.2.2.2.1, hk.2.2.2.2.2.2.2⟩⟩⟩⟩⟩⟩, hk.2.1⟩)) hg (.inl rfl)); have n6_ := Aside0.mk (blk_grown (g := gb346) (o := .cells #[.slice A0_0 l0_0.length c0_0, .slice A0_1 l0_1.length c0_1, .int .u8 a0_2, .bool a0_3, .int .i64 a0_4, .int .i64 a0_5, .int .i64 a0_6, .slice A0_7 l0_7.length c0_7] 25 (0, 0)) (au9) hg (Kd.R_ne HO_13.out BK346.out (by decide))); have n7_ := Aside0.mk (blk_grown (g := gb347) (o := .cells #[.slice A1_0 l1_0.length c1_0, .slice A1_1 l1_1.length c1_1, .int .u8 a1_2, .bool a1_3, .int .i64 a1_4, .int .i64 a1_5, .int .i64 a1_6, .slice A1_7 l1_7.length c1_7] 25 (0, 0)) (au12) hg (Kd.R_ne HO_13.out BK347.out (by decide))); have n8_ := Aside0.mk (blk_grown (g := gb364) (o := .cells #[.slice Ao73 x365000_3.length co73, .slice Ao74 x365001_3.length co74, .int .u8 t356, .bool t357, .int .i64 t358, .int .i64 t359, .int .i64 t360, .slice Ao37 t361.length co37] 25 (0, 0)) (au23) hg (Kd.R_ne HO_13.out BK364.out (by decide))); have n9_ := Aside0.mk ((by rw [hw]; exact below_set (HB.out) GB118.out : Below w.heap.size w w121)); clear HO_8; clear HO_13; clear HO_14; clear HO_365000; clear HO_365001; clear HO_365007; clear BK346; clear BK347; clear BK364; clear HB; have HO_8 := n0_; have HO_13 := n1_; have HO_14 := n2_; have HO_365000 := n3_; have HO_365001 := n4_; have HO_365007 := n5_; have BK346 := n6_; have BK347 := n7_; have BK364 := n8_; have HB := n9_; clear n0_ n1_ n2_ n3_ n4_ n5_ n6_ n7_ n8_ n9_; clear hg hw hp_))
                    go_roundg k6
                    case measure => have := HJ3.out; have := HJ26.out; have := HK3.out; have := HJ68.out; have := HK5.out; have := HK6.out; omega
                    case rel => exact ⟨(y400), (wrap64 (x19_6 + 1)), (au19), H', ⟨by have := HJ3.out; have := HJ26.out; have := HK3.out; have := HJ68.out; have := HK5.out; have := HK6.out; omega⟩, ⟨by (with_reducible repeat (first | apply Kd.R_alloc | apply Kd.R_drewN | apply Kd.R_drew)); exact Kd.R_mono HO_8.out (fun _ hk => ⟨hk.2, ⟨hk.1.1, hk.1.2⟩⟩)⟩, ⟨by (with_reducible repeat (first | apply Kd.R_alloc | apply Kd.R_drewN | apply Kd.R_drew)); exact HO_13.out⟩, ⟨au67⟩, ⟨by (with_reducible repeat (first | apply Kd.R_alloc | apply Kd.R_drewN | apply Kd.R_drew)); exact Kd.R_mono HO_365000.out (fun _ hk => ⟨hk.1.1, ⟨hk.2, hk.1.2⟩⟩)⟩, ⟨by (with_reducible repeat (first | apply Kd.R_alloc | apply Kd.R_drewN | apply Kd.R_drew)); exact Kd.R_mono HO_365001.out (fun _ hk => ⟨hk.1.1, ⟨hk.2, hk.1.2⟩⟩)⟩, ⟨by (with_reducible repeat (first | apply Kd.V_alloc | apply Kd.V_drewN | apply Kd.V_drew)); exact Kd.V_mono HO_365007.out (fun _ hk => ⟨hk.1.1, ⟨hk.2, ⟨hk.1.2.1, ⟨hk.1.2.2.1, ⟨hk.1.2.2.2.1, ⟨hk.1.2.2.2.2.1, ⟨hk.1.2.2.2.2.2.1, hk.1.2.2.2.2.2.2⟩⟩⟩⟩⟩⟩⟩)⟩, ⟨au9⟩, ⟨au12⟩, ⟨au23⟩, ⟨au4⟩⟩
                   ·
                    rw [if_neg c117] at H
                    exact absurd H (by simp)
                  ·
                   rw [if_neg c116] at H
                   have c116b0 : decide (x19_6 < (x13_6.length : Int)) = false := decide_eq_false c116
                   clear c116
                   have H' := Aside0.mk H
                   clear H
                   obtain ⟨Ao122, co122, eo122⟩ := Kd.R_slice HO_13.out
                   subst eo122
                   go_wp2
                   go_loopg [20] k6 (fun kq v20 w' => ∃ (x14_7 : List (S35)) (x20_7 : Int), v20 = .int .i64 x20_7 ∧ Aside0 (capstanlaw07_MethodTells.l3 kq x8_3 t368 x10_3 x14_7 x20_7 l0_0 l0_1 a0_2 a0_3 a0_4 a0_5 a0_6 l0_7 x365000_3 x365001_3 t356 t357 t358 t359 t360 t361 = some r) ∧ Aside0 (kq ≤ k6) ∧ Aside0 (Kd.R (Kd.int .u8) 5 w' w.heap.size (fun k_ => some k_ ≠ ((.slice Ao73 x365000_3.length co73) : Value).ownBlock ∧ some k_ ≠ ((.slice Ao74 x365001_3.length co74) : Value).ownBlock) v366 x8_3) ∧ Aside0 (Kd.R k35 35 w' w.heap.size (fun _ => True) v385 x14_7) ∧ Aside0 (Kd.R (Kd.int .u8) 5 w' w.heap.size (fun k_ => some k_ ≠ (v366 : Value).ownBlock ∧ some k_ ≠ ((.slice Ao74 x365001_3.length co74) : Value).ownBlock) (.slice Ao73 x365000_3.length co73) x365000_3) ∧ Aside0 (Kd.R (Kd.int .u8) 5 w' w.heap.size (fun k_ => some k_ ≠ (v366 : Value).ownBlock ∧ some k_ ≠ ((.slice Ao73 x365000_3.length co73) : Value).ownBlock) (.slice Ao74 x365001_3.length co74) x365001_3) ∧ Aside0 (Kd.V k130 130 w' w.heap.size (fun k_ => some k_ ≠ (v366 : Value).ownBlock ∧ some k_ ≠ (v385 : Value).ownBlock ∧ some k_ ≠ ((.slice Ao73 x365000_3.length co73) : Value).ownBlock ∧ some k_ ≠ ((.slice Ao74 x365001_3.length co74) : Value).ownBlock ∧ k_ ≠ gb346 ∧ k_ ≠ gb347 ∧ k_ ≠ gb364) (.slice Ao37 t361.length co37) t361) ∧ Aside0 (w'.heap[gb346]? = some (.cells #[(.slice A0_0 l0_0.length c0_0), (.slice A0_1 l0_1.length c0_1), .int .u8 a0_2, .bool a0_3, .int .i64 a0_4, .int .i64 a0_5, .int .i64 a0_6, (.slice A0_7 l0_7.length c0_7)] 25 (0, 0))) ∧ Aside0 (w'.heap[gb347]? = some (.cells #[(.slice A1_0 l1_0.length c1_0), (.slice A1_1 l1_1.length c1_1), .int .u8 a1_2, .bool a1_3, .int .i64 a1_4, .int .i64 a1_5, .int .i64 a1_6, (.slice A1_7 l1_7.length c1_7)] 25 (0, 0))) ∧ Aside0 (w'.heap[gb364]? = some (.cells #[(.slice Ao73 x365000_3.length co73), (.slice Ao74 x365001_3.length co74), .int .u8 t356, .bool t357, .int .i64 t358, .int .i64 t359, .int .i64 t360, (.slice Ao37 t361.length co37)] 25 (0, 0))) ∧ Aside0 (Below w.heap.size w w'))
                   case atStart => exact ⟨(t384), (0), (au19), H', ⟨Nat.le_refl _⟩, ⟨by (with_reducible repeat (first | apply Kd.R_alloc | apply Kd.R_drewN | apply Kd.R_drew)); exact Kd.R_mono HO_8.out (fun _ hk => ⟨hk.2.1, hk.2.2⟩)⟩, ⟨au67⟩, ⟨by (with_reducible repeat (first | apply Kd.R_alloc | apply Kd.R_drewN | apply Kd.R_drew)); exact Kd.R_mono HO_365000.out (fun _ hk => ⟨hk.1, hk.2.2⟩)⟩, ⟨by (with_reducible repeat (first | apply Kd.R_alloc | apply Kd.R_drewN | apply Kd.R_drew)); exact Kd.R_mono HO_365001.out (fun _ hk => ⟨hk.1, hk.2.2⟩)⟩, ⟨by (with_reducible repeat (first | apply Kd.V_alloc | apply Kd.V_drewN | apply Kd.V_drew)); exact Kd.V_mono HO_365007.out (fun _ hk => ⟨hk.1, ⟨hk.2.2.1, ⟨hk.2.2.2.1, ⟨hk.2.2.2.2.1, ⟨hk.2.2.2.2.2.1, ⟨hk.2.2.2.2.2.2.1, hk.2.2.2.2.2.2.2⟩⟩⟩⟩⟩⟩)⟩, ⟨au9⟩, ⟨au12⟩, ⟨au23⟩, ⟨au4⟩⟩
                   case round =>
                    clear H'
                    try clear c1
                    try clear p1
                    try clear q1
                    try clear hx1
                    try clear c2
                    try clear p2
                    try clear c3
                    try clear p3
                    try clear q3
                    try clear hx3
                    try clear c6
                    try clear p6
                    try clear c7
                    try clear c8
                    try clear c9
                    try clear hcv9
                    try clear c10
                    try clear c11
                    try clear p11
                    try clear q11
                    try clear hx11
                    try clear hf11
                    try clear c25
                    try clear c26
                    try clear c27
                    try clear c28
                    try clear c29
                    try clear c30
                    try clear c31
                    try clear c32
                    try clear c33
                    try clear c34
                    try clear c35
                    try clear p39
                    try clear q39
                    try clear hx39
                    try clear c63
                    try clear c64
                    try clear c64b0
                    try clear p64
                    try clear c70
                    try clear c71
                    try clear c80
                    try clear c83
                    try clear c83b0
                    try clear c83b1
                    try clear c84
                    try clear c84b0
                    try clear c84b1
                    try clear c87
                    try clear c89
                    try clear c90
                    try clear c90b0
                    try clear c90b1
                    try clear c90b2
                    try clear hcv92
                    try clear hcv93
                    try clear hcv94
                    try clear hcv95
                    try clear c96
                    try clear c97
                    try clear c104
                    try clear c108
                    try clear c109
                    try clear c109b0
                    try clear c110
                    try clear c110b0
                    try clear p111
                    try clear q111
                    try clear hx111
                    try clear hf111
                    try clear c116
                    try clear c116b0
                    try clear c117
                    try clear c117b0
                    try clear p118
                    try clear q118
                    try clear hx118
                    try clear hf118
                    try clear hcz105_0
                    try clear hcz105_1
                    try clear hcz105_2
                    try clear hcz105_3
                    try clear hcz105_4
                    try clear hcz105_5
                    try clear hcz105_6
                    try clear hcz105_7
                    try clear hcz106_0
                    try clear hcz106_1
                    try clear hcz106_2
                    try clear hcz106_3
                    try clear hcz106_4
                    try clear hcz106_5
                    try clear hcz106_6
                    try clear hcz106_7
                    try clear hcz72_0
                    try clear hcz72_1
                    try clear hcz72_2
                    try clear hcz72_3
                    try clear hcz72_4
                    try clear hcz72_5
                    try clear hcz72_6
                    try clear hcz72_7
                    try clear hcz76_0
                    try clear hcz76_1
                    try clear hcz76_2
                    try clear hcz76_3
                    try clear hcz76_4
                    try clear hcz76_5
                    try clear hcz76_6
                    try clear hcz76_7
                    try clear hcz78_0
                    try clear hcz78_1
                    try clear hcz78_2
                    try clear hcz78_3
                    try clear hcz78_4
                    try clear hcz78_5
                    try clear hcz78_6
                    try clear hcz78_7
                    try clear hcz81_0
                    try clear hcz81_1
                    try clear hcz81_2
                    try clear hcz81_3
                    try clear hcz81_4
                    try clear hcz81_5
                    try clear hcz81_6
                    try clear hcz81_7
                    try clear hcz98_0
                    try clear hcz98_1
                    try clear hcz98_2
                    try clear hcz98_3
                    try clear hcz98_4
                    try clear hcz98_5
                    try clear hcz98_6
                    try clear hcz98_7
                    try clear hfz105_0
                    try clear hfz105_1
                    try clear hfz105_2
                    try clear hfz105_3
                    try clear hfz105_4
                    try clear hfz105_5
                    try clear hfz105_6
                    try clear hfz105_7
                    try clear hfz106_0
                    try clear hfz106_1
                    try clear hfz106_2
                    try clear hfz106_3
                    try clear hfz106_4
                    try clear hfz106_5
                    try clear hfz106_6
                    try clear hfz106_7
                    try clear hfz72_0
                    try clear hfz72_1
                    try clear hfz72_2
                    try clear hfz72_3
                    try clear hfz72_4
                    try clear hfz72_5
                    try clear hfz72_6
                    try clear hfz72_7
                    try clear hfz76_0
                    try clear hfz76_1
                    try clear hfz76_2
                    try clear hfz76_3
                    try clear hfz76_4
                    try clear hfz76_5
                    try clear hfz76_6
                    try clear hfz76_7
                    try clear hfz78_0
                    try clear hfz78_1
                    try clear hfz78_2
                    try clear hfz78_3
                    try clear hfz78_4
                    try clear hfz78_5
                    try clear hfz78_6
                    try clear hfz78_7
                    try clear hfz81_0
                    try clear hfz81_1
                    try clear hfz81_2
                    try clear hfz81_3
                    try clear hfz81_4
                    try clear hfz81_5
                    try clear hfz81_6
                    try clear hfz81_7
                    try clear hfz98_0
                    try clear hfz98_1
                    try clear hfz98_2
                    try clear hfz98_3
                    try clear hfz98_4
                    try clear hfz98_5
                    try clear hfz98_6
                    try clear hfz98_7
                    try clear hx111_0
                    try clear hx118_0
                    try clear hx398_0
                    try clear p1
                    try clear p11
                    try clear p111
                    try clear p118
                    try clear p2
                    try clear p3
                    try clear p39
                    try clear p398
                    try clear p6
                    try clear p64
                    try clear q1
                    try clear q11
                    try clear q111
                    try clear q118
                    try clear q3
                    try clear q39
                    try clear q398
                    obtain ⟨x14_7, x20_7, rfl, HA, HK7, HO_8, HO_14, HO_365000, HO_365001, HO_365007, BK346, BK347, BK364, HB⟩ := hrel
                    cases gk with
                    | zero => exact absurd HA.out (by simp [capstanlaw07_MethodTells.l3])
                    | succ k7 =>
                     have H := HA.out
                     clear HA
                     simp only [capstanlaw07_MethodTells.l3] at H
                     by_cases c123 : x20_7 < (x14_7.length : Int)
                     ·
                      rw [if_pos c123] at H
                      have c123b0 : decide (x20_7 < (x14_7.length : Int)) = true := decide_eq_true c123
                      clear c123
                      by_cases c124 : 0 ≤ x20_7
                      ·
                       rw [if_pos c124] at H
                       have c124b0 : decide (0 ≤ x20_7) = true := decide_eq_true c124
                       clear c124
                       obtain ⟨y401, hy401⟩ : ∃ y_ : List (S35), y_ = (x14_7.set (x20_7 : Int).toNat (⟨77, (rd_T35 x14_7 x20_7).f1, (rd_T35 x14_7 x20_7).f2⟩ : S35)) := ⟨_, rfl⟩
                       replace H : (capstanlaw07_MethodTells.l3 k7 x8_3 t368 x10_3 y401 (wrap64 (x20_7 + 1)) l0_0 l0_1 a0_2 a0_3 a0_4 a0_5 a0_6 l0_7 x365000_3 x365001_3 t356 t357 t358 t359 t360 t361) = some r := by first | (rw [hy401]; with_reducible exact H) | (have H2_ := (Option.bind_some _ _).symm.trans H; rw [hy401]; with_reducible exact H2_) | (have H2_ := (Option.bind_some _ _).symm.trans H; with_reducible exact H2_) | with_reducible exact H | (rw [hy401]; exact H) | exact H
                       have Ny401 := Aside0.mk hy401
                       clear hy401
                       have H' := Aside0.mk H
                       clear H
                       obtain ⟨Ao126, co126, eo126⟩ := Kd.R_slice HO_14.out
                       subst eo126
                       have p125 : 0 ≤ (x20_7 : Int) := of_decide_eq_true (au8)
                       have q125 : (x20_7 : Int) < ((x14_7.length : Int) : Int) := of_decide_eq_true (au8)
                       obtain ⟨go125, co125, eo125, gb125, gl125, cl125, HG125⟩ := Kd.R_form HO_14.out (by omega)
                       (first | cases eo125 | (injection eo125 with ea_ en_ ec_; (first | subst ea_ | (injection ea_ with ea_; subst ea_)); subst ec_; clear en_))
                       have GB125 := Aside0.mk gb125
                       have GG125 := Aside0.mk HG125
                       clear gb125 gl125 HG125
                       obtain ⟨ce125, hcl125, hM125, hcc125, hfr125⟩ := Kd.R_elem HO_14.out z35 (x20_7 : Int) p125 q125
                       obtain rfl := k35_openM hM125
                       have hx125_0 : wr.cell? ⟨go125, (x20_7 : Int).toNat * 3, none⟩ = some (.int .u8 ((rd_T35 x14_7 x20_7).f0)) := hcc125 0 _ rfl
                       have hx125_1 : wr.cell? ⟨go125, (x20_7 : Int).toNat * 3 + 1, none⟩ = some (.int .i64 ((rd_T35 x14_7 x20_7).f1)) := hcc125 1 _ rfl
                       have hx125_2 : wr.cell? ⟨go125, (x20_7 : Int).toNat * 3 + 2, none⟩ = some (.int .i64 ((rd_T35 x14_7 x20_7).f2)) := hcc125 2 _ rfl
                       have hf125_0 : wr.frozen? ⟨go125, (x20_7 : Int).toNat * 3, none⟩ = false := hfr125 0
                       have hf125_1 : wr.frozen? ⟨go125, (x20_7 : Int).toNat * 3 + 1, none⟩ = false := hfr125 1
                       have hf125_2 : wr.frozen? ⟨go125, (x20_7 : Int).toNat * 3 + 2, none⟩ = false := hfr125 2
                       clear hcl125 hcc125 hfr125 hM125
                       replace p125 := eq_true p125
                       replace q125 := eq_true q125
                       have HX127 := Aside0.mk (show Kd.R k35 35 wr w.heap.size (fun _ => True) (.slice (some ⟨go125, 0, none⟩) x14_7.length co126) x14_7 from (au67))
                       obtain ⟨ce127, hcl127, hM127, hcc127, hfr127⟩ := Kd.R_elem HX127.out z35 (x20_7 : Int) (of_decide_eq_true (au8)) (by have h_ : (x20_7 : Int) < ((x14_7.length : Int) : Int) := of_decide_eq_true (au8); first | exact h_ | (have e_ := (Kd.R_reads' HO_14.out).1; omega) | simpa using h_)
                       obtain rfl := k35_openM hM127
                       have HP127 := Kd.R_seg HX127.out (x20_7 : Int) (of_decide_eq_true (au8)) (by have h_ : (x20_7 : Int) < ((x14_7.length : Int) : Int) := of_decide_eq_true (au8); first | exact h_ | (have e_ := (Kd.R_reads' HO_14.out).1; omega) | simpa using h_) (seg := [.int .u8 77]) (j := 0) hcl127 hcc127 (show 1 ≤ 3 from by decide) (x' := (⟨77, (rd_T35 x14_7 x20_7).f1, (rd_T35 x14_7 x20_7).f2⟩ : S35)) (k35_mkM _ _ _ (⟨77, (rd_T35 x14_7 x20_7).f1, (rd_T35 x14_7 x20_7).f2⟩ : S35) ) (fun _ hk => hk)
                       have hx127_0 := hcc127 0 _ rfl
                       (try simp only [show (k35).sz = 3 from rfl, Nat.mul_one, Nat.add_zero] at hx127_0)
                       have hf127_0 := hfr127 0
                       (try simp only [show (k35).sz = 3 from rfl, Nat.mul_one, Nat.add_zero] at hf127_0)
                       clear hcl127 hcc127 hfr127 hM127
                       go_wp2_with (first | ((with_reducible refine gate_store (t := 5) (p := 154) rfl ?_); refine store_event (t := 5) (p := 154) (v := ?vo_w128) (w1 := (wr.setCell ⟨go125, (x20_7 : Int).toNat * 3, none⟩ (.int .u8 77))) ?hg ?ho ?hn ?hr ?_; (case ho => rfl); (case hg => rfl); (case hn => rfl); (case hr => first | (go_simp; done) | (go_simp; rfl)); intro w128 hw; have hg : wr.grownBy w128 (some go125) := (by rw [hw]; exact HP127.2); have hp_ : Kd.R k35 35 w128 w.heap.size (fun _ => True) (.slice (some ⟨go125, 0, none⟩) x14_7.length co126) y401 := (by rw [hw, Ny401.out]; exact HP127.1); clear HP127; have n0_ := Aside0.mk (Kd.R_over' (v := (.slice (some ⟨go125, 0, none⟩) x14_7.length co126)) (au49) (Kd.R_typed HO_14.out) (by decide) hg); have n1_ := Aside0.mk (hp_); have n2_ := Aside0.mk (Kd.R_over' (v := (.slice (some ⟨go125, 0, none⟩) x14_7.length co126)) (au46) (Kd.R_typed HO_14.out) (by decide) hg); have n3_ := Aside0.mk (Kd.R_over' (v := (.slice (some ⟨go125, 0, none⟩) x14_7.length co126)) (au47) (Kd.R_typed HO_14.out) (by decide) hg); have n4_ := Aside0.mk (Kd.V_afterv (v := (.slice (some ⟨go125, 0, none⟩) x14_7.length co126)) (v1 := (.slice (some ⟨go125, 0, none⟩) x14_7.length co126)) (ok := (fun k_ => some k_ ≠ (v366 : Value).ownBlock ∧ some k_ ≠ (.slice Ao73 x365000_3.length co73 : Value).ownBlock ∧ some k_ ≠ (.slice Ao74 x365001_3.length co74 : Value).ownBlock ∧ k_ ≠ gb346 ∧ k_ ≠ gb347 ∧ k_ ≠ gb364)) (by (with_reducible repeat (first | apply Kd.V_alloc | apply Kd.V_drewN | apply Kd.V_drew)); exact Kd.V_mono HO_365007.out (fun _ hk => ⟨⟨hk.1, ⟨hk.2.2.1, ⟨hk.2.2.2.1, ⟨hk.2.2.2.2.1, ⟨hk.2.2.2.2.2.1, hk.2.2.2.2.2.2⟩⟩⟩⟩⟩, hk.2.1⟩)) hg (.inl rfl)); have n5_ := Aside0.mk (blk_grown (g := gb346) (o := .cells #[.slice A0_0 l0_0.length c0_0, .slice A0_1 l0_1.length c0_1, .int .u8 a0_2, .bool a0_3, .int .i64 a0_4, .int .i64 a0_5, .int .i64 a0_6, .slice A0_7 l0_7.length c0_7] 25 (0, 0)) (au9) hg (Kd.R_ne HO_14.out BK346.out (by decide))); have n6_ := Aside0.mk (blk_grown (g := gb347) (o := .cells #[.slice A1_0 l1_0.length c1_0, .slice A1_1 l1_1.length c1_1, .int .u8 a1_2, .bool a1_3, .int .i64 a1_4, .int .i64 a1_5, .int .i64 a1_6, .slice A1_7 l1_7.length c1_7] 25 (0, 0)) (au12) hg (Kd.R_ne HO_14.out BK347.out (by decide))); have n7_ := Aside0.mk (blk_grown (g := gb364) (o := .cells #[.slice Ao73 x365000_3.length co73, .slice Ao74 x365001_3.length co74, .int .u8 t356, .bool t357, .int .i64 t358, .int .i64 t359, .int .i64 t360, .slice Ao37 t361.length co37] 25 (0, 0)) (au23) hg (Kd.R_ne HO_14.out BK364.out (by decide))); have n8_ := Aside0.mk ((by rw [hw]; exact below_set (HB.out) GB125.out : Below w.heap.size w w128)); clear HO_8; clear HO_14; clear HO_365000; clear HO_365001; clear HO_365007; clear BK346; clear BK347; clear BK364; clear HB; have HO_8 := n0_; have HO_14 := n1_; have HO_365000 := n2_; have HO_365001 := n3_; have HO_365007 := n4_; have BK346 := n5_; have BK347 := n6_; have BK364 := n7_; have HB := n8_; clear n0_ n1_ n2_ n3_ n4_ n5_ n6_ n7_ n8_; clear hg hw hp_))
                       go_roundg k7
                       case measure => have := HJ3.out; have := HJ26.out; have := HK3.out; have := HJ68.out; have := HK5.out; have := HK6.out; have := HK7.out; omega
                       case rel => exact ⟨(y401), (wrap64 (x20_7 + 1)), (au19), H', ⟨by have := HJ3.out; have := HJ26.out; have := HK3.out; have := HJ68.out; have := HK5.out; have := HK6.out; have := HK7.out; omega⟩, ⟨au49⟩, ⟨au67⟩, ⟨au46⟩, ⟨au47⟩, ⟨by (with_reducible repeat (first | apply Kd.V_alloc | apply Kd.V_drewN | apply Kd.V_drew)); exact Kd.V_mono HO_365007.out (fun _ hk => ⟨hk.1.1, ⟨hk.2, ⟨hk.1.2.1, ⟨hk.1.2.2.1, ⟨hk.1.2.2.2.1, ⟨hk.1.2.2.2.2.1, hk.1.2.2.2.2.2⟩⟩⟩⟩⟩⟩)⟩, ⟨au9⟩, ⟨au12⟩, ⟨au23⟩, ⟨au4⟩⟩
                      ·
                       rw [if_neg c124] at H
                       exact absurd H (by simp)
                     ·
                      rw [if_neg c123] at H
                      have c123b0 : decide (x20_7 < (x14_7.length : Int)) = false := decide_eq_false c123
                      clear c123
                      have H' := Aside0.mk H
                      clear H
                      obtain ⟨Ao129, co129, eo129⟩ := Kd.R_slice HO_14.out
                      subst eo129
                      go_wp2
                      go_roundg k7
                      case measure => have := HJ3.out; have := HJ26.out; have := HK3.out; have := HJ68.out; have := HK5.out; have := HK6.out; have := HK7.out; omega
                      case rel => exact ⟨(x8_3), (wrap64 (x10_3 + 1)), (x365000_3), (x365001_3), (.slice Ao73 x365000_3.length co73), (.slice Ao74 x365001_3.length co74), (au19), H', ⟨by have := HJ3.out; have := HJ26.out; have := HK3.out; have := HJ68.out; have := HK5.out; have := HK6.out; have := HK7.out; omega⟩, ⟨au49⟩, ⟨au46⟩, ⟨au47⟩, ⟨by (with_reducible repeat (first | apply Kd.V_alloc | apply Kd.V_drewN | apply Kd.V_drew)); exact Kd.V_mono HO_365007.out (fun _ hk => ⟨hk.1, ⟨hk.2.2.1, ⟨hk.2.2.2.1, ⟨hk.2.2.2.2.1, ⟨hk.2.2.2.2.2.1, hk.2.2.2.2.2.2⟩⟩⟩⟩⟩)⟩, ⟨au9⟩, ⟨au12⟩, ⟨au23⟩, ⟨au4⟩⟩
         ·
          rw [if_neg c64] at H
          have c64b0 : decide (x10_3 < 2) = false := decide_eq_false c64
          clear c64
          obtain rfl := Option.some.inj H
          go_wp2
          go_ret
          exact ⟨au5, au4⟩

/-- THE ONE PURE STATEMENT of capstanlaw07_MethodTells: yours. -/
def capstanlaw07_MethodTells.Pure : Prop := ∀ (l0_0 : List Int) (l0_1 : List Int) (a0_2 : Int) (a0_3 : Bool) (a0_4 : Int) (a0_5 : Int) (a0_6 : Int) (l0_7 : List (S130)) (l1_0 : List Int) (l1_1 : List Int) (a1_2 : Int) (a1_3 : Bool) (a1_4 : Int) (a1_5 : Int) (a1_6 : Int) (l1_7 : List (S130)) (l2 : List (S35)), ((l0_0.length ≤ maxLen ∧ ∀ y0_ ∈ l0_0, (Lit.int .u8 y0_).wf = true) ∧ (l0_1.length ≤ maxLen ∧ ∀ y0_ ∈ l0_1, (Lit.int .u8 y0_).wf = true) ∧ (Lit.int .u8 a0_2).wf = true ∧ True ∧ (Lit.int .i64 a0_4).wf = true ∧ (Lit.int .i64 a0_5).wf = true ∧ (Lit.int .i64 a0_6).wf = true ∧ (l0_7.length ≤ maxLen ∧ ∀ y0_ ∈ l0_7, (Lit.int .u8 y0_.f0).wf = true ∧ (Lit.int .i64 y0_.f1).wf = true ∧ (Lit.int .i64 y0_.f2).wf = true)) → ((l1_0.length ≤ maxLen ∧ ∀ y0_ ∈ l1_0, (Lit.int .u8 y0_).wf = true) ∧ (l1_1.length ≤ maxLen ∧ ∀ y0_ ∈ l1_1, (Lit.int .u8 y0_).wf = true) ∧ (Lit.int .u8 a1_2).wf = true ∧ True ∧ (Lit.int .i64 a1_4).wf = true ∧ (Lit.int .i64 a1_5).wf = true ∧ (Lit.int .i64 a1_6).wf = true ∧ (l1_7.length ≤ maxLen ∧ ∀ y0_ ∈ l1_7, (Lit.int .u8 y0_.f0).wf = true ∧ (Lit.int .i64 y0_.f1).wf = true ∧ (Lit.int .i64 y0_.f2).wf = true)) → (l2.length ≤ maxLen ∧ ∀ y0_ ∈ l2, (Lit.int .u8 y0_.f0).wf = true ∧ (Lit.int .i64 y0_.f1).wf = true ∧ (Lit.int .i64 y0_.f2).wf = true) → ∃ k, capstanlaw07_MethodTells.f k l0_0 l0_1 a0_2 a0_3 a0_4 a0_5 a0_6 l0_7 l1_0 l1_1 a1_2 a1_3 a1_4 a1_5 a1_6 l1_7 l2 = some true
theorem capstanlaw07_MethodTells.walk (P : capstanlaw07_MethodTells.Pure) (A0_0 : Option Addr) (c0_0 : Nat) (l0_0 : List Int) (A0_1 : Option Addr) (c0_1 : Nat) (l0_1 : List Int) (a0_2 : Int) (a0_3 : Bool) (a0_4 : Int) (a0_5 : Int) (a0_6 : Int) (A0_7 : Option Addr) (c0_7 : Nat) (l0_7 : List (S130)) (A1_0 : Option Addr) (c1_0 : Nat) (l1_0 : List Int) (A1_1 : Option Addr) (c1_1 : Nat) (l1_1 : List Int) (a1_2 : Int) (a1_3 : Bool) (a1_4 : Int) (a1_5 : Int) (a1_6 : Int) (A1_7 : Option Addr) (c1_7 : Nat) (l1_7 : List (S130)) (A2 : Option Addr) (c2 : Nat) (l2 : List (S35)) (w : World) (hr0_0 : Kd.C (Kd.int .u8) w A0_0 l0_0.length l0_0) (hc0_0 : l0_0.length ≤ c0_0) (hr0_1 : Kd.C (Kd.int .u8) w A0_1 l0_1.length l0_1) (hc0_1 : l0_1.length ≤ c0_1) (hr0_7 : Kd.C k130 w A0_7 l0_7.length l0_7) (hc0_7 : l0_7.length ≤ c0_7) (g0 : (l0_0.length ≤ maxLen ∧ ∀ y0_ ∈ l0_0, (Lit.int .u8 y0_).wf = true) ∧ (l0_1.length ≤ maxLen ∧ ∀ y0_ ∈ l0_1, (Lit.int .u8 y0_).wf = true) ∧ (Lit.int .u8 a0_2).wf = true ∧ True ∧ (Lit.int .i64 a0_4).wf = true ∧ (Lit.int .i64 a0_5).wf = true ∧ (Lit.int .i64 a0_6).wf = true ∧ (l0_7.length ≤ maxLen ∧ ∀ y0_ ∈ l0_7, (Lit.int .u8 y0_.f0).wf = true ∧ (Lit.int .i64 y0_.f1).wf = true ∧ (Lit.int .i64 y0_.f2).wf = true)) (hr1_0 : Kd.C (Kd.int .u8) w A1_0 l1_0.length l1_0) (hc1_0 : l1_0.length ≤ c1_0) (hr1_1 : Kd.C (Kd.int .u8) w A1_1 l1_1.length l1_1) (hc1_1 : l1_1.length ≤ c1_1) (hr1_7 : Kd.C k130 w A1_7 l1_7.length l1_7) (hc1_7 : l1_7.length ≤ c1_7) (g1 : (l1_0.length ≤ maxLen ∧ ∀ y0_ ∈ l1_0, (Lit.int .u8 y0_).wf = true) ∧ (l1_1.length ≤ maxLen ∧ ∀ y0_ ∈ l1_1, (Lit.int .u8 y0_).wf = true) ∧ (Lit.int .u8 a1_2).wf = true ∧ True ∧ (Lit.int .i64 a1_4).wf = true ∧ (Lit.int .i64 a1_5).wf = true ∧ (Lit.int .i64 a1_6).wf = true ∧ (l1_7.length ≤ maxLen ∧ ∀ y0_ ∈ l1_7, (Lit.int .u8 y0_.f0).wf = true ∧ (Lit.int .i64 y0_.f1).wf = true ∧ (Lit.int .i64 y0_.f2).wf = true)) (hr2 : Kd.C k35 w A2 l2.length l2) (hc2 : l2.length ≤ c2) (g2 : l2.length ≤ maxLen ∧ ∀ y0_ ∈ l2, (Lit.int .u8 y0_.f0).wf = true ∧ (Lit.int .i64 y0_.f1).wf = true ∧ (Lit.int .i64 y0_.f2).wf = true) :
  Calls Try.prog 5 #[.agg #[.slice A0_0 l0_0.length c0_0, .slice A0_1 l0_1.length c0_1, .int .u8 a0_2, .bool a0_3, .int .i64 a0_4, .int .i64 a0_5, .int .i64 a0_6, .slice A0_7 l0_7.length c0_7], .agg #[.slice A1_0 l1_0.length c1_0, .slice A1_1 l1_1.length c1_1, .int .u8 a1_2, .bool a1_3, .int .i64 a1_4, .int .i64 a1_5, .int .i64 a1_6, .slice A1_7 l1_7.length c1_7], .slice A2 l2.length c2] w fun e w' => e = .returned (.bool true) ∧ Below w.heap.size w w' := by
 obtain ⟨k, h⟩ := P l0_0 l0_1 a0_2 a0_3 a0_4 a0_5 a0_6 l0_7 l1_0 l1_1 a1_2 a1_3 a1_4 a1_5 a1_6 l1_7 l2 g0 g1 g2
 refine (capstanlaw07_MethodTells.calls k _ _ l0_0 _ _ l0_1 a0_2 a0_3 a0_4 a0_5 a0_6 _ _ l0_7 _ _ l1_0 _ _ l1_1 a1_2 a1_3 a1_4 a1_5 a1_6 _ _ l1_7 _ _ l2 true w hr0_0 hc0_0 hr0_1 hc0_1 hr0_7 hc0_7 hr1_0 hc1_0 hr1_1 hc1_1 hr1_7 hc1_7 hr2 hc2 h).mono ?_
 rintro e w' ⟨rfl, hd⟩
 exact ⟨rfl, hd⟩

end Go.Proofs.Ytjnmomhkiknhdaa.T
