/- Contracts of the functions of this seat (each: the call of the function does what the plain Lean function of the same name tells; the conditions stand in each statement). Written by a program of this session and by hand; checked by Lean. -/
import Derived.Test.YtkmnachdibhdhaaU0
import Derived.Test.YtkmnachdibhdhaaU2
import Derived.Test.YtkmnachdibhdhaaU10
import Derived.Test.YtkmnachdibhdhaaU11
namespace Go.Proofs.Ytkmnachdibhdhaa.U
open Go.RowKit Go.Proofs.YtkmnachdibhdhaaW.PrintWords Go.Proofs.YtkmnachdibhdhaaW.PrintLast Go.Proofs.YtkmnachdibhdhaaW.PrintMore
attribute [local go_sem] max2_int min2_int max_two min_two max_three min_three max_four min_four   -- for this text's walks alone
set_option linter.unusedVariables false
set_option linter.unusedSimpArgs false

attribute [local go_sem high] eqA86
/-! ### pure_Say: function 18 -/
def pure_Say.l0 : Nat → List Bool → Int → Int → List (S86) → List (S86) → List (S52) → Int → Option ((List (S86)) × (List (S86)) × (List (S52)) × Int × Int)
 | 0, _, _, _, _, _, _, _ => none
 | k + 1, x4, x21, x22, x233000, x233001, x233002, x233003 => if x22 < x21 then (if 0 ≤ x22 then (if x22 < (x4.length : Int) then (if x22 < (x233002.length : Int) then (pure_Say.l0 k x4 x21 (wrap64 (x22 + 1)) x233000 x233001 (x233002.set (x22 : Int).toNat (⟨(rd_T52 x233002 x22).f0, (rd_T52 x233002 x22).f1, (rd_T52 x233002 x22).f2, rdOf false x4 x22, (rd_T52 x233002 x22).f4, (rd_T52 x233002 x22).f5, (rd_T52 x233002 x22).f6, (rd_T52 x233002 x22).f7⟩ : S52)) x233003) else (none)) else (none)) else (none)) else (some (x233000, x233001, x233002, x233003, 0))
def pure_Say.f (k : Nat) (l0_0 : List (S86)) (l0_1 : List (S86)) (l0_2 : List (S52)) (a0_3 : Int) : Option ((List (S86)) × (List (S86)) × (List (S52)) × Int × Int) := (pure_Pure.f k l0_0 l0_1 l0_2 a0_3).bind fun bt218 => (if bt218.2 = 0 then ((module_Copy.f l0_0 l0_1 l0_2 a0_3).bind fun bt222 => (pure_Say.l0 k bt218.1 (bt222.2.2.1.length : Int) 0 bt222.1 bt222.2.1 bt222.2.2.1 bt222.2.2.2)) else (some (([] : List (S86)), ([] : List (S86)), ([] : List (S52)), 0, bt218.2)))
theorem pure_Say.mono_l : ∀ k, (∀ y0 y1 y2 y3 y4 y5 y6, LeO (pure_Say.l0 k y0 y1 y2 y3 y4 y5 y6) (pure_Say.l0 (k + 1) y0 y1 y2 y3 y4 y5 y6))
 | 0 => fun _ _ _ _ _ _ _ r h => by simp [pure_Say.l0] at h
 | k + 1 => by
  have ih0 := pure_Say.mono_l k
  ·
   intro y0 y1 y2 y3 y4 y5 y6
   unfold pure_Say.l0
   repeat' first
   | (with_reducible exact ih0 _ _ _ _ _ _ _)
   | (with_reducible exact pure_Pure.mono _ _ _ _ _)
   | (with_reducible exact LeO.refl _)
   | (with_reducible exact LeO.none _)
   | (with_reducible refine LeO.ite ?_ ?_)
   | (with_reducible refine LeO.bind ?_ (fun _ => ?_))
   | exact ih0 _ _ _ _ _ _ _
   | exact pure_Pure.mono _ _ _ _ _
   | exact LeO.none _
   | refine LeO.ite ?_ ?_
   | refine LeO.bind ?_ (fun _ => ?_)
theorem pure_Say.mono : ∀ a0 a1 a2 a3 k, LeO (pure_Say.f k a0 a1 a2 a3) (pure_Say.f (k + 1) a0 a1 a2 a3) := by
 intro a0 a1 a2 a3 k; have ih0 := pure_Say.mono_l k
 unfold pure_Say.f
 repeat' first
   | (with_reducible exact ih0 _ _ _ _ _ _ _)
   | (with_reducible exact pure_Pure.mono _ _ _ _ _)
   | (with_reducible exact LeO.refl _)
   | (with_reducible exact LeO.none _)
   | (with_reducible refine LeO.ite ?_ ?_)
   | (with_reducible refine LeO.bind ?_ (fun _ => ?_))
   | exact ih0 _ _ _ _ _ _ _
   | exact pure_Pure.mono _ _ _ _ _
   | exact LeO.none _
   | refine LeO.ite ?_ ?_
   | refine LeO.bind ?_ (fun _ => ?_)
def pure_Say.T8 : Bool × List (List Nat × List Nat) := (true, [([], []), ([0], [0]), ([], []), ([], []), ([], []), ([3, 4], [3, 4]), ([5], [5]), ([1, 2, 0, 1, 2, 3, 4, 5, 6], [1, 2]), ([7, 0, 1, 2, 3, 4, 5, 6], [7]), ([8, 6, 0, 1, 2, 3, 4, 5, 6], [6, 8])])
def pure_Say.B8 : List Nat := [0, 1, 0, 0, 0, 24, 56, 127, 255, 511]
theorem pure_Say.tab8 : rtab .any (opsOf Try.f18 8) = pure_Say.T8 := by kernel_rfl
theorem pure_Say.bits8 : waitsOk pure_Say.T8.2 pure_Say.B8 = true := by kernel_rfl
set_option maxHeartbeats 8000000 in
set_option maxRecDepth 100000 in
theorem pure_Say.calls (k : Nat) (A0_0 : Option Addr) (c0_0 : Nat) (l0_0 : List (S86)) (A0_1 : Option Addr) (c0_1 : Nat) (l0_1 : List (S86)) (A0_2 : Option Addr) (c0_2 : Nat) (l0_2 : List (S52)) (a0_3 : Int) (r1 : List (S86)) (r2 : List (S86)) (r3 : List (S52)) (r4 : Int) (r5 : Int) (w : World) (hr0_0 : Kd.C k86 w A0_0 l0_0.length l0_0) (hc0_0 : l0_0.length ≤ c0_0) (hr0_1 : Kd.C k86 w A0_1 l0_1.length l0_1) (hc0_1 : l0_1.length ≤ c0_1) (hr0_2 : Kd.C k52 w A0_2 l0_2.length l0_2) (hc0_2 : l0_2.length ≤ c0_2) (h : pure_Say.f k l0_0 l0_1 l0_2 a0_3 = some (r1, r2, r3, r4, r5)) :
  Calls Try.prog 18 #[.agg #[.slice A0_0 l0_0.length c0_0, .slice A0_1 l0_1.length c0_1, .slice A0_2 l0_2.length c0_2, .int .i64 a0_3]] w fun e w' => ∃ v0_ v1_ v2_ : Value, e = .returned (.tuple #[.agg #[v0_, v1_, v2_, .int .i64 r4], .int .i64 r5]) ∧ Kd.R k86 86 w' w.heap.size (fun k_ => some k_ ≠ (v1_ : Value).ownBlock) v0_ r1 ∧ Kd.R k86 86 w' w.heap.size (fun k_ => some k_ ≠ (v0_ : Value).ownBlock) v1_ r2 ∧ Kd.S k52 52 w' w.heap.size (fun _ => True) v2_ r3 ∧ Below w.heap.size w w' := by
 have hu25 := Try.underlying25; have HR0_0 := Aside0.mk hr0_0; have HC0_0 := Aside0.mk hc0_0; clear hr0_0 hc0_0; have HR0_1 := Aside0.mk hr0_1; have HC0_1 := Aside0.mk hc0_1; clear hr0_1 hc0_1; have HR0_2 := Aside0.mk hr0_2; have HC0_2 := Aside0.mk hc0_2; clear hr0_2 hc0_2; have HB := Aside0.mk (Below.refl w.heap.size w); have H : ((pure_Pure.f k l0_0 l0_1 l0_2 a0_3).bind fun bt218 => (if bt218.2 = 0 then ((module_Copy.f l0_0 l0_1 l0_2 a0_3).bind fun bt222 => (pure_Say.l0 k bt218.1 (bt222.2.2.1.length : Int) 0 bt222.1 bt222.2.1 bt222.2.2.1 bt222.2.2.2)) else (some (([] : List (S86)), ([] : List (S86)), ([] : List (S52)), 0, bt218.2)))) = some (r1, r2, r3, r4, r5) := h; clear h; replace H := Option.bind_eq_some_iff.mp H; obtain ⟨⟨t218, t221⟩, A20, H⟩ := H; replace H : (if t221 = 0 then ((module_Copy.f l0_0 l0_1 l0_2 a0_3).bind fun bt222 => (pure_Say.l0 k t218 (bt222.2.2.1.length : Int) 0 bt222.1 bt222.2.1 bt222.2.2.1 bt222.2.2.2)) else (some (([] : List (S86)), ([] : List (S86)), ([] : List (S52)), 0, t221))) = some (r1, r2, r3, r4, r5) := H; have A2 := Aside0.mk A20; clear A20
 by_cases c3 : t221 = 0
 rotate_left
 ·
  rw [if_neg c3] at H; have c3b0 : (t221 == 0) = false := beq_eq_false_iff_ne.mpr c3; have c3b1 : (t221 != 0) = true := bne_iff_ne.mpr c3; simp only [Option.some.injEq, Prod.mk.injEq] at H; obtain ⟨rfl, rfl, rfl, rfl, rfl⟩ := H
  go_enter Try.func18, Try.ntmps18
  go_wp2_with (first | ((with_reducible refine gate_dst (N := 1) rfl ?_); refine box_event ?hg (N := 1) ?hd (cs := #[.slice A0_0 l0_0.length c0_0, .slice A0_1 l0_1.length c0_1, .slice A0_2 l0_2.length c0_2, .int .i64 a0_3]) (t := 25) ?hr ?_; (case hd => rfl); (case hg => rfl); (case hr => first | (go_simp; done) | (go_simp; rfl)); intro gb216 hg w36 hbox hb; have n0_ := Aside0.mk (below_step (au1) hb); have n1_ := Aside0.mk (hbox); have n2_ := Aside0.mk ((au28 : w.heap.size ≤ gb216)); have n3_ := Aside0.mk ((au28 : w.heap.size ≤ gb216)); clear HB; have HB := n0_; have BK216 := n1_; have GW216 := n2_; have GE216 := n3_; clear n0_ n1_ n2_ n3_; clear hb hbox hg) | ((with_reducible refine gate_dst (N := 2) rfl ?_); refine box_event ?hg (N := 2) ?hd (cs := #[.slice none 0 0, .slice none 0 0, .slice none 0 0, .int .i64 0]) (t := 25) ?hr ?_; (case hd => rfl); (case hg => rfl); (case hr => first | (go_simp; done) | (go_simp; rfl)); intro gb217 hg w37 hbox hb; have n0_ := Aside0.mk (blk_below (g := gb216) (o := .cells #[.slice A0_0 l0_0.length c0_0, .slice A0_1 l0_1.length c0_1, .slice A0_2 l0_2.length c0_2, .int .i64 a0_3] 25 (0, 0)) (au38) hb); have n1_ := Aside0.mk (below_step (au43) hb); have n2_ := Aside0.mk (hbox); have n3_ := Aside0.mk ((by rw [hg]; exact (below_size (au43)) : w.heap.size ≤ gb217)); have n4_ := Aside0.mk ((by rw [hg]; exact (below_size (au43)) : w.heap.size ≤ gb217)); have n5_ := Aside0.mk ((au84 : gb216 ≠ gb217)); have n6_ := Aside0.mk ((au85 : gb217 ≠ gb216)); clear BK216; clear HB; have BK216 := n0_; have HB := n1_; have BK217 := n2_; have GW217 := n3_; have GE217 := n4_; have NB216_217 := n5_; have NB217_216 := n6_; clear n0_ n1_ n2_ n3_ n4_ n5_ n6_; clear hb hbox hg; have hnb38 := NB216_217.out; have hnc38 := NB217_216.out; obtain ⟨hcz39_0, hcz39_1, hcz39_2, hcz39_3, hfz39_0, hfz39_1, hfz39_2, hfz39_3⟩ := blk_all4 BK216.out) | ((with_reducible refine gate_callee (f := 17) rfl ?_); refine goesL_ (some 10) rfl rfl Try.func17 (by kernel_rfl) rfl #[.agg #[.slice A0_0 l0_0.length c0_0, .slice A0_1 l0_1.length c0_1, .slice A0_2 l0_2.length c0_2, .int .i64 a0_3]] rfl (au10) ?_; (with_reducible refine (pure_Pure.calls k _ _ l0_0 _ _ l0_1 _ _ l0_2 a0_3 t218 t221 _ ?side1 ?side2 ?side3 ?side4 ?side5 ?side6 A2.out).mono ?_); (case side1 => exact au4); (case side2 => exact HC0_0.out); (case side3 => exact au12); (case side4 => exact HC0_1.out); (case side5 => exact au14); (case side6 => exact HC0_2.out); rintro e w40 ⟨v219, rfl, ho0, hb⟩; refine ⟨_, rfl, ?_⟩; have n0_ := Aside0.mk (Kd.R_lower ho0 (below_size (au19))); have n1_ := Aside0.mk (blk_below (g := gb216) (o := .cells #[.slice A0_0 l0_0.length c0_0, .slice A0_1 l0_1.length c0_1, .slice A0_2 l0_2.length c0_2, .int .i64 a0_3] 25 (0, 0)) (au38) hb); have n2_ := Aside0.mk (blk_below (g := gb217) (o := .cells #[.slice none 0 0, .slice none 0 0, .slice none 0 0, .int .i64 0] 25 (0, 0)) (au57) hb); have n3_ := Aside0.mk (below_step (au19) hb); clear BK216; clear BK217; clear HB; have HO220 := n0_; have BK216 := n1_; have BK217 := n2_; have HB := n3_; clear n0_ n1_ n2_ n3_; (try clear hb); (try clear hb2); (try clear hk); (try clear hi); (try clear ho0); obtain ⟨hcz41_0, hcz41_1, hcz41_2, hcz41_3, hfz41_0, hfz41_1, hfz41_2, hfz41_3⟩ := blk_all4 BK217.out))
  refine bodyPost_ret (results_ct rfl _ _ gb217 25 #[.slice none 0 0, .slice none 0 0, .slice none 0 0, .int .i64 0] (0, 0) _ rfl (by (with_reducible repeat (first | refine blk_drewN ?_ _ | refine blk_drew ?_ | refine blk_alloc ?_ _)); refine blk_put (cs := #[.slice none 0 0, .slice none 0 0, .slice none 0 0, .int .i64 0]) ?_ 3 _ rfl; (with_reducible repeat (first | refine blk_drewN ?_ _ | refine blk_drew ?_ | refine blk_alloc ?_ _)); refine blk_put (cs := #[.slice none 0 0, .slice none 0 0, .slice none 0 0, .int .i64 0]) ?_ 2 _ rfl; (with_reducible repeat (first | refine blk_drewN ?_ _ | refine blk_drew ?_ | refine blk_alloc ?_ _)); refine blk_put (cs := #[.slice none 0 0, .slice none 0 0, .slice none 0 0, .int .i64 0]) ?_ 1 _ rfl; (with_reducible repeat (first | refine blk_drewN ?_ _ | refine blk_drew ?_ | refine blk_alloc ?_ _)); refine blk_put (cs := #[.slice none 0 0, .slice none 0 0, .slice none 0 0, .int .i64 0]) ?_ 0 _ rfl; (with_reducible repeat (first | refine blk_drewN ?_ _ | refine blk_drew ?_ | refine blk_alloc ?_ _)); exact BK217.out) Try.underlying25 rfl (by kernel_rfl)) rfl ?_; exact ⟨_, _, _, au13, au45, au45, au63, au19⟩

 rw [if_pos c3] at H; have c3b0 : (t221 == 0) = true := beq_iff_eq.mpr c3; have c3b1 : (t221 != 0) = false := bne_eq_false_iff_eq.mpr c3; clear c3; replace H := Option.bind_eq_some_iff.mp H; obtain ⟨⟨t222, t225, t228, t231⟩, A40, H⟩ := H; replace H : (pure_Say.l0 k t218 (t228.length : Int) 0 t222 t225 t228 t231) = some (r1, r2, r3, r4, r5) := H; have A4 := Aside0.mk A40; clear A40; have H' := Aside0.mk H; clear H
 go_enter Try.func18, Try.ntmps18
 go_wp2_with (first | ((with_reducible refine gate_dst (N := 1) rfl ?_); refine box_event ?hg (N := 1) ?hd (cs := #[.slice A0_0 l0_0.length c0_0, .slice A0_1 l0_1.length c0_1, .slice A0_2 l0_2.length c0_2, .int .i64 a0_3]) (t := 25) ?hr ?_; (case hd => rfl); (case hg => rfl); (case hr => first | (go_simp; done) | (go_simp; rfl)); intro gb216 hg w5 hbox hb; have n0_ := Aside0.mk (below_step (au1) hb); have n1_ := Aside0.mk (hbox); have n2_ := Aside0.mk ((au28 : w.heap.size ≤ gb216)); have n3_ := Aside0.mk ((au28 : w.heap.size ≤ gb216)); clear HB; have HB := n0_; have BK216 := n1_; have GW216 := n2_; have GE216 := n3_; clear n0_ n1_ n2_ n3_; clear hb hbox hg) | ((with_reducible refine gate_dst (N := 2) rfl ?_); refine box_event ?hg (N := 2) ?hd (cs := #[.slice none 0 0, .slice none 0 0, .slice none 0 0, .int .i64 0]) (t := 25) ?hr ?_; (case hd => rfl); (case hg => rfl); (case hr => first | (go_simp; done) | (go_simp; rfl)); intro gb217 hg w6 hbox hb; have n0_ := Aside0.mk (blk_below (g := gb216) (o := .cells #[.slice A0_0 l0_0.length c0_0, .slice A0_1 l0_1.length c0_1, .slice A0_2 l0_2.length c0_2, .int .i64 a0_3] 25 (0, 0)) (au38) hb); have n1_ := Aside0.mk (below_step (au43) hb); have n2_ := Aside0.mk (hbox); have n3_ := Aside0.mk ((by rw [hg]; exact (below_size (au43)) : w.heap.size ≤ gb217)); have n4_ := Aside0.mk ((by rw [hg]; exact (below_size (au43)) : w.heap.size ≤ gb217)); have n5_ := Aside0.mk ((au84 : gb216 ≠ gb217)); have n6_ := Aside0.mk ((au85 : gb217 ≠ gb216)); clear BK216; clear HB; have BK216 := n0_; have HB := n1_; have BK217 := n2_; have GW217 := n3_; have GE217 := n4_; have NB216_217 := n5_; have NB217_216 := n6_; clear n0_ n1_ n2_ n3_ n4_ n5_ n6_; clear hb hbox hg; have hnb7 := NB216_217.out; have hnc7 := NB217_216.out; obtain ⟨hcz8_0, hcz8_1, hcz8_2, hcz8_3, hfz8_0, hfz8_1, hfz8_2, hfz8_3⟩ := blk_all4 BK216.out) | ((with_reducible refine gate_callee (f := 17) rfl ?_); refine goesL_ (some 10) rfl rfl Try.func17 (by kernel_rfl) rfl #[.agg #[.slice A0_0 l0_0.length c0_0, .slice A0_1 l0_1.length c0_1, .slice A0_2 l0_2.length c0_2, .int .i64 a0_3]] rfl (au10) ?_; (with_reducible refine (pure_Pure.calls k _ _ l0_0 _ _ l0_1 _ _ l0_2 a0_3 t218 t221 _ ?side1 ?side2 ?side3 ?side4 ?side5 ?side6 A2.out).mono ?_); (case side1 => exact au4); (case side2 => exact HC0_0.out); (case side3 => exact au12); (case side4 => exact HC0_1.out); (case side5 => exact au14); (case side6 => exact HC0_2.out); rintro e w9 ⟨v219, rfl, ho0, hb⟩; refine ⟨_, rfl, ?_⟩; have n0_ := Aside0.mk (Kd.R_lower ho0 (below_size (au19))); have n1_ := Aside0.mk (blk_below (g := gb216) (o := .cells #[.slice A0_0 l0_0.length c0_0, .slice A0_1 l0_1.length c0_1, .slice A0_2 l0_2.length c0_2, .int .i64 a0_3] 25 (0, 0)) (au38) hb); have n2_ := Aside0.mk (blk_below (g := gb217) (o := .cells #[.slice none 0 0, .slice none 0 0, .slice none 0 0, .int .i64 0] 25 (0, 0)) (au57) hb); have n3_ := Aside0.mk (below_step (au19) hb); clear BK216; clear BK217; clear HB; have HO220 := n0_; have BK216 := n1_; have BK217 := n2_; have HB := n3_; clear n0_ n1_ n2_ n3_; (try clear hb); (try clear hb2); (try clear hk); (try clear hi); (try clear ho0); obtain ⟨hcz10_0, hcz10_1, hcz10_2, hcz10_3, hfz10_0, hfz10_1, hfz10_2, hfz10_3⟩ := blk_all4 BK216.out) | ((with_reducible refine gate_callee (f := 45) rfl ?_); refine goesL_ (some 18) rfl rfl Try.func45 (by kernel_rfl) rfl #[.agg #[.slice A0_0 l0_0.length c0_0, .slice A0_1 l0_1.length c0_1, .slice A0_2 l0_2.length c0_2, .int .i64 a0_3]] rfl (au10) ?_; (with_reducible refine (module_Copy.calls _ _ l0_0 _ _ l0_1 _ _ l0_2 a0_3 t222 t225 t228 t231 _ ?side1 ?side2 ?side3 ?side4 ?side5 ?side6 A4.out).mono ?_); (case side1 => exact au4); (case side2 => exact HC0_0.out); (case side3 => exact au12); (case side4 => exact HC0_1.out); (case side5 => exact au14); (case side6 => exact HC0_2.out); rintro e w11 ⟨v223, v226, v229, rfl, ho0, ho1, ho2, hb⟩; refine ⟨_, rfl, ?_⟩; have n0_ := Aside0.mk (Kd.R_below (by (with_reducible repeat (first | apply Kd.R_alloc | apply Kd.R_drewN | apply Kd.R_drew)); first | exact HO220.out | exact Kd.R_mono (HO220.out) (fun _ h_ => h_.2)) hb); have n1_ := Aside0.mk (Kd.R_lower ho0 (below_size (au19))); have n2_ := Aside0.mk (Kd.R_lower ho1 (below_size (au19))); have n3_ := Aside0.mk (Kd.S_lower ho2 (below_size (au19))); have n4_ := Aside0.mk (blk_below (g := gb216) (o := .cells #[.slice A0_0 l0_0.length c0_0, .slice A0_1 l0_1.length c0_1, .slice A0_2 l0_2.length c0_2, .int .i64 a0_3] 25 (0, 0)) (au38) hb); have n5_ := Aside0.mk (blk_below (g := gb217) (o := .cells #[.slice none 0 0, .slice none 0 0, .slice none 0 0, .int .i64 0] 25 (0, 0)) (au57) hb); have n6_ := Aside0.mk (below_step (au19) hb); clear HO220; clear BK216; clear BK217; clear HB; have HO220 := n0_; have HO224 := n1_; have HO227 := n2_; have HO230 := n3_; have BK216 := n4_; have BK217 := n5_; have HB := n6_; clear n0_ n1_ n2_ n3_ n4_ n5_ n6_; (try clear hb); (try clear hb2); (try clear hk); (try clear hi); (try clear ho0); (try clear ho1); (try clear ho2)) | ((with_reducible refine gate_dst (N := 6) rfl ?_); refine box_event ?hg (N := 6) ?hd (cs := #[.slice none 0 0, .slice none 0 0, .slice none 0 0, .int .i64 0]) (t := 25) ?hr ?_; (case hd => rfl); (case hg => rfl); (case hr => first | (go_simp; done) | (go_simp; rfl)); intro gb232 hg w12 hbox hb; have n0_ := Aside0.mk (Kd.R_below (by (with_reducible repeat (first | apply Kd.R_alloc | apply Kd.R_drewN | apply Kd.R_drew)); first | exact HO220.out | exact Kd.R_mono (HO220.out) (fun _ h_ => h_.2)) hb); have n1_ := Aside0.mk (Kd.R_below (by (with_reducible repeat (first | apply Kd.R_alloc | apply Kd.R_drewN | apply Kd.R_drew)); first | exact HO224.out | exact Kd.R_mono (HO224.out) (fun _ h_ => h_.2)) hb); have n2_ := Aside0.mk (Kd.R_below (by (with_reducible repeat (first | apply Kd.R_alloc | apply Kd.R_drewN | apply Kd.R_drew)); first | exact HO227.out | exact Kd.R_mono (HO227.out) (fun _ h_ => h_.2)) hb); have n3_ := Aside0.mk (Kd.S_below (by (with_reducible repeat (first | apply Kd.S_alloc | apply Kd.S_drewN | apply Kd.S_drew)); first | exact HO230.out | exact Kd.S_mono (HO230.out) (fun _ h_ => h_.2)) hb); have n4_ := Aside0.mk (blk_below (g := gb216) (o := .cells #[.slice A0_0 l0_0.length c0_0, .slice A0_1 l0_1.length c0_1, .slice A0_2 l0_2.length c0_2, .int .i64 a0_3] 25 (0, 0)) (au38) hb); have n5_ := Aside0.mk (blk_below (g := gb217) (o := .cells #[.slice none 0 0, .slice none 0 0, .slice none 0 0, .int .i64 0] 25 (0, 0)) (au57) hb); have n6_ := Aside0.mk (below_step (au19) hb); have n7_ := Aside0.mk (hbox); have n8_ := Aside0.mk ((by rw [hg]; exact (below_size (au19)) : w.heap.size ≤ gb232)); have n9_ := Aside0.mk ((by rw [hg]; exact (below_size (au19)) : w.heap.size ≤ gb232)); have n10_ := Aside0.mk ((au84 : gb216 ≠ gb232)); have n11_ := Aside0.mk ((au85 : gb232 ≠ gb216)); have n12_ := Aside0.mk ((by rw [hg]; exact Nat.ne_of_lt (blk_lt (g := gb217) (o := .cells #[.slice none 0 0, .slice none 0 0, .slice none 0 0, .int .i64 0] 25 (0, 0)) (au57)) : gb217 ≠ gb232)); have n13_ := Aside0.mk ((by rw [hg]; exact Nat.ne_of_gt (blk_lt (g := gb217) (o := .cells #[.slice none 0 0, .slice none 0 0, .slice none 0 0, .int .i64 0] 25 (0, 0)) (au57)) : gb232 ≠ gb217)); clear HO220; clear HO224; clear HO227; clear HO230; clear BK216; clear BK217; clear HB; have HO220 := n0_; have HO224 := n1_; have HO227 := n2_; have HO230 := n3_; have BK216 := n4_; have BK217 := n5_; have HB := n6_; have BK232 := n7_; have GW232 := n8_; have GE232 := n9_; have NB216_232 := n10_; have NB232_216 := n11_; have NB217_232 := n12_; have NB232_217 := n13_; clear n0_ n1_ n2_ n3_ n4_ n5_ n6_ n7_ n8_ n9_ n10_ n11_ n12_ n13_; clear hb hbox hg; obtain ⟨Ao13, co13, eo13⟩ := Kd.R_slice HO224.out; subst eo13; have hnb14 := NB232_216.out; have hnc14 := NB216_232.out; have hnb15 := NB232_217.out; have hnc15 := NB217_232.out; obtain ⟨hcz16_0, hcz16_1, hcz16_2, hcz16_3, hfz16_0, hfz16_1, hfz16_2, hfz16_3⟩ := blk_all4 BK232.out; obtain ⟨Ao17, co17, eo17⟩ := Kd.R_slice HO227.out; subst eo17; obtain ⟨Ao18, co18, eo18⟩ := Kd.S_slice HO230.out; subst eo18))
 go_loopg [22] k (fun kq v22 w' => ∃ (x22_1 : Int) (x233002_1 : List (S52)) (u233002 : Value), v22 = .int .i64 x22_1 ∧ Aside0 (pure_Say.l0 kq t218 (t228.length : Int) x22_1 t222 t225 x233002_1 t231 = some (r1, r2, r3, r4, r5)) ∧ Aside0 (kq ≤ k) ∧ Aside0 (Kd.R Kd.bool 4 w' w.heap.size (fun _ => True) v219 t218) ∧ Aside0 (Kd.R k86 86 w' w.heap.size (fun k_ => some k_ ≠ ((.slice Ao17 t225.length co17) : Value).ownBlock) (.slice Ao13 t222.length co13) t222) ∧ Aside0 (Kd.R k86 86 w' w.heap.size (fun k_ => some k_ ≠ ((.slice Ao13 t222.length co13) : Value).ownBlock) (.slice Ao17 t225.length co17) t225) ∧ Aside0 (Kd.S k52 52 w' w.heap.size (fun _ => True) u233002 x233002_1) ∧ Aside0 (w'.heap[gb216]? = some (.cells #[(.slice A0_0 l0_0.length c0_0), (.slice A0_1 l0_1.length c0_1), (.slice A0_2 l0_2.length c0_2), .int .i64 a0_3] 25 (0, 0))) ∧ Aside0 (w'.heap[gb217]? = some (.cells #[(.slice none 0 0), (.slice none 0 0), (.slice none 0 0), .int .i64 0] 25 (0, 0))) ∧ Aside0 (w'.heap[gb232]? = some (.cells #[(.slice Ao13 t222.length co13), (.slice Ao17 t225.length co17), u233002, .int .i64 t231] 25 (0, 0))) ∧ Aside0 (Below w.heap.size w w'))
 case atStart => exact ⟨(0), (t228), (.slice Ao18 t228.length co18), (au17), H', ⟨Nat.le_refl _⟩, ⟨by (with_reducible repeat (first | apply Kd.R_alloc | apply Kd.R_drewN | apply Kd.R_drew)); first | exact Kd.R_mono (Kd.R_far (p := ⟨gb232, 3, none⟩) (Kd.R_far (p := ⟨gb232, 2, none⟩) (Kd.R_far (p := ⟨gb232, 1, none⟩) (Kd.R_far (p := ⟨gb232, 0, none⟩) (Kd.R_types HO220.out BK232.out (by decide)) (fun _ hk => hk.2) (.slice Ao13 t222.length co13)) (fun _ hk => hk.2) (.slice Ao17 t225.length co17)) (fun _ hk => hk.2) (.slice Ao18 t228.length co18)) (fun _ hk => hk.2) (.int .i64 t231)) (fun _ hk => trivial) | exact Kd.R_mono (Kd.R_mono (Kd.R_far (p := ⟨gb232, 3, none⟩) (Kd.R_far (p := ⟨gb232, 2, none⟩) (Kd.R_far (p := ⟨gb232, 1, none⟩) (Kd.R_far (p := ⟨gb232, 0, none⟩) (Kd.R_types HO220.out BK232.out (by decide)) (fun _ hk => hk.2) (.slice Ao13 t222.length co13)) (fun _ hk => hk.2) (.slice Ao17 t225.length co17)) (fun _ hk => hk.2) (.slice Ao18 t228.length co18)) (fun _ hk => hk.2) (.int .i64 t231)) (fun _ hk => trivial)) (fun _ h_ => h_.2)⟩, ⟨by (with_reducible repeat (first | apply Kd.R_alloc | apply Kd.R_drewN | apply Kd.R_drew)); first | exact Kd.R_mono (Kd.R_far (p := ⟨gb232, 3, none⟩) (Kd.R_far (p := ⟨gb232, 2, none⟩) (Kd.R_far (p := ⟨gb232, 1, none⟩) (Kd.R_far (p := ⟨gb232, 0, none⟩) (Kd.R_types HO224.out BK232.out (by decide)) (fun _ hk => hk.2) (.slice Ao13 t222.length co13)) (fun _ hk => hk.2) (.slice Ao17 t225.length co17)) (fun _ hk => hk.2) (.slice Ao18 t228.length co18)) (fun _ hk => hk.2) (.int .i64 t231)) (fun _ hk => hk.1) | exact Kd.R_mono (Kd.R_mono (Kd.R_far (p := ⟨gb232, 3, none⟩) (Kd.R_far (p := ⟨gb232, 2, none⟩) (Kd.R_far (p := ⟨gb232, 1, none⟩) (Kd.R_far (p := ⟨gb232, 0, none⟩) (Kd.R_types HO224.out BK232.out (by decide)) (fun _ hk => hk.2) (.slice Ao13 t222.length co13)) (fun _ hk => hk.2) (.slice Ao17 t225.length co17)) (fun _ hk => hk.2) (.slice Ao18 t228.length co18)) (fun _ hk => hk.2) (.int .i64 t231)) (fun _ hk => hk.1)) (fun _ h_ => h_.2)⟩, ⟨by (with_reducible repeat (first | apply Kd.R_alloc | apply Kd.R_drewN | apply Kd.R_drew)); first | exact Kd.R_mono (Kd.R_far (p := ⟨gb232, 3, none⟩) (Kd.R_far (p := ⟨gb232, 2, none⟩) (Kd.R_far (p := ⟨gb232, 1, none⟩) (Kd.R_far (p := ⟨gb232, 0, none⟩) (Kd.R_types HO227.out BK232.out (by decide)) (fun _ hk => hk.2) (.slice Ao13 t222.length co13)) (fun _ hk => hk.2) (.slice Ao17 t225.length co17)) (fun _ hk => hk.2) (.slice Ao18 t228.length co18)) (fun _ hk => hk.2) (.int .i64 t231)) (fun _ hk => hk.1) | exact Kd.R_mono (Kd.R_mono (Kd.R_far (p := ⟨gb232, 3, none⟩) (Kd.R_far (p := ⟨gb232, 2, none⟩) (Kd.R_far (p := ⟨gb232, 1, none⟩) (Kd.R_far (p := ⟨gb232, 0, none⟩) (Kd.R_types HO227.out BK232.out (by decide)) (fun _ hk => hk.2) (.slice Ao13 t222.length co13)) (fun _ hk => hk.2) (.slice Ao17 t225.length co17)) (fun _ hk => hk.2) (.slice Ao18 t228.length co18)) (fun _ hk => hk.2) (.int .i64 t231)) (fun _ hk => hk.1)) (fun _ h_ => h_.2)⟩, ⟨by (with_reducible repeat (first | apply Kd.S_alloc | apply Kd.S_drewN | apply Kd.S_drew)); first | exact Kd.S_mono (Kd.S_far (p := ⟨gb232, 3, none⟩) (Kd.S_far (p := ⟨gb232, 2, none⟩) (Kd.S_far (p := ⟨gb232, 1, none⟩) (Kd.S_far (p := ⟨gb232, 0, none⟩) (Kd.S_types HO230.out BK232.out (by decide)) (fun _ hk => hk.2) (.slice Ao13 t222.length co13)) (fun _ hk => hk.2) (.slice Ao17 t225.length co17)) (fun _ hk => hk.2) (.slice Ao18 t228.length co18)) (fun _ hk => hk.2) (.int .i64 t231)) (fun _ hk => trivial) | exact Kd.S_mono (Kd.S_mono (Kd.S_far (p := ⟨gb232, 3, none⟩) (Kd.S_far (p := ⟨gb232, 2, none⟩) (Kd.S_far (p := ⟨gb232, 1, none⟩) (Kd.S_far (p := ⟨gb232, 0, none⟩) (Kd.S_types HO230.out BK232.out (by decide)) (fun _ hk => hk.2) (.slice Ao13 t222.length co13)) (fun _ hk => hk.2) (.slice Ao17 t225.length co17)) (fun _ hk => hk.2) (.slice Ao18 t228.length co18)) (fun _ hk => hk.2) (.int .i64 t231)) (fun _ hk => trivial)) (fun _ h_ => h_.2)⟩, ⟨by (with_reducible repeat (first | refine blk_drewN ?_ _ | refine blk_drew ?_ | refine blk_alloc ?_ _)); refine blk_far ?_ NB216_232.out _; (with_reducible repeat (first | refine blk_drewN ?_ _ | refine blk_drew ?_ | refine blk_alloc ?_ _)); refine blk_far ?_ NB216_232.out _; (with_reducible repeat (first | refine blk_drewN ?_ _ | refine blk_drew ?_ | refine blk_alloc ?_ _)); refine blk_far ?_ NB216_232.out _; (with_reducible repeat (first | refine blk_drewN ?_ _ | refine blk_drew ?_ | refine blk_alloc ?_ _)); refine blk_far ?_ NB216_232.out _; (with_reducible repeat (first | refine blk_drewN ?_ _ | refine blk_drew ?_ | refine blk_alloc ?_ _)); exact BK216.out⟩, ⟨by (with_reducible repeat (first | refine blk_drewN ?_ _ | refine blk_drew ?_ | refine blk_alloc ?_ _)); refine blk_far ?_ NB217_232.out _; (with_reducible repeat (first | refine blk_drewN ?_ _ | refine blk_drew ?_ | refine blk_alloc ?_ _)); refine blk_far ?_ NB217_232.out _; (with_reducible repeat (first | refine blk_drewN ?_ _ | refine blk_drew ?_ | refine blk_alloc ?_ _)); refine blk_far ?_ NB217_232.out _; (with_reducible repeat (first | refine blk_drewN ?_ _ | refine blk_drew ?_ | refine blk_alloc ?_ _)); refine blk_far ?_ NB217_232.out _; (with_reducible repeat (first | refine blk_drewN ?_ _ | refine blk_drew ?_ | refine blk_alloc ?_ _)); exact BK217.out⟩, ⟨by (with_reducible repeat (first | refine blk_drewN ?_ _ | refine blk_drew ?_ | refine blk_alloc ?_ _)); refine blk_put (cs := #[.slice Ao13 t222.length co13, .slice Ao17 t225.length co17, .slice Ao18 t228.length co18, .int .i64 0]) ?_ 3 _ rfl; (with_reducible repeat (first | refine blk_drewN ?_ _ | refine blk_drew ?_ | refine blk_alloc ?_ _)); refine blk_put (cs := #[.slice Ao13 t222.length co13, .slice Ao17 t225.length co17, .slice none 0 0, .int .i64 0]) ?_ 2 _ rfl; (with_reducible repeat (first | refine blk_drewN ?_ _ | refine blk_drew ?_ | refine blk_alloc ?_ _)); refine blk_put (cs := #[.slice Ao13 t222.length co13, .slice none 0 0, .slice none 0 0, .int .i64 0]) ?_ 1 _ rfl; (with_reducible repeat (first | refine blk_drewN ?_ _ | refine blk_drew ?_ | refine blk_alloc ?_ _)); refine blk_put (cs := #[.slice none 0 0, .slice none 0 0, .slice none 0 0, .int .i64 0]) ?_ 0 _ rfl; (with_reducible repeat (first | refine blk_drewN ?_ _ | refine blk_drew ?_ | refine blk_alloc ?_ _)); exact BK232.out⟩, ⟨au59⟩⟩
 case round =>
  clear H'; (try clear c1); (try clear p2); (try clear c3); (try clear c3b0); (try clear c3b1); (try clear c4); (try clear c7); (try clear c14); (try clear c15); (try clear c17); (try clear c18); (try clear hcz10_0); (try clear hcz10_1); (try clear hcz10_2); (try clear hcz10_3); (try clear hcz16_0); (try clear hcz16_1); (try clear hcz16_2); (try clear hcz16_3); (try clear hcz8_0); (try clear hcz8_1); (try clear hcz8_2); (try clear hcz8_3); (try clear hfz10_0); (try clear hfz10_1); (try clear hfz10_2); (try clear hfz10_3); (try clear hfz16_0); (try clear hfz16_1); (try clear hfz16_2); (try clear hfz16_3); (try clear hfz8_0); (try clear hfz8_1); (try clear hfz8_2); (try clear hfz8_3); obtain ⟨x22_1, x233002_1, u233002, rfl, HA, HK1, HO_4, HO_233000, HO_233001, HO_233002, BK216, BK217, BK232, HB⟩ := hrel
  cases gk with
  | zero => exact absurd HA.out (by simp [pure_Say.l0])
  | succ k1 =>
   have H := HA.out; clear HA; simp only [pure_Say.l0] at H
   by_cases c19 : x22_1 < (t228.length : Int)
   rotate_left
   · rw [if_neg c19] at H; have c19b0 : decide (x22_1 < (t228.length : Int)) = false := decide_eq_false c19; clear c19; simp only [Option.some.injEq, Prod.mk.injEq] at H; obtain ⟨rfl, rfl, rfl, rfl, rfl⟩ := H; have hnb30 := NB232_216.out; have hnc30 := NB216_232.out; have hnb31 := NB232_217.out; have hnc31 := NB217_232.out; obtain ⟨hcz32_0, hcz32_1, hcz32_2, hcz32_3, hfz32_0, hfz32_1, hfz32_2, hfz32_3⟩ := blk_all4 BK232.out; have hnb33 := NB217_216.out; have hnc33 := NB216_217.out; obtain ⟨hcz34_0, hcz34_1, hcz34_2, hcz34_3, hfz34_0, hfz34_1, hfz34_2, hfz34_3⟩ := blk_all4 BK217.out; obtain ⟨Ao35, co35, eo35⟩ := Kd.S_slice HO_233002.out; subst eo35; go_wp2; refine bodyPost_ret (results_ct rfl _ _ gb217 25 #[.slice Ao13 t222.length co13, .slice Ao17 t225.length co17, .slice Ao35 x233002_1.length co35, .int .i64 t231] (0, 0) _ rfl (by (with_reducible repeat (first | refine blk_drewN ?_ _ | refine blk_drew ?_ | refine blk_alloc ?_ _)); refine blk_put (cs := #[.slice Ao13 t222.length co13, .slice Ao17 t225.length co17, .slice Ao35 x233002_1.length co35, .int .i64 0]) ?_ 3 _ rfl; (with_reducible repeat (first | refine blk_drewN ?_ _ | refine blk_drew ?_ | refine blk_alloc ?_ _)); refine blk_put (cs := #[.slice Ao13 t222.length co13, .slice Ao17 t225.length co17, .slice none 0 0, .int .i64 0]) ?_ 2 _ rfl; (with_reducible repeat (first | refine blk_drewN ?_ _ | refine blk_drew ?_ | refine blk_alloc ?_ _)); refine blk_put (cs := #[.slice Ao13 t222.length co13, .slice none 0 0, .slice none 0 0, .int .i64 0]) ?_ 1 _ rfl; (with_reducible repeat (first | refine blk_drewN ?_ _ | refine blk_drew ?_ | refine blk_alloc ?_ _)); refine blk_put (cs := #[.slice none 0 0, .slice none 0 0, .slice none 0 0, .int .i64 0]) ?_ 0 _ rfl; (with_reducible repeat (first | refine blk_drewN ?_ _ | refine blk_drew ?_ | refine blk_alloc ?_ _)); exact BK217.out) Try.underlying25 rfl (by kernel_rfl)) rfl ?_; exact ⟨_, _, _, au13, by (with_reducible repeat (first | apply Kd.R_alloc | apply Kd.R_drewN | apply Kd.R_drew)); first | exact Kd.R_mono (Kd.R_far (p := ⟨gb217, 3, none⟩) (Kd.R_far (p := ⟨gb217, 2, none⟩) (Kd.R_far (p := ⟨gb217, 1, none⟩) (Kd.R_far (p := ⟨gb217, 0, none⟩) (Kd.R_types HO_233000.out BK217.out (by decide)) (fun _ hk => hk.2) (.slice Ao13 t222.length co13)) (fun _ hk => hk.2) (.slice Ao17 t225.length co17)) (fun _ hk => hk.2) (.slice Ao35 x233002_1.length co35)) (fun _ hk => hk.2) (.int .i64 t231)) (fun _ hk => hk.1) | exact Kd.R_mono (Kd.R_mono (Kd.R_far (p := ⟨gb217, 3, none⟩) (Kd.R_far (p := ⟨gb217, 2, none⟩) (Kd.R_far (p := ⟨gb217, 1, none⟩) (Kd.R_far (p := ⟨gb217, 0, none⟩) (Kd.R_types HO_233000.out BK217.out (by decide)) (fun _ hk => hk.2) (.slice Ao13 t222.length co13)) (fun _ hk => hk.2) (.slice Ao17 t225.length co17)) (fun _ hk => hk.2) (.slice Ao35 x233002_1.length co35)) (fun _ hk => hk.2) (.int .i64 t231)) (fun _ hk => hk.1)) (fun _ h_ => h_.2), by (with_reducible repeat (first | apply Kd.R_alloc | apply Kd.R_drewN | apply Kd.R_drew)); first | exact Kd.R_mono (Kd.R_far (p := ⟨gb217, 3, none⟩) (Kd.R_far (p := ⟨gb217, 2, none⟩) (Kd.R_far (p := ⟨gb217, 1, none⟩) (Kd.R_far (p := ⟨gb217, 0, none⟩) (Kd.R_types HO_233001.out BK217.out (by decide)) (fun _ hk => hk.2) (.slice Ao13 t222.length co13)) (fun _ hk => hk.2) (.slice Ao17 t225.length co17)) (fun _ hk => hk.2) (.slice Ao35 x233002_1.length co35)) (fun _ hk => hk.2) (.int .i64 t231)) (fun _ hk => hk.1) | exact Kd.R_mono (Kd.R_mono (Kd.R_far (p := ⟨gb217, 3, none⟩) (Kd.R_far (p := ⟨gb217, 2, none⟩) (Kd.R_far (p := ⟨gb217, 1, none⟩) (Kd.R_far (p := ⟨gb217, 0, none⟩) (Kd.R_types HO_233001.out BK217.out (by decide)) (fun _ hk => hk.2) (.slice Ao13 t222.length co13)) (fun _ hk => hk.2) (.slice Ao17 t225.length co17)) (fun _ hk => hk.2) (.slice Ao35 x233002_1.length co35)) (fun _ hk => hk.2) (.int .i64 t231)) (fun _ hk => hk.1)) (fun _ h_ => h_.2), by (with_reducible repeat (first | apply Kd.S_alloc | apply Kd.S_drewN | apply Kd.S_drew)); first | exact Kd.S_mono (Kd.S_far (p := ⟨gb217, 3, none⟩) (Kd.S_far (p := ⟨gb217, 2, none⟩) (Kd.S_far (p := ⟨gb217, 1, none⟩) (Kd.S_far (p := ⟨gb217, 0, none⟩) (Kd.S_types HO_233002.out BK217.out (by decide)) (fun _ hk => hk.2) (.slice Ao13 t222.length co13)) (fun _ hk => hk.2) (.slice Ao17 t225.length co17)) (fun _ hk => hk.2) (.slice Ao35 x233002_1.length co35)) (fun _ hk => hk.2) (.int .i64 t231)) (fun _ hk => trivial) | exact Kd.S_mono (Kd.S_mono (Kd.S_far (p := ⟨gb217, 3, none⟩) (Kd.S_far (p := ⟨gb217, 2, none⟩) (Kd.S_far (p := ⟨gb217, 1, none⟩) (Kd.S_far (p := ⟨gb217, 0, none⟩) (Kd.S_types HO_233002.out BK217.out (by decide)) (fun _ hk => hk.2) (.slice Ao13 t222.length co13)) (fun _ hk => hk.2) (.slice Ao17 t225.length co17)) (fun _ hk => hk.2) (.slice Ao35 x233002_1.length co35)) (fun _ hk => hk.2) (.int .i64 t231)) (fun _ hk => trivial)) (fun _ h_ => h_.2), au59⟩
   rw [if_pos c19] at H; have c19b0 : decide (x22_1 < (t228.length : Int)) = true := decide_eq_true c19; clear c19
   by_cases c20 : 0 ≤ x22_1
   rotate_left
   · rw [if_neg c20] at H; exact absurd H (by simp)
   rw [if_pos c20] at H; have c20b0 : decide (0 ≤ x22_1) = true := decide_eq_true c20; clear c20
   by_cases c21 : x22_1 < (t218.length : Int)
   rotate_left
   · rw [if_neg c21] at H; exact absurd H (by simp)
   rw [if_pos c21] at H; have c21b0 : decide (x22_1 < (t218.length : Int)) = true := decide_eq_true c21; clear c21
   by_cases c22 : x22_1 < (x233002_1.length : Int)
   rotate_left
   · rw [if_neg c22] at H; exact absurd H (by simp)
   rw [if_pos c22] at H; have c22b0 : decide (x22_1 < (x233002_1.length : Int)) = true := decide_eq_true c22; clear c22; obtain ⟨y234, hy234⟩ : ∃ y_ : List (S52), y_ = (x233002_1.set (x22_1 : Int).toNat (⟨(rd_T52 x233002_1 x22_1).f0, (rd_T52 x233002_1 x22_1).f1, (rd_T52 x233002_1 x22_1).f2, rdOf false t218 x22_1, (rd_T52 x233002_1 x22_1).f4, (rd_T52 x233002_1 x22_1).f5, (rd_T52 x233002_1 x22_1).f6, (rd_T52 x233002_1 x22_1).f7⟩ : S52)) := ⟨_, rfl⟩
   replace H : (pure_Say.l0 k1 t218 (t228.length : Int) (wrap64 (x22_1 + 1)) t222 t225 y234 t231) = some (r1, r2, r3, r4, r5) := by first | (rw [hy234]; with_reducible exact H) | (have H2_ := (Option.bind_some _ _).symm.trans H; rw [hy234]; with_reducible exact H2_) | (have H2_ := (Option.bind_some _ _).symm.trans H; with_reducible exact H2_) | with_reducible exact H | (rw [hy234]; exact H) | exact H
   have Ny234 := Aside0.mk hy234; clear hy234; have H' := Aside0.mk H; clear H
   try go_wp2
   (try (rw [drewN_self wr]; generalize hq_ : World.drewN wr _ = wr; have n0_ : Aside0 (Kd.R k86 86 wr w.heap.size (fun k_ => some k_ ≠ (.slice Ao17 t225.length co17 : Value).ownBlock) (.slice Ao13 t222.length co13) t222) := ⟨by rw [← hq_]; exact (by (with_reducible repeat (first | apply Kd.R_alloc | apply Kd.R_drewN | apply Kd.R_drew)); first | exact HO_233000.out | exact Kd.R_mono (HO_233000.out) (fun _ h_ => h_.2))⟩; have n1_ : Aside0 (Kd.R k86 86 wr w.heap.size (fun k_ => some k_ ≠ (.slice Ao13 t222.length co13 : Value).ownBlock) (.slice Ao17 t225.length co17) t225) := ⟨by rw [← hq_]; exact (by (with_reducible repeat (first | apply Kd.R_alloc | apply Kd.R_drewN | apply Kd.R_drew)); first | exact HO_233001.out | exact Kd.R_mono (HO_233001.out) (fun _ h_ => h_.2))⟩; have n2_ : Aside0 (Kd.S k52 52 wr w.heap.size (fun _ => True) u233002 x233002_1) := ⟨by rw [← hq_]; exact (by (with_reducible repeat (first | apply Kd.S_alloc | apply Kd.S_drewN | apply Kd.S_drew)); first | exact HO_233002.out | exact Kd.S_mono (HO_233002.out) (fun _ h_ => h_.2))⟩; have n3_ : Aside0 (Kd.R Kd.bool 4 wr w.heap.size (fun _ => True) v219 t218) := ⟨by rw [← hq_]; exact (au36)⟩; have n4_ : Aside0 (wr.heap[gb216]? = some (.cells #[.slice A0_0 l0_0.length c0_0, .slice A0_1 l0_1.length c0_1, .slice A0_2 l0_2.length c0_2, .int .i64 a0_3] 25 (0, 0))) := ⟨by rw [← hq_]; exact (au38)⟩; have n5_ : Aside0 (wr.heap[gb217]? = some (.cells #[.slice none 0 0, .slice none 0 0, .slice none 0 0, .int .i64 0] 25 (0, 0))) := ⟨by rw [← hq_]; exact (au57)⟩; have n6_ : Aside0 (wr.heap[gb232]? = some (.cells #[.slice Ao13 t222.length co13, .slice Ao17 t225.length co17, u233002, .int .i64 t231] 25 (0, 0))) := ⟨by rw [← hq_]; exact (by (with_reducible repeat (first | refine blk_drewN ?_ _ | refine blk_drew ?_ | refine blk_alloc ?_ _)); exact BK232.out)⟩; have n7_ : Aside0 (Below w.heap.size w wr) := ⟨by rw [← hq_]; exact (au59)⟩; clear HO_233000 HO_233001 HO_233002 HO_4 BK216 BK217 BK232 HB hq_; have HO_233000 := n0_; have HO_233001 := n1_; have HO_233002 := n2_; have HO_4 := n3_; have BK216 := n4_; have BK217 := n5_; have BK232 := n6_; have HB := n7_; clear n0_ n1_ n2_ n3_ n4_ n5_ n6_ n7_))
   (try obtain ⟨hcu24_0, hcu24_1, hcu24_2, hcu24_3, hfu24_0, hfu24_1, hfu24_2, hfu24_3⟩ := blk_all4 BK216.out); (try obtain ⟨hcu25_0, hcu25_1, hcu25_2, hcu25_3, hfu25_0, hfu25_1, hfu25_2, hfu25_3⟩ := blk_all4 BK217.out); (try obtain ⟨hcu26_0, hcu26_1, hcu26_2, hcu26_3, hfu26_0, hfu26_1, hfu26_2, hfu26_3⟩ := blk_all4 BK232.out); have n0_ := Aside0.mk (Kd.R_drew HO_4.out); have n1_ := Aside0.mk (Kd.R_drew HO_233000.out); have n2_ := Aside0.mk (Kd.R_drew HO_233001.out); have n3_ := Aside0.mk (Kd.S_drew HO_233002.out); have n4_ := Aside0.mk (blk_drew BK216.out); have n5_ := Aside0.mk (blk_drew BK217.out); have n6_ := Aside0.mk (blk_drew BK232.out); have n7_ := Aside0.mk (below_drew1 HB.out); clear HO_4; clear HO_233000; clear HO_233001; clear HO_233002; clear BK216; clear BK217; clear BK232; clear HB; have HO_4 := n0_; have HO_233000 := n1_; have HO_233001 := n2_; have HO_233002 := n3_; have BK216 := n4_; have BK217 := n5_; have BK232 := n6_; have HB := n7_; clear n0_ n1_ n2_ n3_ n4_ n5_ n6_ n7_; obtain ⟨Ao28, co28, eo28⟩ := Kd.R_slice HO_4.out
   (first | subst eo28 | (injection eo28 with f1_ f2_ f3_; have f4_ := f1_.symm; have f5_ := f3_.symm; clear f1_ f2_ f3_; subst f4_; subst f5_))
   have p233 : 0 ≤ (x22_1 : Int) := of_decide_eq_true (au3); have q233 : x22_1 < (t218.length : Int) := of_decide_eq_true (au3); obtain ⟨ad233, e233, hx233_0⟩ := Kd.at_bool (Kd.R_reads' HO_4.out).2.2 x22_1 p233 q233; cases e233; replace p233 := eq_true p233; replace q233 := eq_true q233; have p23 : 0 ≤ (x22_1 : Int) := of_decide_eq_true (au3); have q23 : (x22_1 : Int) < ((x233002_1.length : Int) : Int) := of_decide_eq_true (au3); obtain ⟨go23, co23, eo23, gb23, gl23, cl23, HG23⟩ := Kd.S_form HO_233002.out (by omega)
   (first | cases eo23 | (injection eo23 with ea_ en_ ec_; (first | subst ea_ | (injection ea_ with ea_; subst ea_)); subst ec_; clear en_))
   have GB23 := Aside0.mk gb23; have GG23 := Aside0.mk HG23; clear gb23 gl23 HG23; obtain ⟨_, ce23, hcl23, hM23, hcc23, hfr23, _, _⟩ := Kd.S_elem HO_233002.out z52 (x22_1 : Int) p23 q23; obtain ⟨ve23_0, ve23_1, ve23_7, rfl, ge23_0, ge23_1, ge23_7⟩ := k52_openM hM23; have hx23_0 : World.cell? _ ⟨go23, (x22_1 : Int).toNat * 8, none⟩ = some (ve23_0) := hcc23 0 _ rfl; have hx23_1 : World.cell? _ ⟨go23, (x22_1 : Int).toNat * 8 + 1, none⟩ = some (ve23_1) := hcc23 1 _ rfl; have hx23_2 : World.cell? _ ⟨go23, (x22_1 : Int).toNat * 8 + 2, none⟩ = some (.int .u8 ((rd_T52 x233002_1 x22_1).f2)) := hcc23 2 _ rfl; have hx23_3 : World.cell? _ ⟨go23, (x22_1 : Int).toNat * 8 + 3, none⟩ = some (.bool ((rd_T52 x233002_1 x22_1).f3)) := hcc23 3 _ rfl; have hx23_4 : World.cell? _ ⟨go23, (x22_1 : Int).toNat * 8 + 4, none⟩ = some (.int .i64 ((rd_T52 x233002_1 x22_1).f4)) := hcc23 4 _ rfl; have hx23_5 : World.cell? _ ⟨go23, (x22_1 : Int).toNat * 8 + 5, none⟩ = some (.int .i64 ((rd_T52 x233002_1 x22_1).f5)) := hcc23 5 _ rfl; have hx23_6 : World.cell? _ ⟨go23, (x22_1 : Int).toNat * 8 + 6, none⟩ = some (.int .i64 ((rd_T52 x233002_1 x22_1).f6)) := hcc23 6 _ rfl; have hx23_7 : World.cell? _ ⟨go23, (x22_1 : Int).toNat * 8 + 7, none⟩ = some (ve23_7) := hcc23 7 _ rfl; have hf23_0 : World.frozen? _ ⟨go23, (x22_1 : Int).toNat * 8, none⟩ = false := hfr23 0; have hf23_1 : World.frozen? _ ⟨go23, (x22_1 : Int).toNat * 8 + 1, none⟩ = false := hfr23 1; have hf23_2 : World.frozen? _ ⟨go23, (x22_1 : Int).toNat * 8 + 2, none⟩ = false := hfr23 2; have hf23_3 : World.frozen? _ ⟨go23, (x22_1 : Int).toNat * 8 + 3, none⟩ = false := hfr23 3
   have hf23_4 : World.frozen? _ ⟨go23, (x22_1 : Int).toNat * 8 + 4, none⟩ = false := hfr23 4; have hf23_5 : World.frozen? _ ⟨go23, (x22_1 : Int).toNat * 8 + 5, none⟩ = false := hfr23 5; have hf23_6 : World.frozen? _ ⟨go23, (x22_1 : Int).toNat * 8 + 6, none⟩ = false := hfr23 6; have hf23_7 : World.frozen? _ ⟨go23, (x22_1 : Int).toNat * 8 + 7, none⟩ = false := hfr23 7; clear hcl23 hcc23 hfr23 hM23; replace p23 := eq_true p23; replace q23 := eq_true q23; have HX29 := Aside0.mk (show Kd.S k52 52 _ w.heap.size (fun k_ => ((fun _ => True)) k_ ∧ ¬ (fun _ => False) k_) (.slice (some ⟨go23, 0, none⟩) x233002_1.length co23) x233002_1 from (by exact Kd.S_mono HO_233002.out (fun k_ hk => ⟨trivial, fun e_ => e_⟩))); obtain ⟨oki29, ce29, hcl29, hM29, hcc29, hfr29, hoki29, hH29⟩ := Kd.S_elem HX29.out z52 (x22_1 : Int) (of_decide_eq_true (au3)) (by have h_ : (x22_1 : Int) < ((x233002_1.length : Int) : Int) := of_decide_eq_true (au3); first | exact h_ | (have e_ := (Kd.S_reads' HO_233002.out).1; omega) | simpa using h_); obtain ⟨ve29_0, ve29_1, ve29_7, rfl, ge29_0, ge29_1, ge29_7⟩ := k52_openM hM29; have HP29 := (Kd.S_seg hH29 (of_decide_eq_true (au3)) (by have h_ : (x22_1 : Int) < ((x233002_1.length : Int) : Int) := of_decide_eq_true (au3); first | exact h_ | (have e_ := (Kd.S_reads' HO_233002.out).1; omega) | simpa using h_) (seg := [.bool (rdOf false t218 x22_1)]) (j := 3) (show 4 ≤ 8 from by decide) (x' := (⟨(rd_T52 x233002_1 x22_1).f0, (rd_T52 x233002_1 x22_1).f1, (rd_T52 x233002_1 x22_1).f2, rdOf false t218 x22_1, (rd_T52 x233002_1 x22_1).f4, (rd_T52 x233002_1 x22_1).f5, (rd_T52 x233002_1 x22_1).f6, (rd_T52 x233002_1 x22_1).f7⟩ : S52)) (k52_mkM _ _ _ (⟨(rd_T52 x233002_1 x22_1).f0, (rd_T52 x233002_1 x22_1).f1, (rd_T52 x233002_1 x22_1).f2, rdOf false t218 x22_1, (rd_T52 x233002_1 x22_1).f4, (rd_T52 x233002_1 x22_1).f5, (rd_T52 x233002_1 x22_1).f6, (rd_T52 x233002_1 x22_1).f7⟩ : S52) ge29_0 ge29_1 ge29_7) (fun _ hk => Or.inl hk) (fun _ hk => hk.elim)).1
   rw [← Ny234.out] at HP29; have HQ29 := Aside0.mk HP29; clear hcl29 hcc29 hfr29 hM29 HP29; refine start_ (n := 10) (S := fun w' => w'.cell? ⟨gb232, 0, none⟩ = some (.slice Ao13 t222.length co13) ∧ w'.cell? ⟨gb232, 1, none⟩ = some (.slice Ao17 t225.length co17) ∧ w'.cell? ⟨gb232, 2, none⟩ = some (.slice (some ⟨go23, 0, none⟩) x233002_1.length co23) ∧ w'.cell? ⟨gb232, 3, none⟩ = some (.int .i64 t231) ∧ w'.cell? (ad233.add (x22_1).toNat) = some (.bool (rdOf false t218 x22_1))) (ds := [9]) #[false, false, false, false, false, false, false, false, false, false] (by kernel_rfl) rfl rfl ⟨(blk_cell BK232.out 0).trans rfl, (blk_cell BK232.out 1).trans rfl, (blk_cell BK232.out 2).trans rfl, (blk_cell BK232.out 3).trans rfl, hx233_0⟩ (fun hHeld => ?_); refine with_tabW pure_Say.tab8 pure_Say.bits8 (fun HT_ HW_ => ?_)
   generalize wr.drew = w27 at HO_4 HO_233000 HO_233001 HO_233002 BK216 BK217 BK232 HB GG23 HQ29 hf23_0 hf23_1 hf23_2 hf23_3 hf23_4 hf23_5 hf23_6 hf23_7 hx233_0 hx23_0 hx23_1 hx23_2 hx23_3 hx23_4 hx23_5 hx23_6 hx23_7 hHeld ⊢
   refine pure_ (i := 0) (N := some 25) (v := ?_) (a' := ?_) #[true, false, false, false, false, false, false, false, false, false] rfl rfl (any_of HT_.out (by kernel_rfl)) (fun _ _ _ h => h) (Or.inl ⟨by rfl, ?_⟩) ?_ ?_; rotate_left
   · intro w'; go_simp; with_reducible rfl
   rotate_left
   · simp only [Act.put, List.setIfInBounds_toArray, List.set_cons_zero, List.set_cons_succ, i64_w, i32_w]; rfl
   refine pure_ (i := 2) (N := some 27) (v := ?_) (a' := ?_) #[true, false, true, false, false, false, false, false, false, false] rfl rfl (any_of HT_.out (by kernel_rfl)) (fun _ _ _ h => h) (Or.inl ⟨by rfl, ?_⟩) ?_ ?_; rotate_left
   · intro w'; go_simp; with_reducible rfl
   rotate_left
   · simp only [Act.put, List.setIfInBounds_toArray, List.set_cons_zero, List.set_cons_succ, i64_w, i32_w]; rfl
   refine pure_ (i := 3) (N := some 28) (v := ?_) (a' := ?_) #[true, false, true, true, false, false, false, false, false, false] rfl rfl (any_of HT_.out (by kernel_rfl)) (fun _ _ _ h => h) (Or.inl ⟨by rfl, ?_⟩) ?_ ?_; rotate_left
   · intro w'; go_simp; with_reducible rfl
   rotate_left
   · simp only [Act.put, List.setIfInBounds_toArray, List.set_cons_zero, List.set_cons_succ, i64_w, i32_w]; rfl
   refine pure_ (i := 4) (N := some 29) (v := ?_) (a' := ?_) #[true, false, true, true, true, false, false, false, false, false] rfl rfl (any_of HT_.out (by kernel_rfl)) (fun _ _ _ h => h) (Or.inl ⟨by rfl, ?_⟩) ?_ ?_; rotate_left
   · intro w'; go_simp; with_reducible rfl
   rotate_left
   · simp only [Act.put, List.setIfInBounds_toArray, List.set_cons_zero, List.set_cons_succ, i64_w, i32_w]; rfl
   refine pure_ (i := 5) (N := some 30) (v := ?_) (a' := ?_) #[true, false, true, true, true, true, false, false, false, false] rfl rfl (any_of HT_.out (by kernel_rfl)) (fun _ _ _ h => h) (Or.inl ⟨by rfl, ?_⟩) ?_ ?_; rotate_left
   · intro w'; go_simp; with_reducible rfl
   rotate_left
   · simp only [Act.put, List.setIfInBounds_toArray, List.set_cons_zero, List.set_cons_succ, i64_w, i32_w]; rfl
   refine take_ (i := 1) (N := some 26) (v := ?_) (a' := ?_) #[true, true, true, true, true, true, false, false, false, false] rfl rfl (take_ofW HT_.out HW_.out (by kernel_rfl)) (fun _ _ _ h => h) (Or.inl ⟨by rfl, ?_⟩) hHeld ?_ ?_; rotate_left
   · rintro w' ⟨s0, s1, s2, s3, s4⟩; go_simp; with_reducible rfl
   rotate_left
   · simp only [Act.put, List.setIfInBounds_toArray, List.set_cons_zero, List.set_cons_succ, i64_w, i32_w]; rfl
   refine take_ (i := 6) (N := some 31) (v := ?_) (a' := ?_) #[true, true, true, true, true, true, true, false, false, false] rfl rfl (take_ofW HT_.out HW_.out (by kernel_rfl)) (fun _ _ _ h => h) (Or.inl ⟨by rfl, ?_⟩) hHeld ?_ ?_; rotate_left
   · rintro w' ⟨s0, s1, s2, s3, s4⟩; go_simp; with_reducible rfl
   rotate_left
   · simp only [Act.put, List.setIfInBounds_toArray, List.set_cons_zero, List.set_cons_succ, i64_w, i32_w]; rfl
   refine pure_ (i := 7) (N := some 32) (v := ?_) (a' := ?_) #[true, true, true, true, true, true, true, true, false, false] rfl rfl (any_of HT_.out (by kernel_rfl)) (fun _ _ _ h => h) (Or.inl ⟨by rfl, ?_⟩) ?_ ?_; rotate_left
   · intro w'; go_simp; with_reducible rfl
   rotate_left
   · simp only [Act.put, List.setIfInBounds_toArray, List.set_cons_zero, List.set_cons_succ, i64_w, i32_w]; rfl
   refine pure_ (i := 8) (N := some 33) (v := ?_) (a' := ?_) #[true, true, true, true, true, true, true, true, true, false] rfl rfl (any_of HT_.out (by kernel_rfl)) (fun _ _ _ h => h) (Or.inl ⟨by rfl, ?_⟩) ?_ ?_; rotate_left
   · intro w'; go_simp; with_reducible rfl
   rotate_left
   · simp only [Act.put, List.setIfInBounds_toArray, List.set_cons_zero, List.set_cons_succ, i64_w, i32_w]; rfl
   refine last_ (i := 9) (N := none) #[true, true, true, true, true, true, true, true, true, true] rfl rfl (one_of HT_.out (by kernel_rfl)) (by decide) (fun K hK => ?_); refine skip_ (w1 := ?_) (by rfl) rfl ?_ ?_; rotate_left
   · go_simp; rfl
   refine hK.out _ _ ?_; clear hK K; refine done_ (done_of HT_.out (by kernel_rfl)) ?_
   try go_wp2
   go_roundg k1
   case measure => have := HK1.out; omega
   case rel => exact ⟨(wrap64 (x22_1 + 1)), (y234), (.slice (some ⟨go23, 0, none⟩) x233002_1.length co23), (au17), H', ⟨by have := HK1.out; omega⟩, ⟨by (with_reducible repeat (first | apply Kd.R_alloc | apply Kd.R_drewN | apply Kd.R_drew)); first | exact Kd.R_mono (Kd.R_far (p := ⟨go23, (x22_1 : Int).toNat * 8 + 3, none⟩) (Kd.R_types HO_4.out GG23.out (by decide)) (fun _ hk => hk.2) (.bool (rdOf false t218 x22_1))) (fun _ hk => trivial) | exact Kd.R_mono (Kd.R_mono (Kd.R_far (p := ⟨go23, (x22_1 : Int).toNat * 8 + 3, none⟩) (Kd.R_types HO_4.out GG23.out (by decide)) (fun _ hk => hk.2) (.bool (rdOf false t218 x22_1))) (fun _ hk => trivial)) (fun _ h_ => h_.2)⟩, ⟨by (with_reducible repeat (first | apply Kd.R_alloc | apply Kd.R_drewN | apply Kd.R_drew)); first | exact Kd.R_mono (Kd.R_far (p := ⟨go23, (x22_1 : Int).toNat * 8 + 3, none⟩) (Kd.R_types HO_233000.out GG23.out (by decide)) (fun _ hk => hk.2) (.bool (rdOf false t218 x22_1))) (fun _ hk => hk.1) | exact Kd.R_mono (Kd.R_mono (Kd.R_far (p := ⟨go23, (x22_1 : Int).toNat * 8 + 3, none⟩) (Kd.R_types HO_233000.out GG23.out (by decide)) (fun _ hk => hk.2) (.bool (rdOf false t218 x22_1))) (fun _ hk => hk.1)) (fun _ h_ => h_.2)⟩, ⟨by (with_reducible repeat (first | apply Kd.R_alloc | apply Kd.R_drewN | apply Kd.R_drew)); first | exact Kd.R_mono (Kd.R_far (p := ⟨go23, (x22_1 : Int).toNat * 8 + 3, none⟩) (Kd.R_types HO_233001.out GG23.out (by decide)) (fun _ hk => hk.2) (.bool (rdOf false t218 x22_1))) (fun _ hk => hk.1) | exact Kd.R_mono (Kd.R_mono (Kd.R_far (p := ⟨go23, (x22_1 : Int).toNat * 8 + 3, none⟩) (Kd.R_types HO_233001.out GG23.out (by decide)) (fun _ hk => hk.2) (.bool (rdOf false t218 x22_1))) (fun _ hk => hk.1)) (fun _ h_ => h_.2)⟩, ⟨by (with_reducible repeat (first | apply Kd.S_alloc | apply Kd.S_drewN | apply Kd.S_drew)); first | exact HQ29.out | exact Kd.S_mono (HQ29.out) (fun _ h_ => h_.2)⟩, ⟨by (with_reducible repeat (first | refine blk_drewN ?_ _ | refine blk_drew ?_ | refine blk_alloc ?_ _)); refine blk_far ?_ (by have h_ := Kd.S_ne HO_233002.out BK216.out (by decide); intro e_; exact h_ (by rw [e_]; rfl)) _; (with_reducible repeat (first | refine blk_drewN ?_ _ | refine blk_drew ?_ | refine blk_alloc ?_ _)); exact BK216.out⟩, ⟨by (with_reducible repeat (first | refine blk_drewN ?_ _ | refine blk_drew ?_ | refine blk_alloc ?_ _)); refine blk_far ?_ (by have h_ := Kd.S_ne HO_233002.out BK217.out (by decide); intro e_; exact h_ (by rw [e_]; rfl)) _; (with_reducible repeat (first | refine blk_drewN ?_ _ | refine blk_drew ?_ | refine blk_alloc ?_ _)); exact BK217.out⟩, ⟨by (with_reducible repeat (first | refine blk_drewN ?_ _ | refine blk_drew ?_ | refine blk_alloc ?_ _)); refine blk_far ?_ (by have h_ := Kd.S_ne HO_233002.out BK232.out (by decide); intro e_; exact h_ (by rw [e_]; rfl)) _; (with_reducible repeat (first | refine blk_drewN ?_ _ | refine blk_drew ?_ | refine blk_alloc ?_ _)); exact BK232.out⟩, ⟨by repeat (first | (with_reducible first | exact HB.out | apply below_alloc | apply pw_below_drewN | apply below_drew1 | refine below_set ?_ GB23.out | refine below_set ?_ GE216.out | refine below_set ?_ GE217.out | refine below_set ?_ GE232.out) | exact HB.out | exact ⟨HB.out.os, HB.out.tape, HB.out.output, HB.out.size, HB.out.block⟩)⟩⟩
/-! ### capstanref13_Same: function 19 -/
def capstanref13_Same.l0 : Nat → List Bool → List Bool → Int → Option (Bool)
 | 0, _, _, _ => none
 | k + 1, x0, x1, x5 => if x5 < (x0.length : Int) then (if 0 ≤ x5 then (if x5 < (x1.length : Int) then (if ((rdOf false x0 x5) != (rdOf false x1 x5)) = true then (some false) else (capstanref13_Same.l0 k x0 x1 (wrap64 (x5 + 1)))) else (none)) else (none)) else (some true)
def capstanref13_Same.f (k : Nat) (l0 : List Bool) (l1 : List Bool) : Option (Bool) := if (l0.length : Int) = (l1.length : Int) then (capstanref13_Same.l0 k l0 l1 0) else (some false)
theorem capstanref13_Same.mono_l : ∀ k, (∀ y0 y1 y2, LeO (capstanref13_Same.l0 k y0 y1 y2) (capstanref13_Same.l0 (k + 1) y0 y1 y2))
 | 0 => fun _ _ _ r h => by simp [capstanref13_Same.l0] at h
 | k + 1 => by
  have ih0 := capstanref13_Same.mono_l k
  ·
   intro y0 y1 y2
   unfold capstanref13_Same.l0
   repeat' first
   | (with_reducible exact ih0 _ _ _)
   | (with_reducible exact LeO.refl _)
   | (with_reducible exact LeO.none _)
   | (with_reducible refine LeO.ite ?_ ?_)
   | (with_reducible refine LeO.bind ?_ (fun _ => ?_))
   | exact ih0 _ _ _
   | exact LeO.none _
   | refine LeO.ite ?_ ?_
   | refine LeO.bind ?_ (fun _ => ?_)
theorem capstanref13_Same.mono : ∀ a0 a1 k, LeO (capstanref13_Same.f k a0 a1) (capstanref13_Same.f (k + 1) a0 a1) := by
 intro a0 a1 k; have ih0 := capstanref13_Same.mono_l k
 unfold capstanref13_Same.f
 repeat' first
   | (with_reducible exact ih0 _ _ _)
   | (with_reducible exact LeO.refl _)
   | (with_reducible exact LeO.none _)
   | (with_reducible refine LeO.ite ?_ ?_)
   | (with_reducible refine LeO.bind ?_ (fun _ => ?_))
   | exact ih0 _ _ _
   | exact LeO.none _
   | refine LeO.ite ?_ ?_
   | refine LeO.bind ?_ (fun _ => ?_)
set_option maxHeartbeats 8000000 in
set_option maxRecDepth 100000 in
theorem capstanref13_Same.calls (k : Nat) (A0 : Option Addr) (c0 : Nat) (l0 : List Bool) (A1 : Option Addr) (c1 : Nat) (l1 : List Bool) (r : Bool) (w : World) (hr0 : Kd.C Kd.bool w A0 l0.length l0) (hc0 : l0.length ≤ c0) (hr1 : Kd.C Kd.bool w A1 l1.length l1) (hc1 : l1.length ≤ c1) (h : capstanref13_Same.f k l0 l1 = some r) :
  Calls Try.prog 19 #[.slice A0 l0.length c0, .slice A1 l1.length c1] w fun e w' => e = .returned (.bool r) ∧ Drawn0 w w' := by
 have HR0 := Aside0.mk hr0; have HC0 := Aside0.mk hc0; clear hr0 hc0; have HR1 := Aside0.mk hr1; have HC1 := Aside0.mk hc1; clear hr1 hc1; have H : (if (l0.length : Int) = (l1.length : Int) then (capstanref13_Same.l0 k l0 l1 0) else (some false)) = some r := h; clear h
 by_cases c3 : (l0.length : Int) = (l1.length : Int)
 rotate_left
 ·
  rw [if_neg c3] at H; have c3b0 : ((l0.length : Int) == (l1.length : Int)) = false := beq_eq_false_iff_ne.mpr c3; have c3b1 : ((l0.length : Int) != (l1.length : Int)) = true := bne_iff_ne.mpr c3
  have c3b2 : (l0.length == l1.length) = false := by first | simpa using c3 | (simp at c3 ⊢; omega)
  obtain rfl := Option.some.inj H
  go_enter Try.func19, Try.ntmps19
  go_wp2
  repeat (go_quiet (fail); try go_wp2)
  go_ret; exact ⟨au17, au46⟩

 rw [if_pos c3] at H; have c3b0 : ((l0.length : Int) == (l1.length : Int)) = true := beq_iff_eq.mpr c3; have c3b1 : ((l0.length : Int) != (l1.length : Int)) = false := bne_eq_false_iff_eq.mpr c3
 have c3b2 : (l0.length == l1.length) = true := by first | simpa using c3 | (simp at c3 ⊢; omega)
 clear c3; have H' := Aside0.mk H; clear H
 go_enter Try.func19, Try.ntmps19
 go_wp2
 repeat (go_quiet (fail); try go_wp2)
 go_loopg [5] k (fun kq v5 w' => ∃ (x5_1 : Int), v5 = .int .i64 x5_1 ∧ Aside0 (capstanref13_Same.l0 kq l0 l1 x5_1 = some r) ∧ Aside0 (kq ≤ k) ∧ Drawn0 w w')
 case atStart => exact ⟨(0), (au17), H', ⟨Nat.le_refl _⟩, au46⟩
 case round =>
  clear H'; (try clear c1); (try clear p2); (try clear c3); (try clear c3b0); (try clear c3b1); (try clear c3b2); obtain ⟨x5_1, rfl, HA, HK1, ⟨m1, rfl⟩⟩ := hrel
  cases gk with
  | zero => exact absurd HA.out (by simp [capstanref13_Same.l0])
  | succ k1 =>
   have H := HA.out; clear HA; simp only [capstanref13_Same.l0] at H
   by_cases c4 : x5_1 < (l0.length : Int)
   rotate_left
   ·
    rw [if_neg c4] at H; have c4b0 : decide (x5_1 < (l0.length : Int)) = false := decide_eq_false c4; clear c4; obtain rfl := Option.some.inj H; go_wp2
    repeat (go_quiet (fail); try go_wp2)
    go_ret; exact ⟨au17, au46⟩
   rw [if_pos c4] at H; have c4b0 : decide (x5_1 < (l0.length : Int)) = true := decide_eq_true c4; clear c4
   by_cases c5 : 0 ≤ x5_1
   rotate_left
   · rw [if_neg c5] at H; exact absurd H (by simp)
   rw [if_pos c5] at H; have c5b0 : decide (0 ≤ x5_1) = true := decide_eq_true c5; clear c5
   by_cases c6 : x5_1 < (l1.length : Int)
   rotate_left
   · rw [if_neg c6] at H; exact absurd H (by simp)
   rw [if_pos c6] at H; have c6b0 : decide (x5_1 < (l1.length : Int)) = true := decide_eq_true c6; clear c6
   by_cases c7 : ((rdOf false l0 x5_1) != (rdOf false l1 x5_1)) = true
   ·
    rw [if_pos c7] at H; have c7b0 : ((rdOf false l0 x5_1) != (rdOf false l1 x5_1)) = true := c7; (try (have c7b1 : decide ((rdOf false l0 x5_1) = (rdOf false l1 x5_1)) = false := by first | (simp; done) | simpa using c7)); (try (have c7b2 : ((rdOf false l0 x5_1) == (rdOf false l1 x5_1)) = false := by first | (simp; done) | simpa using c7)); (try (have c7b3 : ¬ ((rdOf false l0 x5_1) = (rdOf false l1 x5_1)) := by first | (simp; done) | simpa using c7)); clear c7; obtain rfl := Option.some.inj H; have p235 : 0 ≤ (x5_1 : Int) := of_decide_eq_true (au3); have q235 : x5_1 < (l0.length : Int) := of_decide_eq_true (au3); obtain ⟨ad235, e235, hx235_0⟩ := Kd.at_bool HR0.out x5_1 p235 q235; cases e235; replace p235 := eq_true p235; replace q235 := eq_true q235; have p236 : 0 ≤ (x5_1 : Int) := of_decide_eq_true (au3); have q236 : x5_1 < (l1.length : Int) := of_decide_eq_true (au3); obtain ⟨ad236, e236, hx236_0⟩ := Kd.at_bool HR1.out x5_1 p236 q236; cases e236; replace p236 := eq_true p236; replace q236 := eq_true q236; go_wp2
    repeat (go_quiet (fail); try go_wp2)
    go_ret; exact ⟨au17, au46⟩
   ·
    rw [if_neg c7] at H
    have c7b0 : ((rdOf false l0 x5_1) != (rdOf false l1 x5_1)) = false := by simpa using c7
    (try (have c7b1 : decide ((rdOf false l0 x5_1) = (rdOf false l1 x5_1)) = true := by first | (simp; done) | simpa using c7)); (try (have c7b2 : ((rdOf false l0 x5_1) == (rdOf false l1 x5_1)) = true := by first | (simp; done) | simpa using c7)); clear c7; have H' := Aside0.mk H; clear H; have p235 : 0 ≤ (x5_1 : Int) := of_decide_eq_true (au3); have q235 : x5_1 < (l0.length : Int) := of_decide_eq_true (au3); obtain ⟨ad235, e235, hx235_0⟩ := Kd.at_bool HR0.out x5_1 p235 q235; cases e235; replace p235 := eq_true p235; replace q235 := eq_true q235; have p236 : 0 ≤ (x5_1 : Int) := of_decide_eq_true (au3); have q236 : x5_1 < (l1.length : Int) := of_decide_eq_true (au3); obtain ⟨ad236, e236, hx236_0⟩ := Kd.at_bool HR1.out x5_1 p236 q236; cases e236; replace p236 := eq_true p236; replace q236 := eq_true q236; go_wp2
    repeat (go_quiet (fail); try go_wp2)
    go_roundg k1
    case measure => have := HK1.out; omega
    case rel => exact ⟨(wrap64 (x5_1 + 1)), (au17), H', ⟨by have := HK1.out; omega⟩, au46⟩
/-! ### capstanref03_Same: function 46 -/
def capstanref03_Same.l0 : Nat → List (S86) → List (S86) → Int → Option (Bool)
 | 0, _, _, _ => none
 | k + 1, x0, x1, x5 => if x5 < (x0.length : Int) then (if 0 ≤ x5 then (if x5 < (x1.length : Int) then (if (!(((rd_T86 x0 x5).f0) == ((rd_T86 x1 x5).f0)) || (!(((rd_T86 x0 x5).f1) == ((rd_T86 x1 x5).f1)) || (!(((rd_T86 x0 x5).f2) == ((rd_T86 x1 x5).f2))))) = true then (some false) else (capstanref03_Same.l0 k x0 x1 (wrap64 (x5 + 1)))) else (none)) else (none)) else (some true)
def capstanref03_Same.f (k : Nat) (l0 : List (S86)) (l1 : List (S86)) : Option (Bool) := if (l0.length : Int) = (l1.length : Int) then (capstanref03_Same.l0 k l0 l1 0) else (some false)
theorem capstanref03_Same.mono_l : ∀ k, (∀ y0 y1 y2, LeO (capstanref03_Same.l0 k y0 y1 y2) (capstanref03_Same.l0 (k + 1) y0 y1 y2))
 | 0 => fun _ _ _ r h => by simp [capstanref03_Same.l0] at h
 | k + 1 => by
  have ih0 := capstanref03_Same.mono_l k
  ·
   intro y0 y1 y2
   unfold capstanref03_Same.l0
   repeat' first
   | (with_reducible exact ih0 _ _ _)
   | (with_reducible exact LeO.refl _)
   | (with_reducible exact LeO.none _)
   | (with_reducible refine LeO.ite ?_ ?_)
   | (with_reducible refine LeO.bind ?_ (fun _ => ?_))
   | exact ih0 _ _ _
   | exact LeO.none _
   | refine LeO.ite ?_ ?_
   | refine LeO.bind ?_ (fun _ => ?_)
theorem capstanref03_Same.mono : ∀ a0 a1 k, LeO (capstanref03_Same.f k a0 a1) (capstanref03_Same.f (k + 1) a0 a1) := by
 intro a0 a1 k; have ih0 := capstanref03_Same.mono_l k
 unfold capstanref03_Same.f
 repeat' first
   | (with_reducible exact ih0 _ _ _)
   | (with_reducible exact LeO.refl _)
   | (with_reducible exact LeO.none _)
   | (with_reducible refine LeO.ite ?_ ?_)
   | (with_reducible refine LeO.bind ?_ (fun _ => ?_))
   | exact ih0 _ _ _
   | exact LeO.none _
   | refine LeO.ite ?_ ?_
   | refine LeO.bind ?_ (fun _ => ?_)
set_option maxHeartbeats 8000000 in
set_option maxRecDepth 100000 in
theorem capstanref03_Same.calls (k : Nat) (A0 : Option Addr) (c0 : Nat) (l0 : List (S86)) (A1 : Option Addr) (c1 : Nat) (l1 : List (S86)) (r : Bool) (w : World) (hr0 : Kd.C k86 w A0 l0.length l0) (hc0 : l0.length ≤ c0) (hr1 : Kd.C k86 w A1 l1.length l1) (hc1 : l1.length ≤ c1) (h : capstanref03_Same.f k l0 l1 = some r) :
  Calls Try.prog 46 #[.slice A0 l0.length c0, .slice A1 l1.length c1] w fun e w' => e = .returned (.bool r) ∧ Drawn0 w w' := by
 have hu86 := Try.underlying86; have HR0 := Aside0.mk hr0; have HC0 := Aside0.mk hc0; clear hr0 hc0; have HR1 := Aside0.mk hr1; have HC1 := Aside0.mk hc1; clear hr1 hc1; have H : (if (l0.length : Int) = (l1.length : Int) then (capstanref03_Same.l0 k l0 l1 0) else (some false)) = some r := h; clear h
 by_cases c3 : (l0.length : Int) = (l1.length : Int)
 rotate_left
 ·
  rw [if_neg c3] at H; have c3b0 : ((l0.length : Int) == (l1.length : Int)) = false := beq_eq_false_iff_ne.mpr c3; have c3b1 : ((l0.length : Int) != (l1.length : Int)) = true := bne_iff_ne.mpr c3
  have c3b2 : (l0.length == l1.length) = false := by first | simpa using c3 | (simp at c3 ⊢; omega)
  obtain rfl := Option.some.inj H
  go_enter Try.func46, Try.ntmps46
  go_wp2
  repeat (go_quiet (fail); try go_wp2)
  go_ret; exact ⟨au17, au46⟩

 rw [if_pos c3] at H; have c3b0 : ((l0.length : Int) == (l1.length : Int)) = true := beq_iff_eq.mpr c3; have c3b1 : ((l0.length : Int) != (l1.length : Int)) = false := bne_eq_false_iff_eq.mpr c3
 have c3b2 : (l0.length == l1.length) = true := by first | simpa using c3 | (simp at c3 ⊢; omega)
 clear c3; have H' := Aside0.mk H; clear H
 go_enter Try.func46, Try.ntmps46
 go_wp2
 repeat (go_quiet (fail); try go_wp2)
 go_loopg [5] k (fun kq v5 w' => ∃ (x5_1 : Int), v5 = .int .i64 x5_1 ∧ Aside0 (capstanref03_Same.l0 kq l0 l1 x5_1 = some r) ∧ Aside0 (kq ≤ k) ∧ Drawn0 w w')
 case atStart => exact ⟨(0), (au17), H', ⟨Nat.le_refl _⟩, au46⟩
 case round =>
  clear H'; (try clear c1); (try clear p2); (try clear c3); (try clear c3b0); (try clear c3b1); (try clear c3b2); obtain ⟨x5_1, rfl, HA, HK1, ⟨m1, rfl⟩⟩ := hrel
  cases gk with
  | zero => exact absurd HA.out (by simp [capstanref03_Same.l0])
  | succ k1 =>
   have H := HA.out; clear HA; simp only [capstanref03_Same.l0] at H
   by_cases c4 : x5_1 < (l0.length : Int)
   rotate_left
   ·
    rw [if_neg c4] at H; have c4b0 : decide (x5_1 < (l0.length : Int)) = false := decide_eq_false c4; clear c4; obtain rfl := Option.some.inj H; go_wp2
    repeat (go_quiet (fail); try go_wp2)
    go_ret; exact ⟨au17, au46⟩
   rw [if_pos c4] at H; have c4b0 : decide (x5_1 < (l0.length : Int)) = true := decide_eq_true c4; clear c4
   by_cases c5 : 0 ≤ x5_1
   rotate_left
   · rw [if_neg c5] at H; exact absurd H (by simp)
   rw [if_pos c5] at H; have c5b0 : decide (0 ≤ x5_1) = true := decide_eq_true c5; clear c5
   by_cases c6 : x5_1 < (l1.length : Int)
   rotate_left
   · rw [if_neg c6] at H; exact absurd H (by simp)
   rw [if_pos c6] at H; have c6b0 : decide (x5_1 < (l1.length : Int)) = true := decide_eq_true c6; clear c6
   by_cases c7 : (!(((rd_T86 l0 x5_1).f0) == ((rd_T86 l1 x5_1).f0)) || (!(((rd_T86 l0 x5_1).f1) == ((rd_T86 l1 x5_1).f1)) || (!(((rd_T86 l0 x5_1).f2) == ((rd_T86 l1 x5_1).f2))))) = true
   ·
    rw [if_pos c7] at H; have c7b0 : (!(((rd_T86 l0 x5_1).f0) == ((rd_T86 l1 x5_1).f0)) || (!(((rd_T86 l0 x5_1).f1) == ((rd_T86 l1 x5_1).f1)) || (!(((rd_T86 l0 x5_1).f2) == ((rd_T86 l1 x5_1).f2))))) = true := c7; clear c7; obtain rfl := Option.some.inj H; have p237 : 0 ≤ (x5_1 : Int) := of_decide_eq_true (au3); have q237 : x5_1 < (l0.length : Int) := of_decide_eq_true (au3); obtain ⟨ad237, e237, hx237_0, hx237_1, hx237_2⟩ := at_T86 HR0.out x5_1 p237 q237; cases e237; replace p237 := eq_true p237; replace q237 := eq_true q237; have p238 : 0 ≤ (x5_1 : Int) := of_decide_eq_true (au3); have q238 : x5_1 < (l1.length : Int) := of_decide_eq_true (au3); obtain ⟨ad238, e238, hx238_0, hx238_1, hx238_2⟩ := at_T86 HR1.out x5_1 p238 q238; cases e238; replace p238 := eq_true p238; replace q238 := eq_true q238; go_wp2
    repeat (go_quiet (fail); try go_wp2)
    go_ret; exact ⟨au17, au46⟩
   ·
    rw [if_neg c7] at H
    have c7b0 : (!(((rd_T86 l0 x5_1).f0) == ((rd_T86 l1 x5_1).f0)) || (!(((rd_T86 l0 x5_1).f1) == ((rd_T86 l1 x5_1).f1)) || (!(((rd_T86 l0 x5_1).f2) == ((rd_T86 l1 x5_1).f2))))) = false := by simpa using c7
    clear c7; have H' := Aside0.mk H; clear H; have p237 : 0 ≤ (x5_1 : Int) := of_decide_eq_true (au3); have q237 : x5_1 < (l0.length : Int) := of_decide_eq_true (au3); obtain ⟨ad237, e237, hx237_0, hx237_1, hx237_2⟩ := at_T86 HR0.out x5_1 p237 q237; cases e237; replace p237 := eq_true p237; replace q237 := eq_true q237; have p238 : 0 ≤ (x5_1 : Int) := of_decide_eq_true (au3); have q238 : x5_1 < (l1.length : Int) := of_decide_eq_true (au3); obtain ⟨ad238, e238, hx238_0, hx238_1, hx238_2⟩ := at_T86 HR1.out x5_1 p238 q238; cases e238; replace p238 := eq_true p238; replace q238 := eq_true q238; go_wp2
    repeat (go_quiet (fail); try go_wp2)
    go_roundg k1
    case measure => have := HK1.out; omega
    case rel => exact ⟨(wrap64 (x5_1 + 1)), (au17), H', ⟨by have := HK1.out; omega⟩, au46⟩
/-! ### capstanref07_SameKinds: function 67 -/
def capstanref07_SameKinds.l0 : Nat → List Int → List Int → Int → Option (Bool)
 | 0, _, _, _ => none
 | k + 1, x0, x1, x5 => if x5 < (x0.length : Int) then (if 0 ≤ x5 then (if x5 < (x1.length : Int) then (if (rd x0 x5) = (rd x1 x5) then (capstanref07_SameKinds.l0 k x0 x1 (wrap64 (x5 + 1))) else (some false)) else (none)) else (none)) else (some true)
def capstanref07_SameKinds.f (k : Nat) (l0 : List Int) (l1 : List Int) : Option (Bool) := if (l0.length : Int) = (l1.length : Int) then (capstanref07_SameKinds.l0 k l0 l1 0) else (some false)
theorem capstanref07_SameKinds.mono_l : ∀ k, (∀ y0 y1 y2, LeO (capstanref07_SameKinds.l0 k y0 y1 y2) (capstanref07_SameKinds.l0 (k + 1) y0 y1 y2))
 | 0 => fun _ _ _ r h => by simp [capstanref07_SameKinds.l0] at h
 | k + 1 => by
  have ih0 := capstanref07_SameKinds.mono_l k
  ·
   intro y0 y1 y2
   unfold capstanref07_SameKinds.l0
   repeat' first
   | (with_reducible exact ih0 _ _ _)
   | (with_reducible exact LeO.refl _)
   | (with_reducible exact LeO.none _)
   | (with_reducible refine LeO.ite ?_ ?_)
   | (with_reducible refine LeO.bind ?_ (fun _ => ?_))
   | exact ih0 _ _ _
   | exact LeO.none _
   | refine LeO.ite ?_ ?_
   | refine LeO.bind ?_ (fun _ => ?_)
theorem capstanref07_SameKinds.mono : ∀ a0 a1 k, LeO (capstanref07_SameKinds.f k a0 a1) (capstanref07_SameKinds.f (k + 1) a0 a1) := by
 intro a0 a1 k; have ih0 := capstanref07_SameKinds.mono_l k
 unfold capstanref07_SameKinds.f
 repeat' first
   | (with_reducible exact ih0 _ _ _)
   | (with_reducible exact LeO.refl _)
   | (with_reducible exact LeO.none _)
   | (with_reducible refine LeO.ite ?_ ?_)
   | (with_reducible refine LeO.bind ?_ (fun _ => ?_))
   | exact ih0 _ _ _
   | exact LeO.none _
   | refine LeO.ite ?_ ?_
   | refine LeO.bind ?_ (fun _ => ?_)
set_option maxHeartbeats 8000000 in
set_option maxRecDepth 100000 in
theorem capstanref07_SameKinds.calls (k : Nat) (A0 : Option Addr) (c0 : Nat) (l0 : List Int) (A1 : Option Addr) (c1 : Nat) (l1 : List Int) (r : Bool) (w : World) (hr0 : Kd.C (Kd.int .u8) w A0 l0.length l0) (hc0 : l0.length ≤ c0) (hr1 : Kd.C (Kd.int .u8) w A1 l1.length l1) (hc1 : l1.length ≤ c1) (h : capstanref07_SameKinds.f k l0 l1 = some r) :
  Calls Try.prog 67 #[.slice A0 l0.length c0, .slice A1 l1.length c1] w fun e w' => e = .returned (.bool r) ∧ Drawn0 w w' := by
 have HR0 := Aside0.mk hr0; have HC0 := Aside0.mk hc0; clear hr0 hc0; have HR1 := Aside0.mk hr1; have HC1 := Aside0.mk hc1; clear hr1 hc1; have H : (if (l0.length : Int) = (l1.length : Int) then (capstanref07_SameKinds.l0 k l0 l1 0) else (some false)) = some r := h; clear h
 by_cases c3 : (l0.length : Int) = (l1.length : Int)
 rotate_left
 ·
  rw [if_neg c3] at H; have c3b0 : ((l0.length : Int) == (l1.length : Int)) = false := beq_eq_false_iff_ne.mpr c3; have c3b1 : ((l0.length : Int) != (l1.length : Int)) = true := bne_iff_ne.mpr c3
  have c3b2 : (l0.length == l1.length) = false := by first | simpa using c3 | (simp at c3 ⊢; omega)
  obtain rfl := Option.some.inj H
  go_enter Try.func67, Try.ntmps67
  go_wp2
  repeat (go_quiet (fail); try go_wp2)
  go_ret; exact ⟨au17, au46⟩

 rw [if_pos c3] at H; have c3b0 : ((l0.length : Int) == (l1.length : Int)) = true := beq_iff_eq.mpr c3; have c3b1 : ((l0.length : Int) != (l1.length : Int)) = false := bne_eq_false_iff_eq.mpr c3
 have c3b2 : (l0.length == l1.length) = true := by first | simpa using c3 | (simp at c3 ⊢; omega)
 clear c3; have H' := Aside0.mk H; clear H
 go_enter Try.func67, Try.ntmps67
 go_wp2
 repeat (go_quiet (fail); try go_wp2)
 go_loopg [5] k (fun kq v5 w' => ∃ (x5_1 : Int), v5 = .int .i64 x5_1 ∧ Aside0 (capstanref07_SameKinds.l0 kq l0 l1 x5_1 = some r) ∧ Aside0 (kq ≤ k) ∧ Drawn0 w w')
 case atStart => exact ⟨(0), (au17), H', ⟨Nat.le_refl _⟩, au46⟩
 case round =>
  clear H'; (try clear c1); (try clear p2); (try clear c3); (try clear c3b0); (try clear c3b1); (try clear c3b2); obtain ⟨x5_1, rfl, HA, HK1, ⟨m1, rfl⟩⟩ := hrel
  cases gk with
  | zero => exact absurd HA.out (by simp [capstanref07_SameKinds.l0])
  | succ k1 =>
   have H := HA.out; clear HA; simp only [capstanref07_SameKinds.l0] at H
   by_cases c4 : x5_1 < (l0.length : Int)
   rotate_left
   ·
    rw [if_neg c4] at H; have c4b0 : decide (x5_1 < (l0.length : Int)) = false := decide_eq_false c4; clear c4; obtain rfl := Option.some.inj H; go_wp2
    repeat (go_quiet (fail); try go_wp2)
    go_ret; exact ⟨au17, au46⟩
   rw [if_pos c4] at H; have c4b0 : decide (x5_1 < (l0.length : Int)) = true := decide_eq_true c4; clear c4
   by_cases c5 : 0 ≤ x5_1
   rotate_left
   · rw [if_neg c5] at H; exact absurd H (by simp)
   rw [if_pos c5] at H; have c5b0 : decide (0 ≤ x5_1) = true := decide_eq_true c5; clear c5
   by_cases c6 : x5_1 < (l1.length : Int)
   rotate_left
   · rw [if_neg c6] at H; exact absurd H (by simp)
   rw [if_pos c6] at H; have c6b0 : decide (x5_1 < (l1.length : Int)) = true := decide_eq_true c6; clear c6
   by_cases c7 : (rd l0 x5_1) = (rd l1 x5_1)
   rotate_left
   ·
    rw [if_neg c7] at H; have c7b0 : ((rd l0 x5_1) == (rd l1 x5_1)) = false := beq_eq_false_iff_ne.mpr c7; have c7b1 : ((rd l0 x5_1) != (rd l1 x5_1)) = true := bne_iff_ne.mpr c7; obtain rfl := Option.some.inj H; have p239 : 0 ≤ (x5_1 : Int) := of_decide_eq_true (au3); have q239 : x5_1 < (l0.length : Int) := of_decide_eq_true (au3); obtain ⟨ad239, e239, hx239_0⟩ := Kd.at_int HR0.out x5_1 p239 q239; cases e239; replace p239 := eq_true p239; replace q239 := eq_true q239; have p240 : 0 ≤ (x5_1 : Int) := of_decide_eq_true (au3); have q240 : x5_1 < (l1.length : Int) := of_decide_eq_true (au3); obtain ⟨ad240, e240, hx240_0⟩ := Kd.at_int HR1.out x5_1 p240 q240; cases e240; replace p240 := eq_true p240; replace q240 := eq_true q240; go_wp2
    repeat (go_quiet (fail); try go_wp2)
    go_ret; exact ⟨au17, au46⟩
   rw [if_pos c7] at H; have c7b0 : ((rd l0 x5_1) == (rd l1 x5_1)) = true := beq_iff_eq.mpr c7; have c7b1 : ((rd l0 x5_1) != (rd l1 x5_1)) = false := bne_eq_false_iff_eq.mpr c7; clear c7; have H' := Aside0.mk H; clear H; have p239 : 0 ≤ (x5_1 : Int) := of_decide_eq_true (au3); have q239 : x5_1 < (l0.length : Int) := of_decide_eq_true (au3); obtain ⟨ad239, e239, hx239_0⟩ := Kd.at_int HR0.out x5_1 p239 q239; cases e239; replace p239 := eq_true p239; replace q239 := eq_true q239; have p240 : 0 ≤ (x5_1 : Int) := of_decide_eq_true (au3); have q240 : x5_1 < (l1.length : Int) := of_decide_eq_true (au3); obtain ⟨ad240, e240, hx240_0⟩ := Kd.at_int HR1.out x5_1 p240 q240; cases e240; replace p240 := eq_true p240; replace q240 := eq_true q240; go_wp2
   repeat (go_quiet (fail); try go_wp2)
   go_roundg k1
   case measure => have := HK1.out; omega
   case rel => exact ⟨(wrap64 (x5_1 + 1)), (au17), H', ⟨by have := HK1.out; omega⟩, au46⟩
end Go.Proofs.Ytkmnachdibhdhaa.U
