/- Contracts of the functions of this seat (each: the call of the function does what the plain Lean function of the same name tells; the conditions stand in each statement). Written by a program of this session and by hand; checked by Lean. -/
import Derived.Test.YtkmnachdibhdhaaT0
import Derived.Test.YtkmnachdibhdhaaT1
import Derived.Test.YtkmnachdibhdhaaT2
import Derived.Test.YtkmnachdibhdhaaT3
import Derived.Test.YtkmnachdibhdhaaT4
namespace Go.Proofs.Ytkmnachdibhdhaa.T
open Go.RowKit Go.Proofs.YtkmnachdibhdhaaW.PrintWords Go.Proofs.YtkmnachdibhdhaaW.PrintLast Go.Proofs.YtkmnachdibhdhaaW.PrintMore
attribute [local go_sem] max2_int min2_int max_two min_two max_three min_three max_four min_four   -- for this text's walks alone
set_option linter.unusedVariables false
set_option linter.unusedSimpArgs false

/-! ### pure_Say: function 18 -/
def pure_Say.l0 : Nat → List Bool → Int → Int → List (S86) → List (S86) → List (S52) → Int → Option ((List (S86)) × (List (S86)) × (List (S52)) × Int × Int)
 | 0, _, _, _, _, _, _, _ => none
 | k + 1, x4, x21, x22, x139000, x139001, x139002, x139003 => if x22 < x21 then (if 0 ≤ x22 then (if x22 < (x4.length : Int) then (if x22 < (x139002.length : Int) then (pure_Say.l0 k x4 x21 (wrap64 (x22 + 1)) x139000 x139001 (x139002.set (x22 : Int).toNat (⟨(rd_T52 x139002 x22).f0, (rd_T52 x139002 x22).f1, (rd_T52 x139002 x22).f2, rdOf false x4 x22, (rd_T52 x139002 x22).f4, (rd_T52 x139002 x22).f5, (rd_T52 x139002 x22).f6, (rd_T52 x139002 x22).f7⟩ : S52)) x139003) else (none)) else (none)) else (none)) else (some (x139000, x139001, x139002, x139003, 0))
def pure_Say.f (k : Nat) (l0_0 : List (S86)) (l0_1 : List (S86)) (l0_2 : List (S52)) (a0_3 : Int) : Option ((List (S86)) × (List (S86)) × (List (S52)) × Int × Int) := (pure_Pure.f k l0_0 l0_1 l0_2 a0_3).bind fun bt124 => (if bt124.2 = 0 then ((module_Copy.f l0_0 l0_1 l0_2 a0_3).bind fun bt128 => (pure_Say.l0 k bt124.1 (bt128.2.2.1.length : Int) 0 bt128.1 bt128.2.1 bt128.2.2.1 bt128.2.2.2)) else (some (([] : List (S86)), ([] : List (S86)), ([] : List (S52)), 0, bt124.2)))
theorem pure_Say.mono_l : ∀ k, (∀ y0 y1 y2 y3 y4 y5 y6, LeO (pure_Say.l0 k y0 y1 y2 y3 y4 y5 y6) (pure_Say.l0 (k + 1) y0 y1 y2 y3 y4 y5 y6))
 | 0 => fun _ _ _ _ _ _ _ r h => by simp [pure_Say.l0] at h
 | k + 1 => by
  have ih0 := pure_Say.mono_l k
  ·
   intro y0 y1 y2 y3 y4 y5 y6
   unfold pure_Say.l0
   repeat' first
   | (with_reducible exact ih0 _ _ _ _ _ _ _)
   | (with_reducible exact pure_Pure.mono _ _ _ _ _)
   | (with_reducible exact LeO.refl _)
   | (with_reducible exact LeO.none _)
   | (with_reducible refine LeO.ite ?_ ?_)
   | (with_reducible refine LeO.bind ?_ (fun _ => ?_))
   | exact ih0 _ _ _ _ _ _ _
   | exact pure_Pure.mono _ _ _ _ _
   | exact LeO.none _
   | refine LeO.ite ?_ ?_
   | refine LeO.bind ?_ (fun _ => ?_)
theorem pure_Say.mono : ∀ a0 a1 a2 a3 k, LeO (pure_Say.f k a0 a1 a2 a3) (pure_Say.f (k + 1) a0 a1 a2 a3) := by
 intro a0 a1 a2 a3 k
 have ih0 := pure_Say.mono_l k
 unfold pure_Say.f
 repeat' first
   | (with_reducible exact ih0 _ _ _ _ _ _ _)
   | (with_reducible exact pure_Pure.mono _ _ _ _ _)
   | (with_reducible exact LeO.refl _)
   | (with_reducible exact LeO.none _)
   | (with_reducible refine LeO.ite ?_ ?_)
   | (with_reducible refine LeO.bind ?_ (fun _ => ?_))
   | exact ih0 _ _ _ _ _ _ _
   | exact pure_Pure.mono _ _ _ _ _
   | exact LeO.none _
   | refine LeO.ite ?_ ?_
   | refine LeO.bind ?_ (fun _ => ?_)
def pure_Say.T8 : Bool × List (List Nat × List Nat) := (true, [([], []), ([0], [0]), ([], []), ([], []), ([], []), ([3, 4], [3, 4]), ([5], [5]), ([1, 2, 0, 1, 2, 3, 4, 5, 6], [1, 2]), ([7, 0, 1, 2, 3, 4, 5, 6], [7]), ([8, 6, 0, 1, 2, 3, 4, 5, 6], [6, 8])])
def pure_Say.B8 : List Nat := [0, 1, 0, 0, 0, 24, 56, 127, 255, 511]
theorem pure_Say.tab8 : rtab .any (opsOf Try.f18 8) = pure_Say.T8 := by kernel_rfl
theorem pure_Say.bits8 : waitsOk pure_Say.T8.2 pure_Say.B8 = true := by kernel_rfl
set_option maxHeartbeats 8000000 in
set_option maxRecDepth 100000 in
theorem pure_Say.calls (k : Nat) (A0_0 : Option Addr) (c0_0 : Nat) (l0_0 : List (S86)) (A0_1 : Option Addr) (c0_1 : Nat) (l0_1 : List (S86)) (A0_2 : Option Addr) (c0_2 : Nat) (l0_2 : List (S52)) (a0_3 : Int) (r1 : List (S86)) (r2 : List (S86)) (r3 : List (S52)) (r4 : Int) (r5 : Int) (w : World) (hr0_0 : Kd.C k86 w A0_0 l0_0.length l0_0) (hc0_0 : l0_0.length ≤ c0_0) (hr0_1 : Kd.C k86 w A0_1 l0_1.length l0_1) (hc0_1 : l0_1.length ≤ c0_1) (hr0_2 : Kd.C k52 w A0_2 l0_2.length l0_2) (hc0_2 : l0_2.length ≤ c0_2) (h : pure_Say.f k l0_0 l0_1 l0_2 a0_3 = some (r1, r2, r3, r4, r5)) :
  Calls Try.prog 18 #[.agg #[.slice A0_0 l0_0.length c0_0, .slice A0_1 l0_1.length c0_1, .slice A0_2 l0_2.length c0_2, .int .i64 a0_3]] w fun e w' => ∃ v0_ v1_ v2_ : Value, e = .returned (.tuple #[.agg #[v0_, v1_, v2_, .int .i64 r4], .int .i64 r5]) ∧ Kd.R k86 86 w' w.heap.size (fun k_ => some k_ ≠ (v1_ : Value).ownBlock) v0_ r1 ∧ Kd.R k86 86 w' w.heap.size (fun k_ => some k_ ≠ (v0_ : Value).ownBlock) v1_ r2 ∧ Kd.S k52 52 w' w.heap.size (fun _ => True) v2_ r3 ∧ Below w.heap.size w w' := by
 have hu25 := Try.underlying25
 have HR0_0 := Aside0.mk hr0_0
 have HC0_0 := Aside0.mk hc0_0
 clear hr0_0 hc0_0
 have HR0_1 := Aside0.mk hr0_1
 have HC0_1 := Aside0.mk hc0_1
 clear hr0_1 hc0_1
 have HR0_2 := Aside0.mk hr0_2
 have HC0_2 := Aside0.mk hc0_2
 clear hr0_2 hc0_2
 have HB := Aside0.mk (Below.refl w.heap.size w)
 have H : ((pure_Pure.f k l0_0 l0_1 l0_2 a0_3).bind fun bt124 => (if bt124.2 = 0 then ((module_Copy.f l0_0 l0_1 l0_2 a0_3).bind fun bt128 => (pure_Say.l0 k bt124.1 (bt128.2.2.1.length : Int) 0 bt128.1 bt128.2.1 bt128.2.2.1 bt128.2.2.2)) else (some (([] : List (S86)), ([] : List (S86)), ([] : List (S52)), 0, bt124.2)))) = some (r1, r2, r3, r4, r5) := h
 clear h
 replace H := Option.bind_eq_some_iff.mp H
 obtain ⟨⟨t124, t127⟩, A20, H⟩ := H
 replace H : (if t127 = 0 then ((module_Copy.f l0_0 l0_1 l0_2 a0_3).bind fun bt128 => (pure_Say.l0 k t124 (bt128.2.2.1.length : Int) 0 bt128.1 bt128.2.1 bt128.2.2.1 bt128.2.2.2)) else (some (([] : List (S86)), ([] : List (S86)), ([] : List (S52)), 0, t127))) = some (r1, r2, r3, r4, r5) := H
 have A2 := Aside0.mk A20
 clear A20
 by_cases c3 : t127 = 0
 ·
  rw [if_pos c3] at H
  have c3b0 : (t127 == 0) = true := beq_iff_eq.mpr c3
  have c3b1 : (t127 != 0) = false := bne_eq_false_iff_eq.mpr c3
  clear c3
  replace H := Option.bind_eq_some_iff.mp H
  obtain ⟨⟨t128, t131, t134, t137⟩, A40, H⟩ := H
  replace H : (pure_Say.l0 k t124 (t134.length : Int) 0 t128 t131 t134 t137) = some (r1, r2, r3, r4, r5) := H
  have A4 := Aside0.mk A40
  clear A40
  have H' := Aside0.mk H
  clear H
  go_enter Try.func18, Try.ntmps18
  go_wp2_with (first | ((with_reducible refine gate_dst (N := 1) rfl ?_); refine box_event ?hg (N := 1) ?hd (cs := #[.slice A0_0 l0_0.length c0_0, .slice A0_1 l0_1.length c0_1, .slice A0_2 l0_2.length c0_2, .int .i64 a0_3]) (t := 25) ?hr ?_; (case hd => rfl); (case hg => rfl); (case hr => first | (go_simp; done) | (go_simp; rfl)); intro gb122 hg w5 hbox hb; have n0_ := Aside0.mk (below_step (by repeat (first | (with_reducible first | exact HB.out | apply below_alloc | apply pw_below_drewN | apply below_drew1) | exact HB.out | exact ⟨HB.out.os, HB.out.tape, HB.out.output, HB.out.size, HB.out.block⟩)) hb); have n1_ := Aside0.mk (hbox); have n2_ := Aside0.mk ((by rw [hg]; exact (below_size (by repeat (first | (with_reducible first | exact HB.out | apply below_alloc | apply pw_below_drewN | apply below_drew1) | exact HB.out | exact ⟨HB.out.os, HB.out.tape, HB.out.output, HB.out.size, HB.out.block⟩))) : w.heap.size ≤ gb122)); have n3_ := Aside0.mk ((by rw [hg]; exact (below_size (by repeat (first | (with_reducible first | exact HB.out | apply below_alloc | apply pw_below_drewN | apply below_drew1) | exact HB.out | exact ⟨HB.out.os, HB.out.tape, HB.out.output, HB.out.size, HB.out.block⟩))) : w.heap.size ≤ gb122)); clear HB; have HB := n0_; have BK122 := n1_; have GW122 := n2_; have GE122 := n3_; clear n0_ n1_ n2_ n3_; clear hb hbox hg) | ((with_reducible refine gate_dst (N := 2) rfl ?_); refine box_event ?hg (N := 2) ?hd (cs := #[.slice none 0 0, .slice none 0 0, .slice none 0 0, .int .i64 0]) (t := 25) ?hr ?_; (case hd => rfl); (case hg => rfl); (case hr => first | (go_simp; done) | (go_simp; rfl)); intro gb123 hg w6 hbox hb; have n0_ := Aside0.mk (blk_below (g := gb122) (o := .cells #[.slice A0_0 l0_0.length c0_0, .slice A0_1 l0_1.length c0_1, .slice A0_2 l0_2.length c0_2, .int .i64 a0_3] 25 (0, 0)) (by (with_reducible repeat (first | refine blk_drewN ?_ _ | refine blk_drew ?_ | refine blk_alloc ?_ _)); exact BK122.out) hb); have n1_ := Aside0.mk (below_step (by repeat (first | (with_reducible first | exact HB.out | apply below_alloc | apply pw_below_drewN | apply below_drew1 | refine below_set ?_ GE122.out) | exact HB.out | exact ⟨HB.out.os, HB.out.tape, HB.out.output, HB.out.size, HB.out.block⟩)) hb); have n2_ := Aside0.mk (hbox); have n3_ := Aside0.mk ((by rw [hg]; exact (below_size (by repeat (first | (with_reducible first | exact HB.out | apply below_alloc | apply pw_below_drewN | apply below_drew1 | refine below_set ?_ GE122.out) | exact HB.out | exact ⟨HB.out.os, HB.out.tape, HB.out.output, HB.out.size, HB.out.block⟩))) : w.heap.size ≤ gb123)); have n4_ := Aside0.mk ((by rw [hg]; exact (below_size (by repeat (first | (with_reducible first | exact HB.out | apply below_alloc | apply pw_below_drewN | apply below_drew1 | refine below_set ?_ GE122.out) | exact HB.out | exact ⟨HB.out.os, HB.out.tape, HB.out.output, HB.out.size, HB.out.block⟩))) : w.heap.size ≤ gb123)); have n5_ := Aside0.mk ((by rw [hg]; exact Nat.ne_of_lt (blk_lt (g := gb122) (o := .cells #[.slice A0_0 l0_0.length c0_0, .slice A0_1 l0_1.length c0_1, .slice A0_2 l0_2.length c0_2, .int .i64 a0_3] 25 (0, 0)) (by (with_reducible repeat (first | refine blk_drewN ?_ _ | refine blk_drew ?_ | refine blk_alloc ?_ _)); exact BK122.out)) : gb122 ≠ gb123)); have n6_ := Aside0.mk ((by rw [hg]; exact Nat.ne_of_gt (blk_lt (g := gb122) (o := .cells #[.slice A0_0 l0_0.length c0_0, .slice A0_1 l0_1.length c0_1, .slice A0_2 l0_2.length c0_2, .int .i64 a0_3] 25 (0, 0)) (by (with_reducible repeat (first | refine blk_drewN ?_ _ | refine blk_drew ?_ | refine blk_alloc ?_ _)); exact BK122.out)) : gb123 ≠ gb122)); clear BK122; clear HB; have BK122 := n0_; have HB := n1_; have BK123 := n2_; have GW123 := n3_; have GE123 := n4_; have NB122_123 := n5_; have NB123_122 := n6_; clear n0_ n1_ n2_ n3_ n4_ n5_ n6_; clear hb hbox hg; have hnb7 := NB122_123.out; have hnc7 := NB123_122.out; have hcz8_0 : w6.cell? ⟨gb122, 0, none⟩ = some (.slice A0_0 l0_0.length c0_0) := (blk_cell BK122.out 0).trans rfl; have hcz8_1 : w6.cell? ⟨gb122, 1, none⟩ = some (.slice A0_1 l0_1.length c0_1) := (blk_cell BK122.out 1).trans rfl; have hcz8_2 : w6.cell? ⟨gb122, 2, none⟩ = some (.slice A0_2 l0_2.length c0_2) := (blk_cell BK122.out 2).trans rfl; have hcz8_3 : w6.cell? ⟨gb122, 3, none⟩ = some (.int .i64 a0_3) := (blk_cell BK122.out 3).trans rfl; have hfz8_0 := blk_frozen BK122.out 0; have hfz8_1 := blk_frozen BK122.out 1; have hfz8_2 := blk_frozen BK122.out 2; have hfz8_3 := blk_frozen BK122.out 3) | ((with_reducible refine gate_callee (f := 17) rfl ?_); refine goesL_ (some 10) rfl rfl Try.func17 (by kernel_rfl) rfl #[.agg #[.slice A0_0 l0_0.length c0_0, .slice A0_1 l0_1.length c0_1, .slice A0_2 l0_2.length c0_2, .int .i64 a0_3]] rfl (by (try simp only [List.map_toArray, List.map_cons, List.map_nil]); first | done | rfl | (simp only [List.length_drop, List.length_take]; rfl)) ?_; (with_reducible refine (pure_Pure.calls k _ _ l0_0 _ _ l0_1 _ _ l0_2 a0_3 t124 t127 _ ?side1 ?side2 ?side3 ?side4 ?side5 ?side6 A2.out).mono ?_); (case side1 => repeat (first | exact (Kd.C_below HR0_0.out HB.out) | (with_reducible refine Kd.C_alloc ?_ _) | (with_reducible refine Kd.C_drewN ?_ _) | (with_reducible refine Kd.C_drew ?_))); (case side2 => exact HC0_0.out); (case side3 => repeat (first | exact (Kd.C_below HR0_1.out HB.out) | (with_reducible refine Kd.C_alloc ?_ _) | (with_reducible refine Kd.C_drewN ?_ _) | (with_reducible refine Kd.C_drew ?_))); (case side4 => exact HC0_1.out); (case side5 => repeat (first | exact (Kd.C_below HR0_2.out HB.out) | (with_reducible refine Kd.C_alloc ?_ _) | (with_reducible refine Kd.C_drewN ?_ _) | (with_reducible refine Kd.C_drew ?_))); (case side6 => exact HC0_2.out); rintro e w9 ⟨v125, rfl, ho0, hb⟩; refine ⟨_, rfl, ?_⟩; have n0_ := Aside0.mk (Kd.R_lower ho0 (below_size (by repeat (first | (with_reducible first | exact HB.out | apply below_alloc | apply pw_below_drewN | apply below_drew1 | refine below_set ?_ GE122.out | refine below_set ?_ GE123.out) | exact HB.out | exact ⟨HB.out.os, HB.out.tape, HB.out.output, HB.out.size, HB.out.block⟩)))); have n1_ := Aside0.mk (blk_below (g := gb122) (o := .cells #[.slice A0_0 l0_0.length c0_0, .slice A0_1 l0_1.length c0_1, .slice A0_2 l0_2.length c0_2, .int .i64 a0_3] 25 (0, 0)) (by (with_reducible repeat (first | refine blk_drewN ?_ _ | refine blk_drew ?_ | refine blk_alloc ?_ _)); exact BK122.out) hb); have n2_ := Aside0.mk (blk_below (g := gb123) (o := .cells #[.slice none 0 0, .slice none 0 0, .slice none 0 0, .int .i64 0] 25 (0, 0)) (by (with_reducible repeat (first | refine blk_drewN ?_ _ | refine blk_drew ?_ | refine blk_alloc ?_ _)); exact BK123.out) hb); have n3_ := Aside0.mk (below_step (by repeat (first | (with_reducible first | exact HB.out | apply below_alloc | apply pw_below_drewN | apply below_drew1 | refine below_set ?_ GE122.out | refine below_set ?_ GE123.out) | exact HB.out | exact ⟨HB.out.os, HB.out.tape, HB.out.output, HB.out.size, HB.out.block⟩)) hb); clear BK122; clear BK123; clear HB; have HO126 := n0_; have BK122 := n1_; have BK123 := n2_; have HB := n3_; clear n0_ n1_ n2_ n3_; (try clear hb); (try clear hb2); (try clear hk); (try clear hi); (try clear ho0); have hcz10_0 : w9.cell? ⟨gb122, 0, none⟩ = some (.slice A0_0 l0_0.length c0_0) := (blk_cell BK122.out 0).trans rfl; have hcz10_1 : w9.cell? ⟨gb122, 1, none⟩ = some (.slice A0_1 l0_1.length c0_1) := (blk_cell BK122.out 1).trans rfl; have hcz10_2 : w9.cell? ⟨gb122, 2, none⟩ = some (.slice A0_2 l0_2.length c0_2) := (blk_cell BK122.out 2).trans rfl; have hcz10_3 : w9.cell? ⟨gb122, 3, none⟩ = some (.int .i64 a0_3) := (blk_cell BK122.out 3).trans rfl; have hfz10_0 := blk_frozen BK122.out 0; have hfz10_1 := blk_frozen BK122.out 1; have hfz10_2 := blk_frozen BK122.out 2; have hfz10_3 := blk_frozen BK122.out 3) | ((with_reducible refine gate_callee (f := 45) rfl ?_); refine goesL_ (some 18) rfl rfl Try.func45 (by kernel_rfl) rfl #[.agg #[.slice A0_0 l0_0.length c0_0, .slice A0_1 l0_1.length c0_1, .slice A0_2 l0_2.length c0_2, .int .i64 a0_3]] rfl (by (try simp only [List.map_toArray, List.map_cons, List.map_nil]); first | done | rfl | (simp only [List.length_drop, List.length_take]; rfl)) ?_; (with_reducible refine (module_Copy.calls _ _ l0_0 _ _ l0_1 _ _ l0_2 a0_3 t128 t131 t134 t137 _ ?side1 ?side2 ?side3 ?side4 ?side5 ?side6 A4.out).mono ?_); (case side1 => repeat (first | exact (Kd.C_below HR0_0.out HB.out) | (with_reducible refine Kd.C_alloc ?_ _) | (with_reducible refine Kd.C_drewN ?_ _) | (with_reducible refine Kd.C_drew ?_))); (case side2 => exact HC0_0.out); (case side3 => repeat (first | exact (Kd.C_below HR0_1.out HB.out) | (with_reducible refine Kd.C_alloc ?_ _) | (with_reducible refine Kd.C_drewN ?_ _) | (with_reducible refine Kd.C_drew ?_))); (case side4 => exact HC0_1.out); (case side5 => repeat (first | exact (Kd.C_below HR0_2.out HB.out) | (with_reducible refine Kd.C_alloc ?_ _) | (with_reducible refine Kd.C_drewN ?_ _) | (with_reducible refine Kd.C_drew ?_))); (case side6 => exact HC0_2.out); rintro e w11 ⟨v129, v132, v135, rfl, ho0, ho1, ho2, hb⟩; refine ⟨_, rfl, ?_⟩; have n0_ := Aside0.mk (Kd.R_below (by (with_reducible repeat (first | apply Kd.R_alloc | apply Kd.R_drewN | apply Kd.R_drew)); first | exact HO126.out | exact Kd.R_mono (HO126.out) (fun _ h_ => h_.2)) hb); have n1_ := Aside0.mk (Kd.R_lower ho0 (below_size (by repeat (first | (with_reducible first | exact HB.out | apply below_alloc | apply pw_below_drewN | apply below_drew1 | refine below_set ?_ GE122.out | refine below_set ?_ GE123.out) | exact HB.out | exact ⟨HB.out.os, HB.out.tape, HB.out.output, HB.out.size, HB.out.block⟩)))); have n2_ := Aside0.mk (Kd.R_lower ho1 (below_size (by repeat (first | (with_reducible first | exact HB.out | apply below_alloc | apply pw_below_drewN | apply below_drew1 | refine below_set ?_ GE122.out | refine below_set ?_ GE123.out) | exact HB.out | exact ⟨HB.out.os, HB.out.tape, HB.out.output, HB.out.size, HB.out.block⟩)))); have n3_ := Aside0.mk (Kd.S_lower ho2 (below_size (by repeat (first | (with_reducible first | exact HB.out | apply below_alloc | apply pw_below_drewN | apply below_drew1 | refine below_set ?_ GE122.out | refine below_set ?_ GE123.out) | exact HB.out | exact ⟨HB.out.os, HB.out.tape, HB.out.output, HB.out.size, HB.out.block⟩)))); have n4_ := Aside0.mk (blk_below (g := gb122) (o := .cells #[.slice A0_0 l0_0.length c0_0, .slice A0_1 l0_1.length c0_1, .slice A0_2 l0_2.length c0_2, .int .i64 a0_3] 25 (0, 0)) (by (with_reducible repeat (first | refine blk_drewN ?_ _ | refine blk_drew ?_ | refine blk_alloc ?_ _)); exact BK122.out) hb); have n5_ := Aside0.mk (blk_below (g := gb123) (o := .cells #[.slice none 0 0, .slice none 0 0, .slice none 0 0, .int .i64 0] 25 (0, 0)) (by (with_reducible repeat (first | refine blk_drewN ?_ _ | refine blk_drew ?_ | refine blk_alloc ?_ _)); exact BK123.out) hb); have n6_ := Aside0.mk (below_step (by repeat (first | (with_reducible first | exact HB.out | apply below_alloc | apply pw_below_drewN | apply below_drew1 | refine below_set ?_ GE122.out | refine below_set ?_ GE123.out) | exact HB.out | exact ⟨HB.out.os, HB.out.tape, HB.out.output, HB.out.size, HB.out.block⟩)) hb); clear HO126; clear BK122; clear BK123; clear HB; have HO126 := n0_; have HO130 := n1_; have HO133 := n2_; have HO136 := n3_; have BK122 := n4_; have BK123 := n5_; have HB := n6_; clear n0_ n1_ n2_ n3_ n4_ n5_ n6_; (try clear hb); (try clear hb2); (try clear hk); (try clear hi); (try clear ho0); (try clear ho1); (try clear ho2)) | ((with_reducible refine gate_dst (N := 6) rfl ?_); refine box_event ?hg (N := 6) ?hd (cs := #[.slice none 0 0, .slice none 0 0, .slice none 0 0, .int .i64 0]) (t := 25) ?hr ?_; (case hd => rfl); (case hg => rfl); (case hr => first | (go_simp; done) | (go_simp; rfl)); intro gb138 hg w12 hbox hb; have n0_ := Aside0.mk (Kd.R_below (by (with_reducible repeat (first | apply Kd.R_alloc | apply Kd.R_drewN | apply Kd.R_drew)); first | exact HO126.out | exact Kd.R_mono (HO126.out) (fun _ h_ => h_.2)) hb); have n1_ := Aside0.mk (Kd.R_below (by (with_reducible repeat (first | apply Kd.R_alloc | apply Kd.R_drewN | apply Kd.R_drew)); first | exact HO130.out | exact Kd.R_mono (HO130.out) (fun _ h_ => h_.2)) hb); have n2_ := Aside0.mk (Kd.R_below (by (with_reducible repeat (first | apply Kd.R_alloc | apply Kd.R_drewN | apply Kd.R_drew)); first | exact HO133.out | exact Kd.R_mono (HO133.out) (fun _ h_ => h_.2)) hb); have n3_ := Aside0.mk (Kd.S_below (by (with_reducible repeat (first | apply Kd.S_alloc | apply Kd.S_drewN | apply Kd.S_drew)); first | exact HO136.out | exact Kd.S_mono (HO136.out) (fun _ h_ => h_.2)) hb); have n4_ := Aside0.mk (blk_below (g := gb122) (o := .cells #[.slice A0_0 l0_0.length c0_0, .slice A0_1 l0_1.length c0_1, .slice A0_2 l0_2.length c0_2, .int .i64 a0_3] 25 (0, 0)) (by (with_reducible repeat (first | refine blk_drewN ?_ _ | refine blk_drew ?_ | refine blk_alloc ?_ _)); exact BK122.out) hb); have n5_ := Aside0.mk (blk_below (g := gb123) (o := .cells #[.slice none 0 0, .slice none 0 0, .slice none 0 0, .int .i64 0] 25 (0, 0)) (by (with_reducible repeat (first | refine blk_drewN ?_ _ | refine blk_drew ?_ | refine blk_alloc ?_ _)); exact BK123.out) hb); have n6_ := Aside0.mk (below_step (by repeat (first | (with_reducible first | exact HB.out | apply below_alloc | apply pw_below_drewN | apply below_drew1 | refine below_set ?_ GE122.out | refine below_set ?_ GE123.out) | exact HB.out | exact ⟨HB.out.os, HB.out.tape, HB.out.output, HB.out.size, HB.out.block⟩)) hb); have n7_ := Aside0.mk (hbox); have n8_ := Aside0.mk ((by rw [hg]; exact (below_size (by repeat (first | (with_reducible first | exact HB.out | apply below_alloc | apply pw_below_drewN | apply below_drew1 | refine below_set ?_ GE122.out | refine below_set ?_ GE123.out) | exact HB.out | exact ⟨HB.out.os, HB.out.tape, HB.out.output, HB.out.size, HB.out.block⟩))) : w.heap.size ≤ gb138)); have n9_ := Aside0.mk ((by rw [hg]; exact (below_size (by repeat (first | (with_reducible first | exact HB.out | apply below_alloc | apply pw_below_drewN | apply below_drew1 | refine below_set ?_ GE122.out | refine below_set ?_ GE123.out) | exact HB.out | exact ⟨HB.out.os, HB.out.tape, HB.out.output, HB.out.size, HB.out.block⟩))) : w.heap.size ≤ gb138)); have n10_ := Aside0.mk ((by rw [hg]; exact Nat.ne_of_lt (blk_lt (g := gb122) (o := .cells #[.slice A0_0 l0_0.length c0_0, .slice A0_1 l0_1.length c0_1, .slice A0_2 l0_2.length c0_2, .int .i64 a0_3] 25 (0, 0)) (by (with_reducible repeat (first | refine blk_drewN ?_ _ | refine blk_drew ?_ | refine blk_alloc ?_ _)); exact BK122.out)) : gb122 ≠ gb138)); have n11_ := Aside0.mk ((by rw [hg]; exact Nat.ne_of_gt (blk_lt (g := gb122) (o := .cells #[.slice A0_0 l0_0.length c0_0, .slice A0_1 l0_1.length c0_1, .slice A0_2 l0_2.length c0_2, .int .i64 a0_3] 25 (0, 0)) (by (with_reducible repeat (first | refine blk_drewN ?_ _ | refine blk_drew ?_ | refine blk_alloc ?_ _)); exact BK122.out)) : gb138 ≠ gb122)); have n12_ := Aside0.mk ((by rw [hg]; exact Nat.ne_of_lt (blk_lt (g := gb123) (o := .cells #[.slice none 0 0, .slice none 0 0, .slice none 0 0, .int .i64 0] 25 (0, 0)) (by (with_reducible repeat (first | refine blk_drewN ?_ _ | refine blk_drew ?_ | refine blk_alloc ?_ _)); exact BK123.out)) : gb123 ≠ gb138)); have n13_ := Aside0.mk ((by rw [hg]; exact Nat.ne_of_gt (blk_lt (g := gb123) (o := .cells #[.slice none 0 0, .slice none 0 0, .slice none 0 0, .int .i64 0] 25 (0, 0)) (by (with_reducible repeat (first | refine blk_drewN ?_ _ | refine blk_drew ?_ | refine blk_alloc ?_ _)); exact BK123.out)) : gb138 ≠ gb123)); clear HO126; clear HO130; clear HO133; clear HO136; clear BK122; clear BK123; clear HB; have HO126 := n0_; have HO130 := n1_; have HO133 := n2_; have HO136 := n3_; have BK122 := n4_; have BK123 := n5_; have HB := n6_; have BK138 := n7_; have GW138 := n8_; have GE138 := n9_; have NB122_138 := n10_; have NB138_122 := n11_; have NB123_138 := n12_; have NB138_123 := n13_; clear n0_ n1_ n2_ n3_ n4_ n5_ n6_ n7_ n8_ n9_ n10_ n11_ n12_ n13_; clear hb hbox hg; obtain ⟨Ao13, co13, eo13⟩ := Kd.R_slice HO130.out; subst eo13; have hnb14 := NB138_122.out; have hnc14 := NB122_138.out; have hnb15 := NB138_123.out; have hnc15 := NB123_138.out; have hcz16_0 : w12.cell? ⟨gb138, 0, none⟩ = some (.slice none 0 0) := (blk_cell BK138.out 0).trans rfl; have hcz16_1 : w12.cell? ⟨gb138, 1, none⟩ = some (.slice none 0 0) := (blk_cell BK138.out 1).trans rfl; have hcz16_2 : w12.cell? ⟨gb138, 2, none⟩ = some (.slice none 0 0) := (blk_cell BK138.out 2).trans rfl; have hcz16_3 : w12.cell? ⟨gb138, 3, none⟩ = some (.int .i64 0) := (blk_cell BK138.out 3).trans rfl; have hfz16_0 := blk_frozen BK138.out 0; have hfz16_1 := blk_frozen BK138.out 1; have hfz16_2 := blk_frozen BK138.out 2; have hfz16_3 := blk_frozen BK138.out 3; obtain ⟨Ao17, co17, eo17⟩ := Kd.R_slice HO133.out; subst eo17; obtain ⟨Ao18, co18, eo18⟩ := Kd.S_slice HO136.out; subst eo18))
  go_loopg [22] k (fun kq v22 w' => ∃ (x22_1 : Int) (x139002_1 : List (S52)) (u139002 : Value), v22 = .int .i64 x22_1 ∧ Aside0 (pure_Say.l0 kq t124 (t134.length : Int) x22_1 t128 t131 x139002_1 t137 = some (r1, r2, r3, r4, r5)) ∧ Aside0 (kq ≤ k) ∧ Aside0 (Kd.R Kd.bool 4 w' w.heap.size (fun _ => True) v125 t124) ∧ Aside0 (Kd.R k86 86 w' w.heap.size (fun k_ => some k_ ≠ ((.slice Ao17 t131.length co17) : Value).ownBlock) (.slice Ao13 t128.length co13) t128) ∧ Aside0 (Kd.R k86 86 w' w.heap.size (fun k_ => some k_ ≠ ((.slice Ao13 t128.length co13) : Value).ownBlock) (.slice Ao17 t131.length co17) t131) ∧ Aside0 (Kd.S k52 52 w' w.heap.size (fun _ => True) u139002 x139002_1) ∧ Aside0 (w'.heap[gb122]? = some (.cells #[(.slice A0_0 l0_0.length c0_0), (.slice A0_1 l0_1.length c0_1), (.slice A0_2 l0_2.length c0_2), .int .i64 a0_3] 25 (0, 0))) ∧ Aside0 (w'.heap[gb123]? = some (.cells #[(.slice none 0 0), (.slice none 0 0), (.slice none 0 0), .int .i64 0] 25 (0, 0))) ∧ Aside0 (w'.heap[gb138]? = some (.cells #[(.slice Ao13 t128.length co13), (.slice Ao17 t131.length co17), u139002, .int .i64 t137] 25 (0, 0))) ∧ Aside0 (Below w.heap.size w w'))
  case atStart => exact ⟨(0), (t134), (.slice Ao18 t134.length co18), (by first | rfl | (simp; done) | (simp [*]; done)), H', ⟨Nat.le_refl _⟩, ⟨by (with_reducible repeat (first | apply Kd.R_alloc | apply Kd.R_drewN | apply Kd.R_drew)); first | exact Kd.R_mono (Kd.R_far (p := ⟨gb138, 3, none⟩) (Kd.R_far (p := ⟨gb138, 2, none⟩) (Kd.R_far (p := ⟨gb138, 1, none⟩) (Kd.R_far (p := ⟨gb138, 0, none⟩) (Kd.R_types HO126.out BK138.out (by decide)) (fun _ hk => hk.2) (.slice Ao13 t128.length co13)) (fun _ hk => hk.2) (.slice Ao17 t131.length co17)) (fun _ hk => hk.2) (.slice Ao18 t134.length co18)) (fun _ hk => hk.2) (.int .i64 t137)) (fun _ hk => trivial) | exact Kd.R_mono (Kd.R_mono (Kd.R_far (p := ⟨gb138, 3, none⟩) (Kd.R_far (p := ⟨gb138, 2, none⟩) (Kd.R_far (p := ⟨gb138, 1, none⟩) (Kd.R_far (p := ⟨gb138, 0, none⟩) (Kd.R_types HO126.out BK138.out (by decide)) (fun _ hk => hk.2) (.slice Ao13 t128.length co13)) (fun _ hk => hk.2) (.slice Ao17 t131.length co17)) (fun _ hk => hk.2) (.slice Ao18 t134.length co18)) (fun _ hk => hk.2) (.int .i64 t137)) (fun _ hk => trivial)) (fun _ h_ => h_.2)⟩, ⟨by (with_reducible repeat (first | apply Kd.R_alloc | apply Kd.R_drewN | apply Kd.R_drew)); first | exact Kd.R_mono (Kd.R_far (p := ⟨gb138, 3, none⟩) (Kd.R_far (p := ⟨gb138, 2, none⟩) (Kd.R_far (p := ⟨gb138, 1, none⟩) (Kd.R_far (p := ⟨gb138, 0, none⟩) (Kd.R_types HO130.out BK138.out (by decide)) (fun _ hk => hk.2) (.slice Ao13 t128.length co13)) (fun _ hk => hk.2) (.slice Ao17 t131.length co17)) (fun _ hk => hk.2) (.slice Ao18 t134.length co18)) (fun _ hk => hk.2) (.int .i64 t137)) (fun _ hk => hk.1) | exact Kd.R_mono (Kd.R_mono (Kd.R_far (p := ⟨gb138, 3, none⟩) (Kd.R_far (p := ⟨gb138, 2, none⟩) (Kd.R_far (p := ⟨gb138, 1, none⟩) (Kd.R_far (p := ⟨gb138, 0, none⟩) (Kd.R_types HO130.out BK138.out (by decide)) (fun _ hk => hk.2) (.slice Ao13 t128.length co13)) (fun _ hk => hk.2) (.slice Ao17 t131.length co17)) (fun _ hk => hk.2) (.slice Ao18 t134.length co18)) (fun _ hk => hk.2) (.int .i64 t137)) (fun _ hk => hk.1)) (fun _ h_ => h_.2)⟩, ⟨by (with_reducible repeat (first | apply Kd.R_alloc | apply Kd.R_drewN | apply Kd.R_drew)); first | exact Kd.R_mono (Kd.R_far (p := ⟨gb138, 3, none⟩) (Kd.R_far (p := ⟨gb138, 2, none⟩) (Kd.R_far (p := ⟨gb138, 1, none⟩) (Kd.R_far (p := ⟨gb138, 0, none⟩) (Kd.R_types HO133.out BK138.out (by decide)) (fun _ hk => hk.2) (.slice Ao13 t128.length co13)) (fun _ hk => hk.2) (.slice Ao17 t131.length co17)) (fun _ hk => hk.2) (.slice Ao18 t134.length co18)) (fun _ hk => hk.2) (.int .i64 t137)) (fun _ hk => hk.1) | exact Kd.R_mono (Kd.R_mono (Kd.R_far (p := ⟨gb138, 3, none⟩) (Kd.R_far (p := ⟨gb138, 2, none⟩) (Kd.R_far (p := ⟨gb138, 1, none⟩) (Kd.R_far (p := ⟨gb138, 0, none⟩) (Kd.R_types HO133.out BK138.out (by decide)) (fun _ hk => hk.2) (.slice Ao13 t128.length co13)) (fun _ hk => hk.2) (.slice Ao17 t131.length co17)) (fun _ hk => hk.2) (.slice Ao18 t134.length co18)) (fun _ hk => hk.2) (.int .i64 t137)) (fun _ hk => hk.1)) (fun _ h_ => h_.2)⟩, ⟨by (with_reducible repeat (first | apply Kd.S_alloc | apply Kd.S_drewN | apply Kd.S_drew)); first | exact Kd.S_mono (Kd.S_far (p := ⟨gb138, 3, none⟩) (Kd.S_far (p := ⟨gb138, 2, none⟩) (Kd.S_far (p := ⟨gb138, 1, none⟩) (Kd.S_far (p := ⟨gb138, 0, none⟩) (Kd.S_types HO136.out BK138.out (by decide)) (fun _ hk => hk.2) (.slice Ao13 t128.length co13)) (fun _ hk => hk.2) (.slice Ao17 t131.length co17)) (fun _ hk => hk.2) (.slice Ao18 t134.length co18)) (fun _ hk => hk.2) (.int .i64 t137)) (fun _ hk => trivial) | exact Kd.S_mono (Kd.S_mono (Kd.S_far (p := ⟨gb138, 3, none⟩) (Kd.S_far (p := ⟨gb138, 2, none⟩) (Kd.S_far (p := ⟨gb138, 1, none⟩) (Kd.S_far (p := ⟨gb138, 0, none⟩) (Kd.S_types HO136.out BK138.out (by decide)) (fun _ hk => hk.2) (.slice Ao13 t128.length co13)) (fun _ hk => hk.2) (.slice Ao17 t131.length co17)) (fun _ hk => hk.2) (.slice Ao18 t134.length co18)) (fun _ hk => hk.2) (.int .i64 t137)) (fun _ hk => trivial)) (fun _ h_ => h_.2)⟩, ⟨by (with_reducible repeat (first | refine blk_drewN ?_ _ | refine blk_drew ?_ | refine blk_alloc ?_ _)); refine blk_far ?_ NB122_138.out _; (with_reducible repeat (first | refine blk_drewN ?_ _ | refine blk_drew ?_ | refine blk_alloc ?_ _)); refine blk_far ?_ NB122_138.out _; (with_reducible repeat (first | refine blk_drewN ?_ _ | refine blk_drew ?_ | refine blk_alloc ?_ _)); refine blk_far ?_ NB122_138.out _; (with_reducible repeat (first | refine blk_drewN ?_ _ | refine blk_drew ?_ | refine blk_alloc ?_ _)); refine blk_far ?_ NB122_138.out _; (with_reducible repeat (first | refine blk_drewN ?_ _ | refine blk_drew ?_ | refine blk_alloc ?_ _)); exact BK122.out⟩, ⟨by (with_reducible repeat (first | refine blk_drewN ?_ _ | refine blk_drew ?_ | refine blk_alloc ?_ _)); refine blk_far ?_ NB123_138.out _; (with_reducible repeat (first | refine blk_drewN ?_ _ | refine blk_drew ?_ | refine blk_alloc ?_ _)); refine blk_far ?_ NB123_138.out _; (with_reducible repeat (first | refine blk_drewN ?_ _ | refine blk_drew ?_ | refine blk_alloc ?_ _)); refine blk_far ?_ NB123_138.out _; (with_reducible repeat (first | refine blk_drewN ?_ _ | refine blk_drew ?_ | refine blk_alloc ?_ _)); refine blk_far ?_ NB123_138.out _; (with_reducible repeat (first | refine blk_drewN ?_ _ | refine blk_drew ?_ | refine blk_alloc ?_ _)); exact BK123.out⟩, ⟨by (with_reducible repeat (first | refine blk_drewN ?_ _ | refine blk_drew ?_ | refine blk_alloc ?_ _)); refine blk_put (cs := #[.slice Ao13 t128.length co13, .slice Ao17 t131.length co17, .slice Ao18 t134.length co18, .int .i64 0]) ?_ 3 _ rfl; (with_reducible repeat (first | refine blk_drewN ?_ _ | refine blk_drew ?_ | refine blk_alloc ?_ _)); refine blk_put (cs := #[.slice Ao13 t128.length co13, .slice Ao17 t131.length co17, .slice none 0 0, .int .i64 0]) ?_ 2 _ rfl; (with_reducible repeat (first | refine blk_drewN ?_ _ | refine blk_drew ?_ | refine blk_alloc ?_ _)); refine blk_put (cs := #[.slice Ao13 t128.length co13, .slice none 0 0, .slice none 0 0, .int .i64 0]) ?_ 1 _ rfl; (with_reducible repeat (first | refine blk_drewN ?_ _ | refine blk_drew ?_ | refine blk_alloc ?_ _)); refine blk_put (cs := #[.slice none 0 0, .slice none 0 0, .slice none 0 0, .int .i64 0]) ?_ 0 _ rfl; (with_reducible repeat (first | refine blk_drewN ?_ _ | refine blk_drew ?_ | refine blk_alloc ?_ _)); exact BK138.out⟩, ⟨by repeat (first | (with_reducible first | exact HB.out | apply below_alloc | apply pw_below_drewN | apply below_drew1 | refine below_set ?_ GE122.out | refine below_set ?_ GE123.out | refine below_set ?_ GE138.out) | exact HB.out | exact ⟨HB.out.os, HB.out.tape, HB.out.output, HB.out.size, HB.out.block⟩)⟩⟩
  case round =>
   clear H'
   try clear c1
   try clear p2
   try clear c3
   try clear c3b0
   try clear c3b1
   try clear c4
   try clear c7
   try clear c14
   try clear c15
   try clear c17
   try clear c18
   try clear hcz10_0
   try clear hcz10_1
   try clear hcz10_2
   try clear hcz10_3
   try clear hcz16_0
   try clear hcz16_1
   try clear hcz16_2
   try clear hcz16_3
   try clear hcz8_0
   try clear hcz8_1
   try clear hcz8_2
   try clear hcz8_3
   try clear hfz10_0
   try clear hfz10_1
   try clear hfz10_2
   try clear hfz10_3
   try clear hfz16_0
   try clear hfz16_1
   try clear hfz16_2
   try clear hfz16_3
   try clear hfz8_0
   try clear hfz8_1
   try clear hfz8_2
   try clear hfz8_3
   obtain ⟨x22_1, x139002_1, u139002, rfl, HA, HK1, HO_4, HO_139000, HO_139001, HO_139002, BK122, BK123, BK138, HB⟩ := hrel
   cases gk with
   | zero => exact absurd HA.out (by simp [pure_Say.l0])
   | succ k1 =>
    have H := HA.out
    clear HA
    simp only [pure_Say.l0] at H
    by_cases c19 : x22_1 < (t134.length : Int)
    ·
     rw [if_pos c19] at H
     have c19b0 : decide (x22_1 < (t134.length : Int)) = true := decide_eq_true c19
     clear c19
     by_cases c20 : 0 ≤ x22_1
     ·
      rw [if_pos c20] at H
      have c20b0 : decide (0 ≤ x22_1) = true := decide_eq_true c20
      clear c20
      by_cases c21 : x22_1 < (t124.length : Int)
      ·
       rw [if_pos c21] at H
       have c21b0 : decide (x22_1 < (t124.length : Int)) = true := decide_eq_true c21
       clear c21
       by_cases c22 : x22_1 < (x139002_1.length : Int)
       ·
        rw [if_pos c22] at H
        have c22b0 : decide (x22_1 < (x139002_1.length : Int)) = true := decide_eq_true c22
        clear c22
        obtain ⟨y140, hy140⟩ : ∃ y_ : List (S52), y_ = (x139002_1.set (x22_1 : Int).toNat (⟨(rd_T52 x139002_1 x22_1).f0, (rd_T52 x139002_1 x22_1).f1, (rd_T52 x139002_1 x22_1).f2, rdOf false t124 x22_1, (rd_T52 x139002_1 x22_1).f4, (rd_T52 x139002_1 x22_1).f5, (rd_T52 x139002_1 x22_1).f6, (rd_T52 x139002_1 x22_1).f7⟩ : S52)) := ⟨_, rfl⟩
        replace H : (pure_Say.l0 k1 t124 (t134.length : Int) (wrap64 (x22_1 + 1)) t128 t131 y140 t137) = some (r1, r2, r3, r4, r5) := by first | (rw [hy140]; with_reducible exact H) | (have H2_ := (Option.bind_some _ _).symm.trans H; rw [hy140]; with_reducible exact H2_) | (have H2_ := (Option.bind_some _ _).symm.trans H; with_reducible exact H2_) | with_reducible exact H | (rw [hy140]; exact H) | exact H
        have Ny140 := Aside0.mk hy140
        clear hy140
        have H' := Aside0.mk H
        clear H
        try go_wp2
        (try (rw [drewN_self wr]; generalize hq_ : World.drewN wr _ = wr; have n0_ : Aside0 (Kd.R k86 86 wr w.heap.size (fun k_ => some k_ ≠ (.slice Ao17 t131.length co17 : Value).ownBlock) (.slice Ao13 t128.length co13) t128) := ⟨by rw [← hq_]; exact (by (with_reducible repeat (first | apply Kd.R_alloc | apply Kd.R_drewN | apply Kd.R_drew)); first | exact HO_139000.out | exact Kd.R_mono (HO_139000.out) (fun _ h_ => h_.2))⟩; have n1_ : Aside0 (Kd.R k86 86 wr w.heap.size (fun k_ => some k_ ≠ (.slice Ao13 t128.length co13 : Value).ownBlock) (.slice Ao17 t131.length co17) t131) := ⟨by rw [← hq_]; exact (by (with_reducible repeat (first | apply Kd.R_alloc | apply Kd.R_drewN | apply Kd.R_drew)); first | exact HO_139001.out | exact Kd.R_mono (HO_139001.out) (fun _ h_ => h_.2))⟩; have n2_ : Aside0 (Kd.S k52 52 wr w.heap.size (fun _ => True) u139002 x139002_1) := ⟨by rw [← hq_]; exact (by (with_reducible repeat (first | apply Kd.S_alloc | apply Kd.S_drewN | apply Kd.S_drew)); first | exact HO_139002.out | exact Kd.S_mono (HO_139002.out) (fun _ h_ => h_.2))⟩; have n3_ : Aside0 (Kd.R Kd.bool 4 wr w.heap.size (fun _ => True) v125 t124) := ⟨by rw [← hq_]; exact (by (with_reducible repeat (first | apply Kd.R_alloc | apply Kd.R_drewN | apply Kd.R_drew)); first | exact HO_4.out | exact Kd.R_mono (HO_4.out) (fun _ h_ => h_.2))⟩; have n4_ : Aside0 (wr.heap[gb122]? = some (.cells #[.slice A0_0 l0_0.length c0_0, .slice A0_1 l0_1.length c0_1, .slice A0_2 l0_2.length c0_2, .int .i64 a0_3] 25 (0, 0))) := ⟨by rw [← hq_]; exact (by (with_reducible repeat (first | refine blk_drewN ?_ _ | refine blk_drew ?_ | refine blk_alloc ?_ _)); exact BK122.out)⟩; have n5_ : Aside0 (wr.heap[gb123]? = some (.cells #[.slice none 0 0, .slice none 0 0, .slice none 0 0, .int .i64 0] 25 (0, 0))) := ⟨by rw [← hq_]; exact (by (with_reducible repeat (first | refine blk_drewN ?_ _ | refine blk_drew ?_ | refine blk_alloc ?_ _)); exact BK123.out)⟩; have n6_ : Aside0 (wr.heap[gb138]? = some (.cells #[.slice Ao13 t128.length co13, .slice Ao17 t131.length co17, u139002, .int .i64 t137] 25 (0, 0))) := ⟨by rw [← hq_]; exact (by (with_reducible repeat (first | refine blk_drewN ?_ _ | refine blk_drew ?_ | refine blk_alloc ?_ _)); exact BK138.out)⟩; have n7_ : Aside0 (Below w.heap.size w wr) := ⟨by rw [← hq_]; exact (by repeat (first | (with_reducible first | exact HB.out | apply below_alloc | apply pw_below_drewN | apply below_drew1 | refine below_set ?_ GE122.out | refine below_set ?_ GE123.out | refine below_set ?_ GE138.out) | exact HB.out | exact ⟨HB.out.os, HB.out.tape, HB.out.output, HB.out.size, HB.out.block⟩))⟩; clear HO_139000 HO_139001 HO_139002 HO_4 BK122 BK123 BK138 HB hq_; have HO_139000 := n0_; have HO_139001 := n1_; have HO_139002 := n2_; have HO_4 := n3_; have BK122 := n4_; have BK123 := n5_; have BK138 := n6_; have HB := n7_; clear n0_ n1_ n2_ n3_ n4_ n5_ n6_ n7_))
        (try have hcu24_0 : wr.cell? ⟨gb122, 0, none⟩ = some (.slice A0_0 l0_0.length c0_0) := (blk_cell BK122.out 0).trans rfl)
        (try have hfu24_0 := blk_frozen BK122.out 0)
        (try have hcu24_1 : wr.cell? ⟨gb122, 1, none⟩ = some (.slice A0_1 l0_1.length c0_1) := (blk_cell BK122.out 1).trans rfl)
        (try have hfu24_1 := blk_frozen BK122.out 1)
        (try have hcu24_2 : wr.cell? ⟨gb122, 2, none⟩ = some (.slice A0_2 l0_2.length c0_2) := (blk_cell BK122.out 2).trans rfl)
        (try have hfu24_2 := blk_frozen BK122.out 2)
        (try have hcu24_3 : wr.cell? ⟨gb122, 3, none⟩ = some (.int .i64 a0_3) := (blk_cell BK122.out 3).trans rfl)
        (try have hfu24_3 := blk_frozen BK122.out 3)
        (try have hcu25_0 : wr.cell? ⟨gb123, 0, none⟩ = some (.slice none 0 0) := (blk_cell BK123.out 0).trans rfl)
        (try have hfu25_0 := blk_frozen BK123.out 0)
        (try have hcu25_1 : wr.cell? ⟨gb123, 1, none⟩ = some (.slice none 0 0) := (blk_cell BK123.out 1).trans rfl)
        (try have hfu25_1 := blk_frozen BK123.out 1)
        (try have hcu25_2 : wr.cell? ⟨gb123, 2, none⟩ = some (.slice none 0 0) := (blk_cell BK123.out 2).trans rfl)
        (try have hfu25_2 := blk_frozen BK123.out 2)
        (try have hcu25_3 : wr.cell? ⟨gb123, 3, none⟩ = some (.int .i64 0) := (blk_cell BK123.out 3).trans rfl)
        (try have hfu25_3 := blk_frozen BK123.out 3)
        (try have hcu26_0 : wr.cell? ⟨gb138, 0, none⟩ = some (.slice Ao13 t128.length co13) := (blk_cell BK138.out 0).trans rfl)
        (try have hfu26_0 := blk_frozen BK138.out 0)
        (try have hcu26_1 : wr.cell? ⟨gb138, 1, none⟩ = some (.slice Ao17 t131.length co17) := (blk_cell BK138.out 1).trans rfl)
        (try have hfu26_1 := blk_frozen BK138.out 1)
        (try have hcu26_2 : wr.cell? ⟨gb138, 2, none⟩ = some (u139002) := (blk_cell BK138.out 2).trans rfl)
        (try have hfu26_2 := blk_frozen BK138.out 2)
        (try have hcu26_3 : wr.cell? ⟨gb138, 3, none⟩ = some (.int .i64 t137) := (blk_cell BK138.out 3).trans rfl)
        (try have hfu26_3 := blk_frozen BK138.out 3)
        have n0_ := Aside0.mk (Kd.R_drew HO_4.out)
        have n1_ := Aside0.mk (Kd.R_drew HO_139000.out)
        have n2_ := Aside0.mk (Kd.R_drew HO_139001.out)
        have n3_ := Aside0.mk (Kd.S_drew HO_139002.out)
        have n4_ := Aside0.mk (blk_drew BK122.out)
        have n5_ := Aside0.mk (blk_drew BK123.out)
        have n6_ := Aside0.mk (blk_drew BK138.out)
        have n7_ := Aside0.mk (below_drew1 HB.out)
        clear HO_4
        clear HO_139000
        clear HO_139001
        clear HO_139002
        clear BK122
        clear BK123
        clear BK138
        clear HB
        have HO_4 := n0_
        have HO_139000 := n1_
        have HO_139001 := n2_
        have HO_139002 := n3_
        have BK122 := n4_
        have BK123 := n5_
        have BK138 := n6_
        have HB := n7_
        clear n0_ n1_ n2_ n3_ n4_ n5_ n6_ n7_
        obtain ⟨Ao28, co28, eo28⟩ := Kd.R_slice HO_4.out
        (first | subst eo28 | (injection eo28 with f1_ f2_ f3_; have f4_ := f1_.symm; have f5_ := f3_.symm; clear f1_ f2_ f3_; subst f4_; subst f5_))
        have p139 : 0 ≤ (x22_1 : Int) := of_decide_eq_true (by first | (with_reducible assumption) | assumption)
        have q139 : x22_1 < (t124.length : Int) := of_decide_eq_true (by first | (with_reducible assumption) | assumption)
        obtain ⟨ad139, e139, hx139_0⟩ := Kd.at_bool (Kd.R_reads' HO_4.out).2.2 x22_1 p139 q139
        cases e139
        replace p139 := eq_true p139
        replace q139 := eq_true q139
        have p23 : 0 ≤ (x22_1 : Int) := of_decide_eq_true (by first | (with_reducible assumption) | assumption)
        have q23 : (x22_1 : Int) < ((x139002_1.length : Int) : Int) := of_decide_eq_true (by first | (with_reducible assumption) | assumption)
        obtain ⟨go23, co23, eo23, gb23, gl23, cl23, HG23⟩ := Kd.S_form HO_139002.out (by omega)
        (first | cases eo23 | (injection eo23 with ea_ en_ ec_; (first | subst ea_ | (injection ea_ with ea_; subst ea_)); subst ec_; clear en_))
        have GB23 := Aside0.mk gb23
        have GG23 := Aside0.mk HG23
        clear gb23 gl23 HG23
        obtain ⟨_, ce23, hcl23, hM23, hcc23, hfr23, _, _⟩ := Kd.S_elem HO_139002.out z52 (x22_1 : Int) p23 q23
        obtain ⟨ve23_0, ve23_1, ve23_7, rfl, ge23_0, ge23_1, ge23_7⟩ := k52_openM hM23
        have hx23_0 : World.cell? _ ⟨go23, (x22_1 : Int).toNat * 8, none⟩ = some (ve23_0) := hcc23 0 _ rfl
        have hx23_1 : World.cell? _ ⟨go23, (x22_1 : Int).toNat * 8 + 1, none⟩ = some (ve23_1) := hcc23 1 _ rfl
        have hx23_2 : World.cell? _ ⟨go23, (x22_1 : Int).toNat * 8 + 2, none⟩ = some (.int .u8 ((rd_T52 x139002_1 x22_1).f2)) := hcc23 2 _ rfl
        have hx23_3 : World.cell? _ ⟨go23, (x22_1 : Int).toNat * 8 + 3, none⟩ = some (.bool ((rd_T52 x139002_1 x22_1).f3)) := hcc23 3 _ rfl
        have hx23_4 : World.cell? _ ⟨go23, (x22_1 : Int).toNat * 8 + 4, none⟩ = some (.int .i64 ((rd_T52 x139002_1 x22_1).f4)) := hcc23 4 _ rfl
        have hx23_5 : World.cell? _ ⟨go23, (x22_1 : Int).toNat * 8 + 5, none⟩ = some (.int .i64 ((rd_T52 x139002_1 x22_1).f5)) := hcc23 5 _ rfl
        have hx23_6 : World.cell? _ ⟨go23, (x22_1 : Int).toNat * 8 + 6, none⟩ = some (.int .i64 ((rd_T52 x139002_1 x22_1).f6)) := hcc23 6 _ rfl
        have hx23_7 : World.cell? _ ⟨go23, (x22_1 : Int).toNat * 8 + 7, none⟩ = some (ve23_7) := hcc23 7 _ rfl
        have hf23_0 : World.frozen? _ ⟨go23, (x22_1 : Int).toNat * 8, none⟩ = false := hfr23 0
        have hf23_1 : World.frozen? _ ⟨go23, (x22_1 : Int).toNat * 8 + 1, none⟩ = false := hfr23 1
        have hf23_2 : World.frozen? _ ⟨go23, (x22_1 : Int).toNat * 8 + 2, none⟩ = false := hfr23 2
        have hf23_3 : World.frozen? _ ⟨go23, (x22_1 : Int).toNat * 8 + 3, none⟩ = false := hfr23 3
        have hf23_4 : World.frozen? _ ⟨go23, (x22_1 : Int).toNat * 8 + 4, none⟩ = false := hfr23 4
        have hf23_5 : World.frozen? _ ⟨go23, (x22_1 : Int).toNat * 8 + 5, none⟩ = false := hfr23 5
        have hf23_6 : World.frozen? _ ⟨go23, (x22_1 : Int).toNat * 8 + 6, none⟩ = false := hfr23 6
        have hf23_7 : World.frozen? _ ⟨go23, (x22_1 : Int).toNat * 8 + 7, none⟩ = false := hfr23 7
        clear hcl23 hcc23 hfr23 hM23
        replace p23 := eq_true p23
        replace q23 := eq_true q23
        have HX29 := Aside0.mk (show Kd.S k52 52 _ w.heap.size (fun k_ => ((fun _ => True)) k_ ∧ ¬ (fun _ => False) k_) (.slice (some ⟨go23, 0, none⟩) x139002_1.length co23) x139002_1 from (by exact Kd.S_mono HO_139002.out (fun k_ hk => ⟨trivial, fun e_ => e_⟩)))
        obtain ⟨oki29, ce29, hcl29, hM29, hcc29, hfr29, hoki29, hH29⟩ := Kd.S_elem HX29.out z52 (x22_1 : Int) (of_decide_eq_true (by first | (with_reducible assumption) | assumption)) (by have h_ : (x22_1 : Int) < ((x139002_1.length : Int) : Int) := of_decide_eq_true (by first | (with_reducible assumption) | assumption); first | exact h_ | (have e_ := (Kd.S_reads' HO_139002.out).1; omega) | simpa using h_)
        obtain ⟨ve29_0, ve29_1, ve29_7, rfl, ge29_0, ge29_1, ge29_7⟩ := k52_openM hM29
        have HP29 := (Kd.S_seg hH29 (of_decide_eq_true (by first | (with_reducible assumption) | assumption)) (by have h_ : (x22_1 : Int) < ((x139002_1.length : Int) : Int) := of_decide_eq_true (by first | (with_reducible assumption) | assumption); first | exact h_ | (have e_ := (Kd.S_reads' HO_139002.out).1; omega) | simpa using h_) (seg := [.bool (rdOf false t124 x22_1)]) (j := 3) (show 4 ≤ 8 from by decide) (x' := (⟨(rd_T52 x139002_1 x22_1).f0, (rd_T52 x139002_1 x22_1).f1, (rd_T52 x139002_1 x22_1).f2, rdOf false t124 x22_1, (rd_T52 x139002_1 x22_1).f4, (rd_T52 x139002_1 x22_1).f5, (rd_T52 x139002_1 x22_1).f6, (rd_T52 x139002_1 x22_1).f7⟩ : S52)) (k52_mkM _ _ _ (⟨(rd_T52 x139002_1 x22_1).f0, (rd_T52 x139002_1 x22_1).f1, (rd_T52 x139002_1 x22_1).f2, rdOf false t124 x22_1, (rd_T52 x139002_1 x22_1).f4, (rd_T52 x139002_1 x22_1).f5, (rd_T52 x139002_1 x22_1).f6, (rd_T52 x139002_1 x22_1).f7⟩ : S52) ge29_0 ge29_1 ge29_7) (fun _ hk => Or.inl hk) (fun _ hk => hk.elim)).1
        rw [← Ny140.out] at HP29
        have HQ29 := Aside0.mk HP29
        clear hcl29 hcc29 hfr29 hM29 HP29
        refine start_ (n := 10) (S := fun w' => w'.cell? ⟨gb138, 0, none⟩ = some (.slice Ao13 t128.length co13) ∧ w'.cell? ⟨gb138, 1, none⟩ = some (.slice Ao17 t131.length co17) ∧ w'.cell? ⟨gb138, 2, none⟩ = some (.slice (some ⟨go23, 0, none⟩) x139002_1.length co23) ∧ w'.cell? ⟨gb138, 3, none⟩ = some (.int .i64 t137) ∧ w'.cell? (ad139.add (x22_1).toNat) = some (.bool (rdOf false t124 x22_1))) (ds := [9]) #[false, false, false, false, false, false, false, false, false, false] (by kernel_rfl) rfl rfl ⟨(blk_cell BK138.out 0).trans rfl, (blk_cell BK138.out 1).trans rfl, (blk_cell BK138.out 2).trans rfl, (blk_cell BK138.out 3).trans rfl, hx139_0⟩ (fun hHeld => ?_); refine with_tabW pure_Say.tab8 pure_Say.bits8 (fun HT_ HW_ => ?_)
        generalize wr.drew = w27 at HO_4 HO_139000 HO_139001 HO_139002 BK122 BK123 BK138 HB GG23 HQ29 hf23_0 hf23_1 hf23_2 hf23_3 hf23_4 hf23_5 hf23_6 hf23_7 hx139_0 hx23_0 hx23_1 hx23_2 hx23_3 hx23_4 hx23_5 hx23_6 hx23_7 hHeld ⊢
        refine pure_ (i := 0) (N := some 25) (v := ?_) (a' := ?_) #[true, false, false, false, false, false, false, false, false, false] rfl rfl (any_of HT_.out (by kernel_rfl)) (fun _ _ _ h => h) (Or.inl ⟨by rfl, ?_⟩) ?_ ?_
        rotate_left
        ·
         intro w'
         go_simp
         with_reducible rfl
        rotate_left
        ·
         simp only [Act.put, List.setIfInBounds_toArray, List.set_cons_zero, List.set_cons_succ, i64_w, i32_w]
         rfl
        refine pure_ (i := 2) (N := some 27) (v := ?_) (a' := ?_) #[true, false, true, false, false, false, false, false, false, false] rfl rfl (any_of HT_.out (by kernel_rfl)) (fun _ _ _ h => h) (Or.inl ⟨by rfl, ?_⟩) ?_ ?_
        rotate_left
        ·
         intro w'
         go_simp
         with_reducible rfl
        rotate_left
        ·
         simp only [Act.put, List.setIfInBounds_toArray, List.set_cons_zero, List.set_cons_succ, i64_w, i32_w]
         rfl
        refine pure_ (i := 3) (N := some 28) (v := ?_) (a' := ?_) #[true, false, true, true, false, false, false, false, false, false] rfl rfl (any_of HT_.out (by kernel_rfl)) (fun _ _ _ h => h) (Or.inl ⟨by rfl, ?_⟩) ?_ ?_
        rotate_left
        ·
         intro w'
         go_simp
         with_reducible rfl
        rotate_left
        ·
         simp only [Act.put, List.setIfInBounds_toArray, List.set_cons_zero, List.set_cons_succ, i64_w, i32_w]
         rfl
        refine pure_ (i := 4) (N := some 29) (v := ?_) (a' := ?_) #[true, false, true, true, true, false, false, false, false, false] rfl rfl (any_of HT_.out (by kernel_rfl)) (fun _ _ _ h => h) (Or.inl ⟨by rfl, ?_⟩) ?_ ?_
        rotate_left
        ·
         intro w'
         go_simp
         with_reducible rfl
        rotate_left
        ·
         simp only [Act.put, List.setIfInBounds_toArray, List.set_cons_zero, List.set_cons_succ, i64_w, i32_w]
         rfl
        refine pure_ (i := 5) (N := some 30) (v := ?_) (a' := ?_) #[true, false, true, true, true, true, false, false, false, false] rfl rfl (any_of HT_.out (by kernel_rfl)) (fun _ _ _ h => h) (Or.inl ⟨by rfl, ?_⟩) ?_ ?_
        rotate_left
        ·
         intro w'
         go_simp
         with_reducible rfl
        rotate_left
        ·
         simp only [Act.put, List.setIfInBounds_toArray, List.set_cons_zero, List.set_cons_succ, i64_w, i32_w]
         rfl
        refine take_ (i := 1) (N := some 26) (v := ?_) (a' := ?_) #[true, true, true, true, true, true, false, false, false, false] rfl rfl (take_ofW HT_.out HW_.out (by kernel_rfl)) (fun _ _ _ h => h) (Or.inl ⟨by rfl, ?_⟩) hHeld ?_ ?_
        rotate_left
        ·
         rintro w' ⟨s0, s1, s2, s3, s4⟩
         go_simp
         with_reducible rfl
        rotate_left
        ·
         simp only [Act.put, List.setIfInBounds_toArray, List.set_cons_zero, List.set_cons_succ, i64_w, i32_w]
         rfl
        refine take_ (i := 6) (N := some 31) (v := ?_) (a' := ?_) #[true, true, true, true, true, true, true, false, false, false] rfl rfl (take_ofW HT_.out HW_.out (by kernel_rfl)) (fun _ _ _ h => h) (Or.inl ⟨by rfl, ?_⟩) hHeld ?_ ?_
        rotate_left
        ·
         rintro w' ⟨s0, s1, s2, s3, s4⟩
         go_simp
         with_reducible rfl
        rotate_left
        ·
         simp only [Act.put, List.setIfInBounds_toArray, List.set_cons_zero, List.set_cons_succ, i64_w, i32_w]
         rfl
        refine pure_ (i := 7) (N := some 32) (v := ?_) (a' := ?_) #[true, true, true, true, true, true, true, true, false, false] rfl rfl (any_of HT_.out (by kernel_rfl)) (fun _ _ _ h => h) (Or.inl ⟨by rfl, ?_⟩) ?_ ?_
        rotate_left
        ·
         intro w'
         go_simp
         with_reducible rfl
        rotate_left
        ·
         simp only [Act.put, List.setIfInBounds_toArray, List.set_cons_zero, List.set_cons_succ, i64_w, i32_w]
         rfl
        refine pure_ (i := 8) (N := some 33) (v := ?_) (a' := ?_) #[true, true, true, true, true, true, true, true, true, false] rfl rfl (any_of HT_.out (by kernel_rfl)) (fun _ _ _ h => h) (Or.inl ⟨by rfl, ?_⟩) ?_ ?_
        rotate_left
        ·
         intro w'
         go_simp
         with_reducible rfl
        rotate_left
        ·
         simp only [Act.put, List.setIfInBounds_toArray, List.set_cons_zero, List.set_cons_succ, i64_w, i32_w]
         rfl
        refine last_ (i := 9) (N := none) #[true, true, true, true, true, true, true, true, true, true] rfl rfl (one_of HT_.out (by kernel_rfl)) (by decide) (fun K hK => ?_)
        refine skip_ (w1 := ?_) (by rfl) rfl ?_ ?_
        rotate_left
        ·
         go_simp
         rfl
        refine hK.out _ _ ?_
        clear hK K
        refine done_ (done_of HT_.out (by kernel_rfl)) ?_
        try go_wp2
        go_roundg k1
        case measure => have := HK1.out; omega
        case rel => exact ⟨(wrap64 (x22_1 + 1)), (y140), (.slice (some ⟨go23, 0, none⟩) x139002_1.length co23), (by first | rfl | (simp; done) | (simp [*]; done)), H', ⟨by have := HK1.out; omega⟩, ⟨by (with_reducible repeat (first | apply Kd.R_alloc | apply Kd.R_drewN | apply Kd.R_drew)); first | exact Kd.R_mono (Kd.R_far (p := ⟨go23, (x22_1 : Int).toNat * 8 + 3, none⟩) (Kd.R_types HO_4.out GG23.out (by decide)) (fun _ hk => hk.2) (.bool (rdOf false t124 x22_1))) (fun _ hk => trivial) | exact Kd.R_mono (Kd.R_mono (Kd.R_far (p := ⟨go23, (x22_1 : Int).toNat * 8 + 3, none⟩) (Kd.R_types HO_4.out GG23.out (by decide)) (fun _ hk => hk.2) (.bool (rdOf false t124 x22_1))) (fun _ hk => trivial)) (fun _ h_ => h_.2)⟩, ⟨by (with_reducible repeat (first | apply Kd.R_alloc | apply Kd.R_drewN | apply Kd.R_drew)); first | exact Kd.R_mono (Kd.R_far (p := ⟨go23, (x22_1 : Int).toNat * 8 + 3, none⟩) (Kd.R_types HO_139000.out GG23.out (by decide)) (fun _ hk => hk.2) (.bool (rdOf false t124 x22_1))) (fun _ hk => hk.1) | exact Kd.R_mono (Kd.R_mono (Kd.R_far (p := ⟨go23, (x22_1 : Int).toNat * 8 + 3, none⟩) (Kd.R_types HO_139000.out GG23.out (by decide)) (fun _ hk => hk.2) (.bool (rdOf false t124 x22_1))) (fun _ hk => hk.1)) (fun _ h_ => h_.2)⟩, ⟨by (with_reducible repeat (first | apply Kd.R_alloc | apply Kd.R_drewN | apply Kd.R_drew)); first | exact Kd.R_mono (Kd.R_far (p := ⟨go23, (x22_1 : Int).toNat * 8 + 3, none⟩) (Kd.R_types HO_139001.out GG23.out (by decide)) (fun _ hk => hk.2) (.bool (rdOf false t124 x22_1))) (fun _ hk => hk.1) | exact Kd.R_mono (Kd.R_mono (Kd.R_far (p := ⟨go23, (x22_1 : Int).toNat * 8 + 3, none⟩) (Kd.R_types HO_139001.out GG23.out (by decide)) (fun _ hk => hk.2) (.bool (rdOf false t124 x22_1))) (fun _ hk => hk.1)) (fun _ h_ => h_.2)⟩, ⟨by (with_reducible repeat (first | apply Kd.S_alloc | apply Kd.S_drewN | apply Kd.S_drew)); first | exact HQ29.out | exact Kd.S_mono (HQ29.out) (fun _ h_ => h_.2)⟩, ⟨by (with_reducible repeat (first | refine blk_drewN ?_ _ | refine blk_drew ?_ | refine blk_alloc ?_ _)); refine blk_far ?_ (by have h_ := Kd.S_ne HO_139002.out BK122.out (by decide); intro e_; exact h_ (by rw [e_]; rfl)) _; (with_reducible repeat (first | refine blk_drewN ?_ _ | refine blk_drew ?_ | refine blk_alloc ?_ _)); exact BK122.out⟩, ⟨by (with_reducible repeat (first | refine blk_drewN ?_ _ | refine blk_drew ?_ | refine blk_alloc ?_ _)); refine blk_far ?_ (by have h_ := Kd.S_ne HO_139002.out BK123.out (by decide); intro e_; exact h_ (by rw [e_]; rfl)) _; (with_reducible repeat (first | refine blk_drewN ?_ _ | refine blk_drew ?_ | refine blk_alloc ?_ _)); exact BK123.out⟩, ⟨by (with_reducible repeat (first | refine blk_drewN ?_ _ | refine blk_drew ?_ | refine blk_alloc ?_ _)); refine blk_far ?_ (by have h_ := Kd.S_ne HO_139002.out BK138.out (by decide); intro e_; exact h_ (by rw [e_]; rfl)) _; (with_reducible repeat (first | refine blk_drewN ?_ _ | refine blk_drew ?_ | refine blk_alloc ?_ _)); exact BK138.out⟩, ⟨by repeat (first | (with_reducible first | exact HB.out | apply below_alloc | apply pw_below_drewN | apply below_drew1 | refine below_set ?_ GB23.out | refine below_set ?_ GE122.out | refine below_set ?_ GE123.out | refine below_set ?_ GE138.out) | exact HB.out | exact ⟨HB.out.os, HB.out.tape, HB.out.output, HB.out.size, HB.out.block⟩)⟩⟩
       ·
        rw [if_neg c22] at H
        exact absurd H (by simp)
      ·
       rw [if_neg c21] at H
       exact absurd H (by simp)
     ·
      rw [if_neg c20] at H
      exact absurd H (by simp)
    ·
     rw [if_neg c19] at H
     have c19b0 : decide (x22_1 < (t134.length : Int)) = false := decide_eq_false c19
     clear c19
     simp only [Option.some.injEq, Prod.mk.injEq] at H
     obtain ⟨rfl, rfl, rfl, rfl, rfl⟩ := H
     have hnb30 := NB138_122.out
     have hnc30 := NB122_138.out
     have hnb31 := NB138_123.out
     have hnc31 := NB123_138.out
     have hcz32_0 : wr.cell? ⟨gb138, 0, none⟩ = some (.slice Ao13 t128.length co13) := (blk_cell BK138.out 0).trans rfl
     have hcz32_1 : wr.cell? ⟨gb138, 1, none⟩ = some (.slice Ao17 t131.length co17) := (blk_cell BK138.out 1).trans rfl
     have hcz32_2 : wr.cell? ⟨gb138, 2, none⟩ = some (u139002) := (blk_cell BK138.out 2).trans rfl
     have hcz32_3 : wr.cell? ⟨gb138, 3, none⟩ = some (.int .i64 t137) := (blk_cell BK138.out 3).trans rfl
     have hfz32_0 := blk_frozen BK138.out 0
     have hfz32_1 := blk_frozen BK138.out 1
     have hfz32_2 := blk_frozen BK138.out 2
     have hfz32_3 := blk_frozen BK138.out 3
     have hnb33 := NB123_122.out
     have hnc33 := NB122_123.out
     have hcz34_0 : wr.cell? ⟨gb123, 0, none⟩ = some (.slice none 0 0) := (blk_cell BK123.out 0).trans rfl
     have hcz34_1 : wr.cell? ⟨gb123, 1, none⟩ = some (.slice none 0 0) := (blk_cell BK123.out 1).trans rfl
     have hcz34_2 : wr.cell? ⟨gb123, 2, none⟩ = some (.slice none 0 0) := (blk_cell BK123.out 2).trans rfl
     have hcz34_3 : wr.cell? ⟨gb123, 3, none⟩ = some (.int .i64 0) := (blk_cell BK123.out 3).trans rfl
     have hfz34_0 := blk_frozen BK123.out 0
     have hfz34_1 := blk_frozen BK123.out 1
     have hfz34_2 := blk_frozen BK123.out 2
     have hfz34_3 := blk_frozen BK123.out 3
     obtain ⟨Ao35, co35, eo35⟩ := Kd.S_slice HO_139002.out
     subst eo35
     go_wp2
     refine bodyPost_ret (results_ct rfl _ _ gb123 25 #[.slice Ao13 t128.length co13, .slice Ao17 t131.length co17, .slice Ao35 x139002_1.length co35, .int .i64 t137] (0, 0) _ rfl (by (with_reducible repeat (first | refine blk_drewN ?_ _ | refine blk_drew ?_ | refine blk_alloc ?_ _)); refine blk_put (cs := #[.slice Ao13 t128.length co13, .slice Ao17 t131.length co17, .slice Ao35 x139002_1.length co35, .int .i64 0]) ?_ 3 _ rfl; (with_reducible repeat (first | refine blk_drewN ?_ _ | refine blk_drew ?_ | refine blk_alloc ?_ _)); refine blk_put (cs := #[.slice Ao13 t128.length co13, .slice Ao17 t131.length co17, .slice none 0 0, .int .i64 0]) ?_ 2 _ rfl; (with_reducible repeat (first | refine blk_drewN ?_ _ | refine blk_drew ?_ | refine blk_alloc ?_ _)); refine blk_put (cs := #[.slice Ao13 t128.length co13, .slice none 0 0, .slice none 0 0, .int .i64 0]) ?_ 1 _ rfl; (with_reducible repeat (first | refine blk_drewN ?_ _ | refine blk_drew ?_ | refine blk_alloc ?_ _)); refine blk_put (cs := #[.slice none 0 0, .slice none 0 0, .slice none 0 0, .int .i64 0]) ?_ 0 _ rfl; (with_reducible repeat (first | refine blk_drewN ?_ _ | refine blk_drew ?_ | refine blk_alloc ?_ _)); exact BK123.out) Try.underlying25 rfl (by kernel_rfl)) rfl ?_
     exact ⟨_, _, _, by first | rfl | (simp [errW_none, errW_some] <;> rfl) | (simp [*, errW_none, errW_some] <;> rfl), by (with_reducible repeat (first | apply Kd.R_alloc | apply Kd.R_drewN | apply Kd.R_drew)); first | exact Kd.R_mono (Kd.R_far (p := ⟨gb123, 3, none⟩) (Kd.R_far (p := ⟨gb123, 2, none⟩) (Kd.R_far (p := ⟨gb123, 1, none⟩) (Kd.R_far (p := ⟨gb123, 0, none⟩) (Kd.R_types HO_139000.out BK123.out (by decide)) (fun _ hk => hk.2) (.slice Ao13 t128.length co13)) (fun _ hk => hk.2) (.slice Ao17 t131.length co17)) (fun _ hk => hk.2) (.slice Ao35 x139002_1.length co35)) (fun _ hk => hk.2) (.int .i64 t137)) (fun _ hk => hk.1) | exact Kd.R_mono (Kd.R_mono (Kd.R_far (p := ⟨gb123, 3, none⟩) (Kd.R_far (p := ⟨gb123, 2, none⟩) (Kd.R_far (p := ⟨gb123, 1, none⟩) (Kd.R_far (p := ⟨gb123, 0, none⟩) (Kd.R_types HO_139000.out BK123.out (by decide)) (fun _ hk => hk.2) (.slice Ao13 t128.length co13)) (fun _ hk => hk.2) (.slice Ao17 t131.length co17)) (fun _ hk => hk.2) (.slice Ao35 x139002_1.length co35)) (fun _ hk => hk.2) (.int .i64 t137)) (fun _ hk => hk.1)) (fun _ h_ => h_.2), by (with_reducible repeat (first | apply Kd.R_alloc | apply Kd.R_drewN | apply Kd.R_drew)); first | exact Kd.R_mono (Kd.R_far (p := ⟨gb123, 3, none⟩) (Kd.R_far (p := ⟨gb123, 2, none⟩) (Kd.R_far (p := ⟨gb123, 1, none⟩) (Kd.R_far (p := ⟨gb123, 0, none⟩) (Kd.R_types HO_139001.out BK123.out (by decide)) (fun _ hk => hk.2) (.slice Ao13 t128.length co13)) (fun _ hk => hk.2) (.slice Ao17 t131.length co17)) (fun _ hk => hk.2) (.slice Ao35 x139002_1.length co35)) (fun _ hk => hk.2) (.int .i64 t137)) (fun _ hk => hk.1) | exact Kd.R_mono (Kd.R_mono (Kd.R_far (p := ⟨gb123, 3, none⟩) (Kd.R_far (p := ⟨gb123, 2, none⟩) (Kd.R_far (p := ⟨gb123, 1, none⟩) (Kd.R_far (p := ⟨gb123, 0, none⟩) (Kd.R_types HO_139001.out BK123.out (by decide)) (fun _ hk => hk.2) (.slice Ao13 t128.length co13)) (fun _ hk => hk.2) (.slice Ao17 t131.length co17)) (fun _ hk => hk.2) (.slice Ao35 x139002_1.length co35)) (fun _ hk => hk.2) (.int .i64 t137)) (fun _ hk => hk.1)) (fun _ h_ => h_.2), by (with_reducible repeat (first | apply Kd.S_alloc | apply Kd.S_drewN | apply Kd.S_drew)); first | exact Kd.S_mono (Kd.S_far (p := ⟨gb123, 3, none⟩) (Kd.S_far (p := ⟨gb123, 2, none⟩) (Kd.S_far (p := ⟨gb123, 1, none⟩) (Kd.S_far (p := ⟨gb123, 0, none⟩) (Kd.S_types HO_139002.out BK123.out (by decide)) (fun _ hk => hk.2) (.slice Ao13 t128.length co13)) (fun _ hk => hk.2) (.slice Ao17 t131.length co17)) (fun _ hk => hk.2) (.slice Ao35 x139002_1.length co35)) (fun _ hk => hk.2) (.int .i64 t137)) (fun _ hk => trivial) | exact Kd.S_mono (Kd.S_mono (Kd.S_far (p := ⟨gb123, 3, none⟩) (Kd.S_far (p := ⟨gb123, 2, none⟩) (Kd.S_far (p := ⟨gb123, 1, none⟩) (Kd.S_far (p := ⟨gb123, 0, none⟩) (Kd.S_types HO_139002.out BK123.out (by decide)) (fun _ hk => hk.2) (.slice Ao13 t128.length co13)) (fun _ hk => hk.2) (.slice Ao17 t131.length co17)) (fun _ hk => hk.2) (.slice Ao35 x139002_1.length co35)) (fun _ hk => hk.2) (.int .i64 t137)) (fun _ hk => trivial)) (fun _ h_ => h_.2), by repeat (first | (with_reducible first | exact HB.out | apply below_alloc | apply pw_below_drewN | apply below_drew1 | refine below_set ?_ GE122.out | refine below_set ?_ GE123.out | refine below_set ?_ GE138.out) | exact HB.out | exact ⟨HB.out.os, HB.out.tape, HB.out.output, HB.out.size, HB.out.block⟩)⟩
 ·
  rw [if_neg c3] at H
  have c3b0 : (t127 == 0) = false := beq_eq_false_iff_ne.mpr c3
  have c3b1 : (t127 != 0) = true := bne_iff_ne.mpr c3
  simp only [Option.some.injEq, Prod.mk.injEq] at H
  obtain ⟨rfl, rfl, rfl, rfl, rfl⟩ := H
  go_enter Try.func18, Try.ntmps18
  go_wp2_with (first | ((with_reducible refine gate_dst (N := 1) rfl ?_); refine box_event ?hg (N := 1) ?hd (cs := #[.slice A0_0 l0_0.length c0_0, .slice A0_1 l0_1.length c0_1, .slice A0_2 l0_2.length c0_2, .int .i64 a0_3]) (t := 25) ?hr ?_; (case hd => rfl); (case hg => rfl); (case hr => first | (go_simp; done) | (go_simp; rfl)); intro gb122 hg w36 hbox hb; have n0_ := Aside0.mk (below_step (by repeat (first | (with_reducible first | exact HB.out | apply below_alloc | apply pw_below_drewN | apply below_drew1) | exact HB.out | exact ⟨HB.out.os, HB.out.tape, HB.out.output, HB.out.size, HB.out.block⟩)) hb); have n1_ := Aside0.mk (hbox); have n2_ := Aside0.mk ((by rw [hg]; exact (below_size (by repeat (first | (with_reducible first | exact HB.out | apply below_alloc | apply pw_below_drewN | apply below_drew1) | exact HB.out | exact ⟨HB.out.os, HB.out.tape, HB.out.output, HB.out.size, HB.out.block⟩))) : w.heap.size ≤ gb122)); have n3_ := Aside0.mk ((by rw [hg]; exact (below_size (by repeat (first | (with_reducible first | exact HB.out | apply below_alloc | apply pw_below_drewN | apply below_drew1) | exact HB.out | exact ⟨HB.out.os, HB.out.tape, HB.out.output, HB.out.size, HB.out.block⟩))) : w.heap.size ≤ gb122)); clear HB; have HB := n0_; have BK122 := n1_; have GW122 := n2_; have GE122 := n3_; clear n0_ n1_ n2_ n3_; clear hb hbox hg) | ((with_reducible refine gate_dst (N := 2) rfl ?_); refine box_event ?hg (N := 2) ?hd (cs := #[.slice none 0 0, .slice none 0 0, .slice none 0 0, .int .i64 0]) (t := 25) ?hr ?_; (case hd => rfl); (case hg => rfl); (case hr => first | (go_simp; done) | (go_simp; rfl)); intro gb123 hg w37 hbox hb; have n0_ := Aside0.mk (blk_below (g := gb122) (o := .cells #[.slice A0_0 l0_0.length c0_0, .slice A0_1 l0_1.length c0_1, .slice A0_2 l0_2.length c0_2, .int .i64 a0_3] 25 (0, 0)) (by (with_reducible repeat (first | refine blk_drewN ?_ _ | refine blk_drew ?_ | refine blk_alloc ?_ _)); exact BK122.out) hb); have n1_ := Aside0.mk (below_step (by repeat (first | (with_reducible first | exact HB.out | apply below_alloc | apply pw_below_drewN | apply below_drew1 | refine below_set ?_ GE122.out) | exact HB.out | exact ⟨HB.out.os, HB.out.tape, HB.out.output, HB.out.size, HB.out.block⟩)) hb); have n2_ := Aside0.mk (hbox); have n3_ := Aside0.mk ((by rw [hg]; exact (below_size (by repeat (first | (with_reducible first | exact HB.out | apply below_alloc | apply pw_below_drewN | apply below_drew1 | refine below_set ?_ GE122.out) | exact HB.out | exact ⟨HB.out.os, HB.out.tape, HB.out.output, HB.out.size, HB.out.block⟩))) : w.heap.size ≤ gb123)); have n4_ := Aside0.mk ((by rw [hg]; exact (below_size (by repeat (first | (with_reducible first | exact HB.out | apply below_alloc | apply pw_below_drewN | apply below_drew1 | refine below_set ?_ GE122.out) | exact HB.out | exact ⟨HB.out.os, HB.out.tape, HB.out.output, HB.out.size, HB.out.block⟩))) : w.heap.size ≤ gb123)); have n5_ := Aside0.mk ((by rw [hg]; exact Nat.ne_of_lt (blk_lt (g := gb122) (o := .cells #[.slice A0_0 l0_0.length c0_0, .slice A0_1 l0_1.length c0_1, .slice A0_2 l0_2.length c0_2, .int .i64 a0_3] 25 (0, 0)) (by (with_reducible repeat (first | refine blk_drewN ?_ _ | refine blk_drew ?_ | refine blk_alloc ?_ _)); exact BK122.out)) : gb122 ≠ gb123)); have n6_ := Aside0.mk ((by rw [hg]; exact Nat.ne_of_gt (blk_lt (g := gb122) (o := .cells #[.slice A0_0 l0_0.length c0_0, .slice A0_1 l0_1.length c0_1, .slice A0_2 l0_2.length c0_2, .int .i64 a0_3] 25 (0, 0)) (by (with_reducible repeat (first | refine blk_drewN ?_ _ | refine blk_drew ?_ | refine blk_alloc ?_ _)); exact BK122.out)) : gb123 ≠ gb122)); clear BK122; clear HB; have BK122 := n0_; have HB := n1_; have BK123 := n2_; have GW123 := n3_; have GE123 := n4_; have NB122_123 := n5_; have NB123_122 := n6_; clear n0_ n1_ n2_ n3_ n4_ n5_ n6_; clear hb hbox hg; have hnb38 := NB122_123.out; have hnc38 := NB123_122.out; have hcz39_0 : w37.cell? ⟨gb122, 0, none⟩ = some (.slice A0_0 l0_0.length c0_0) := (blk_cell BK122.out 0).trans rfl; have hcz39_1 : w37.cell? ⟨gb122, 1, none⟩ = some (.slice A0_1 l0_1.length c0_1) := (blk_cell BK122.out 1).trans rfl; have hcz39_2 : w37.cell? ⟨gb122, 2, none⟩ = some (.slice A0_2 l0_2.length c0_2) := (blk_cell BK122.out 2).trans rfl; have hcz39_3 : w37.cell? ⟨gb122, 3, none⟩ = some (.int .i64 a0_3) := (blk_cell BK122.out 3).trans rfl; have hfz39_0 := blk_frozen BK122.out 0; have hfz39_1 := blk_frozen BK122.out 1; have hfz39_2 := blk_frozen BK122.out 2; have hfz39_3 := blk_frozen BK122.out 3) | ((with_reducible refine gate_callee (f := 17) rfl ?_); refine goesL_ (some 10) rfl rfl Try.func17 (by kernel_rfl) rfl #[.agg #[.slice A0_0 l0_0.length c0_0, .slice A0_1 l0_1.length c0_1, .slice A0_2 l0_2.length c0_2, .int .i64 a0_3]] rfl (by (try simp only [List.map_toArray, List.map_cons, List.map_nil]); first | done | rfl | (simp only [List.length_drop, List.length_take]; rfl)) ?_; (with_reducible refine (pure_Pure.calls k _ _ l0_0 _ _ l0_1 _ _ l0_2 a0_3 t124 t127 _ ?side1 ?side2 ?side3 ?side4 ?side5 ?side6 A2.out).mono ?_); (case side1 => repeat (first | exact (Kd.C_below HR0_0.out HB.out) | (with_reducible refine Kd.C_alloc ?_ _) | (with_reducible refine Kd.C_drewN ?_ _) | (with_reducible refine Kd.C_drew ?_))); (case side2 => exact HC0_0.out); (case side3 => repeat (first | exact (Kd.C_below HR0_1.out HB.out) | (with_reducible refine Kd.C_alloc ?_ _) | (with_reducible refine Kd.C_drewN ?_ _) | (with_reducible refine Kd.C_drew ?_))); (case side4 => exact HC0_1.out); (case side5 => repeat (first | exact (Kd.C_below HR0_2.out HB.out) | (with_reducible refine Kd.C_alloc ?_ _) | (with_reducible refine Kd.C_drewN ?_ _) | (with_reducible refine Kd.C_drew ?_))); (case side6 => exact HC0_2.out); rintro e w40 ⟨v125, rfl, ho0, hb⟩; refine ⟨_, rfl, ?_⟩; have n0_ := Aside0.mk (Kd.R_lower ho0 (below_size (by repeat (first | (with_reducible first | exact HB.out | apply below_alloc | apply pw_below_drewN | apply below_drew1 | refine below_set ?_ GE122.out | refine below_set ?_ GE123.out) | exact HB.out | exact ⟨HB.out.os, HB.out.tape, HB.out.output, HB.out.size, HB.out.block⟩)))); have n1_ := Aside0.mk (blk_below (g := gb122) (o := .cells #[.slice A0_0 l0_0.length c0_0, .slice A0_1 l0_1.length c0_1, .slice A0_2 l0_2.length c0_2, .int .i64 a0_3] 25 (0, 0)) (by (with_reducible repeat (first | refine blk_drewN ?_ _ | refine blk_drew ?_ | refine blk_alloc ?_ _)); exact BK122.out) hb); have n2_ := Aside0.mk (blk_below (g := gb123) (o := .cells #[.slice none 0 0, .slice none 0 0, .slice none 0 0, .int .i64 0] 25 (0, 0)) (by (with_reducible repeat (first | refine blk_drewN ?_ _ | refine blk_drew ?_ | refine blk_alloc ?_ _)); exact BK123.out) hb); have n3_ := Aside0.mk (below_step (by repeat (first | (with_reducible first | exact HB.out | apply below_alloc | apply pw_below_drewN | apply below_drew1 | refine below_set ?_ GE122.out | refine below_set ?_ GE123.out) | exact HB.out | exact ⟨HB.out.os, HB.out.tape, HB.out.output, HB.out.size, HB.out.block⟩)) hb); clear BK122; clear BK123; clear HB; have HO126 := n0_; have BK122 := n1_; have BK123 := n2_; have HB := n3_; clear n0_ n1_ n2_ n3_; (try clear hb); (try clear hb2); (try clear hk); (try clear hi); (try clear ho0); have hcz41_0 : w40.cell? ⟨gb123, 0, none⟩ = some (.slice none 0 0) := (blk_cell BK123.out 0).trans rfl; have hcz41_1 : w40.cell? ⟨gb123, 1, none⟩ = some (.slice none 0 0) := (blk_cell BK123.out 1).trans rfl; have hcz41_2 : w40.cell? ⟨gb123, 2, none⟩ = some (.slice none 0 0) := (blk_cell BK123.out 2).trans rfl; have hcz41_3 : w40.cell? ⟨gb123, 3, none⟩ = some (.int .i64 0) := (blk_cell BK123.out 3).trans rfl; have hfz41_0 := blk_frozen BK123.out 0; have hfz41_1 := blk_frozen BK123.out 1; have hfz41_2 := blk_frozen BK123.out 2; have hfz41_3 := blk_frozen BK123.out 3))
  refine bodyPost_ret (results_ct rfl _ _ gb123 25 #[.slice none 0 0, .slice none 0 0, .slice none 0 0, .int .i64 0] (0, 0) _ rfl (by (with_reducible repeat (first | refine blk_drewN ?_ _ | refine blk_drew ?_ | refine blk_alloc ?_ _)); refine blk_put (cs := #[.slice none 0 0, .slice none 0 0, .slice none 0 0, .int .i64 0]) ?_ 3 _ rfl; (with_reducible repeat (first | refine blk_drewN ?_ _ | refine blk_drew ?_ | refine blk_alloc ?_ _)); refine blk_put (cs := #[.slice none 0 0, .slice none 0 0, .slice none 0 0, .int .i64 0]) ?_ 2 _ rfl; (with_reducible repeat (first | refine blk_drewN ?_ _ | refine blk_drew ?_ | refine blk_alloc ?_ _)); refine blk_put (cs := #[.slice none 0 0, .slice none 0 0, .slice none 0 0, .int .i64 0]) ?_ 1 _ rfl; (with_reducible repeat (first | refine blk_drewN ?_ _ | refine blk_drew ?_ | refine blk_alloc ?_ _)); refine blk_put (cs := #[.slice none 0 0, .slice none 0 0, .slice none 0 0, .int .i64 0]) ?_ 0 _ rfl; (with_reducible repeat (first | refine blk_drewN ?_ _ | refine blk_drew ?_ | refine blk_alloc ?_ _)); exact BK123.out) Try.underlying25 rfl (by kernel_rfl)) rfl ?_
  exact ⟨_, _, _, by first | rfl | (simp [errW_none, errW_some] <;> rfl) | (simp [*, errW_none, errW_some] <;> rfl), by first | exact Kd.R_nil _ _ _ _ _ | exact Kd.N_nil _ _ _ _ _ | exact Kd.V_nil _ _ _ _ _ | exact Kd.Q_nil _ _ _ _ _ | exact Kd.S_nil _ _ _ _ _, by first | exact Kd.R_nil _ _ _ _ _ | exact Kd.N_nil _ _ _ _ _ | exact Kd.V_nil _ _ _ _ _ | exact Kd.Q_nil _ _ _ _ _ | exact Kd.S_nil _ _ _ _ _, by first | exact Kd.S_nil _ _ _ _ _ | exact Kd.N_nil _ _ _ _ _ | exact Kd.V_nil _ _ _ _ _ | exact Kd.Q_nil _ _ _ _ _ | exact Kd.R_nil _ _ _ _ _, by repeat (first | (with_reducible first | exact HB.out | apply below_alloc | apply pw_below_drewN | apply below_drew1 | refine below_set ?_ GE122.out | refine below_set ?_ GE123.out) | exact HB.out | exact ⟨HB.out.os, HB.out.tape, HB.out.output, HB.out.size, HB.out.block⟩)⟩

-- NOT PRINTED: function 68 (slices_IndexFunc_int_int)

-- NOT PRINTED: function 50 (slices_ContainsFunc_int_int)

/-! ### pure_Check: function 21 -/
section pureck
set_option maxRecDepth 100000
/-! What pure.Check tells. -/
def pcSt (k : Nat) (ms : List S52) (i : Int) : Option Bool := pure_stores.f k (rd_T52 ms i).f0 (rd_T52 ms i).f1 (rd_T52 ms i).f2 (rd_T52 ms i).f3 (rd_T52 ms i).f4 (rd_T52 ms i).f5 (rd_T52 ms i).f6 (rd_T52 ms i).f7
def pcLoud (ms : List S52) (n : Int) : Bool := !(rd_T52 ms n).f3
def pcIn (n : Nat) (l : List Int) : Bool := l.all fun x => decide (0 ≤ x) && decide (x < (n : Int))
def pcRow (st : Int → Option Bool) (whom : List (List Int)) (ms : List S52) : Nat → Int → Option Int
  | 0, _ => none
  | d + 1, i => if i < (ms.length : Int) then (if (rd_T52 ms i).f3 = true then ((st i).bind fun s => if s = true then some 130 else (if pcIn ms.length (whom.getD i.toNat []) = true then (if (whom.getD i.toNat []).any (pcLoud ms) = true then some 130 else pcRow st whom ms d (wrap64 (i + 1))) else none)) else pcRow st whom ms d (wrap64 (i + 1))) else some 0
def pure_Check.f (k : Nat) (l0_0 l0_1 : List S86) (l0_2 : List S52) (a0_3 : Int) : Option Int := (pure_whom.f k l0_0 l0_1 l0_2 a0_3).bind fun p => if p.2 = 0 then (if p.1.length = l0_2.length ∧ l0_2.length ≤ 10000 ∧ p.1.all (fun l => decide (l.length ≤ 1000000)) = true then pcRow (pcSt k l0_2) p.1 l0_2 (l0_2.length + 1) 0 else none) else some p.2
theorem pcRow_mono {st st' : Int → Option Bool} (h : ∀ i, LeO (st i) (st' i)) (whom : List (List Int)) (ms : List S52) : ∀ d i, LeO (pcRow st whom ms d i) (pcRow st' whom ms d i) := by
  intro d
  induction d with
  | zero => exact fun _ => LeO.refl _
  | succ d ih =>
    intro i
    unfold pcRow
    split
    · split
      · refine LeO.bind (h i) fun s => ?_
        split
        · exact LeO.refl _
        · split
          · split
            · exact LeO.refl _
            · exact ih _
          · exact LeO.refl _
      · exact ih _
    · exact LeO.refl _
theorem pure_Check.mono : ∀ a0 a1 a2 a3 k, LeO (pure_Check.f k a0 a1 a2 a3) (pure_Check.f (k + 1) a0 a1 a2 a3) := by
  intro a0 a1 a2 a3 k
  unfold pure_Check.f
  refine LeO.bind (pure_whom.mono _ _ _ _ _) fun p => ?_
  split
  · split
    · exact pcRow_mono (fun i => pure_stores.mono _ _ _ _ _ _ _ _ _) _ _ _ _
    · exact LeO.refl _
  · exact LeO.refl _
set_option maxHeartbeats 8000000 in
theorem pc_loud (W : World) (mb : Nat) (v0 v1 v3 : Value) (A2 : Option Addr) (c2 : Nat) (ms : List S52) (hm : W.heap[mb]? = some (.cells #[v0, v1, .slice A2 ms.length c2, v3] 25 (0, 0))) (hC : Kd.C k52 W A2 ms.length ms) (n : Int) (h0 : 0 ≤ n) (h1 : n < (ms.length : Int)) :
    Calls Try.prog 49 #[.int .i64 n, .pointer (some ⟨mb, 0, none⟩)] W fun e w' => e = .returned (.bool (pcLoud ms n)) ∧ w' = W := by
  obtain ⟨adm, A0', c0', A1', c1', A7', c7', em, hx0, hx1, hx2, hx3, hx4, hx5, hx6, hx7, hl0, hi0, hl1, hi1, hl7, hi7⟩ := at_T52 hC n h0 h1
  cases em
  have hm2 : W.cell? ⟨mb, 2, none⟩ = some (.slice (some adm) ms.length c2) := blk_cell hm 2
  clear hx0 hx1 hx2 hx4 hx5 hx6 hx7 hl0 hi0 hl1 hi1 hl7 hi7 hm
  replace h0 := eq_true h0
  replace h1 := eq_true h1
  go_enter Try.func49, Try.ntmps49
  go_wp2
  go_ret
  exact ⟨rfl, rfl⟩
set_option maxHeartbeats 8000000 in
theorem pc_index (W : World) (A : Option Addr) (c : Nat) (xs : List Int) (mb : Nat) (g : Int → Bool) (hC : Kd.C (Kd.int .i64) W A xs.length xs) (hl : xs.length ≤ 1000000)
    (hg : ∀ x ∈ xs, Calls Try.prog 49 #[.int .i64 x, .pointer (some ⟨mb, 0, none⟩)] W fun e w' => e = .returned (.bool (g x)) ∧ w' = W) :
    Calls Try.prog 68 #[.slice A xs.length c, .func (.func 49) #[] #[.pointer (some ⟨mb, 0, none⟩)]] W fun e w' => ∃ r : Int, e = .returned (.int .i64 r) ∧ decide (0 ≤ r) = xs.any g ∧ w' = W := by
  have HC := Aside0.mk hC
  have HG := Aside0.mk hg
  clear hC hg
  go_enter Try.func68, Try.ntmps68
  go_wp2
  go_loopg [8] xs.length (fun kq v8 w' => ∃ i : Nat, v8 = .int .i64 (i : Int) ∧ Aside0 (kq + i = xs.length) ∧ Aside0 ((xs.drop i).any g = xs.any g) ∧ Aside0 (w' = W))
  case atStart => exact ⟨0, rfl, ⟨by omega⟩, ⟨by simp⟩, ⟨rfl⟩⟩
  case round =>
    obtain ⟨i, rfl, HI, HA, HW⟩ := hrel
    have hI := HI.out
    obtain rfl := HW.out
    clear HW
    have hw : IntKind.i64.wrap ((i : Int) + 1) = ((i + 1 : Nat) : Int) := (i64_w _).trans (by unfold wrap64; omega)
    by_cases hlt : i < xs.length
    · obtain ⟨ad, e1, hx⟩ := pp_at_ints HC.out i hlt hlt
      cases e1
      have hmem : xs[i] ∈ xs := List.getElem_mem hlt
      have hdrop : (xs.drop i).any g = (g xs[i] || (xs.drop (i + 1)).any g) := by rw [List.drop_eq_getElem_cons hlt, List.any_cons]
      have hcall := Aside0.mk (HG.out _ hmem)
      clear hmem
      generalize xs[i] = y at *
      have hd : decide ((i : Int) < (xs.length : Int)) = true := decide_eq_true (by omega)
      have p0 : (0 ≤ (i : Int)) = True := eq_true (by omega)
      have q0 : ((i : Int) < (xs.length : Int)) = True := eq_true (by omega)
      cases hgy : g y with
      | true =>
        rw [hgy] at hcall
        go_wp2_with (first | (go_at_call 49; (refine (hcall.out).mono ?_); rintro e w9 ⟨rfl, rfl⟩))
        go_ret
        refine ⟨_, rfl, ?_, rfl⟩
        rw [← HA.out, hdrop, hgy, Bool.true_or]
        exact decide_eq_true (by omega)
      | false =>
        rw [hgy] at hcall
        go_wp2_with (first | (go_at_call 49; (refine (hcall.out).mono ?_); rintro e w9 ⟨rfl, rfl⟩))
        go_roundg (gk - 1)
        case measure => omega
        case rel => exact ⟨i + 1, by first | rfl | (simp; done) | (rw [hw]), ⟨by omega⟩, ⟨by rw [← HA.out, hdrop, hgy, Bool.false_or]⟩, ⟨rfl⟩⟩
    · obtain rfl : i = xs.length := by omega
      have hd : decide ((xs.length : Int) < (xs.length : Int)) = false := decide_eq_false (by omega)
      go_wp2
      go_ret
      refine ⟨_, rfl, ?_, rfl⟩
      rw [← HA.out, List.drop_length]
      rfl
set_option maxHeartbeats 8000000 in
theorem pc_contains (W : World) (A : Option Addr) (c : Nat) (xs : List Int) (mb : Nat) (g : Int → Bool) (hC : Kd.C (Kd.int .i64) W A xs.length xs) (hl : xs.length ≤ 1000000)
    (hg : ∀ x ∈ xs, Calls Try.prog 49 #[.int .i64 x, .pointer (some ⟨mb, 0, none⟩)] W fun e w' => e = .returned (.bool (g x)) ∧ w' = W) :
    Calls Try.prog 50 #[.slice A xs.length c, .func (.func 49) #[] #[.pointer (some ⟨mb, 0, none⟩)]] W fun e w' => e = .returned (.bool (xs.any g)) ∧ w' = W := by
  have HI := Aside0.mk (pc_index W A c xs mb g hC hl hg)
  clear hC hg
  go_enter Try.func50, Try.ntmps50
  go_wp2_with (first | (go_at_call 68; (refine (HI.out).mono ?_); rintro e w9 ⟨r, rfl, hr, rfl⟩))
  go_ret
  exact ⟨by rw [← hr]; rfl, rfl⟩
set_option maxHeartbeats 8000000 in
theorem pure_Check.calls (k : Nat) (A0_0 : Option Addr) (c0_0 : Nat) (l0_0 : List (S86)) (A0_1 : Option Addr) (c0_1 : Nat) (l0_1 : List (S86)) (A0_2 : Option Addr) (c0_2 : Nat) (l0_2 : List (S52)) (a0_3 : Int) (r : Int) (w : World) (hr0_0 : Kd.C k86 w A0_0 l0_0.length l0_0) (hc0_0 : l0_0.length ≤ c0_0) (hr0_1 : Kd.C k86 w A0_1 l0_1.length l0_1) (hc0_1 : l0_1.length ≤ c0_1) (hr0_2 : Kd.C k52 w A0_2 l0_2.length l0_2) (hc0_2 : l0_2.length ≤ c0_2) (h : pure_Check.f k l0_0 l0_1 l0_2 a0_3 = some r) :
    Calls Try.prog 21 #[.agg #[.slice A0_0 l0_0.length c0_0, .slice A0_1 l0_1.length c0_1, .slice A0_2 l0_2.length c0_2, .int .i64 a0_3]] w fun e w' => e = .returned (.int .i64 r) ∧ Below w.heap.size w w' := by
  have HR0 := Aside0.mk hr0_0
  have HR1 := Aside0.mk hr0_1
  have HR2 := Aside0.mk hr0_2
  have HC0 := Aside0.mk hc0_0
  have HC1 := Aside0.mk hc0_1
  have HC2 := Aside0.mk hc0_2
  clear hr0_0 hr0_1 hr0_2 hc0_0 hc0_1 hc0_2
  unfold pure_Check.f at h
  obtain ⟨⟨whom, e0⟩, hall, h⟩ := Option.bind_eq_some_iff.mp h
  have HA := Aside0.mk hall
  clear hall
  dsimp only at h
  by_cases he : e0 = 0
  · subst he
    rw [if_pos rfl] at h
    by_cases hb : whom.length = l0_2.length ∧ l0_2.length ≤ 10000 ∧ whom.all (fun l => decide (l.length ≤ 1000000)) = true
    case neg => rw [if_neg hb] at h; cases h
    rw [if_pos hb] at h
    obtain ⟨hb1, hb3, hb2⟩ := hb
    have HB1 := Aside0.mk hb1
    have HB2 := Aside0.mk hb2
    have HP := Aside0.mk h
    clear h hb1 hb2
    go_enter Try.func21, Try.ntmps21
    go_wp2_with (first | (go_at_call 43; (refine (pure_whom.calls k A0_0 c0_0 l0_0 A0_1 c0_1 l0_1 A0_2 c0_2 l0_2 a0_3 whom 0 _ (Kd.C_alloc HR0.out _) HC0.out (Kd.C_alloc HR1.out _) HC1.out (Kd.C_alloc HR2.out _) HC2.out HA.out).mono ?_); rintro e w1 ⟨v1, rfl, hS1, hb1'⟩; have S1 := Aside0.mk hS1; have BKm := Aside0.mk ((hb1'.block w.heap.size (by simp)).trans (blk_new _ _) : w1.heap[w.heap.size]? = some (.cells #[.slice A0_0 l0_0.length c0_0, .slice A0_1 l0_1.length c0_1, .slice A0_2 l0_2.length c0_2, .int .i64 a0_3] 25 (0, 0))); have hm2 : w1.cell? ⟨w.heap.size, 2, none⟩ = some (.slice A0_2 l0_2.length c0_2) := blk_cell BKm.out 2; have B1 := Aside0.mk (((Below.refl w.heap.size w).alloc (Nat.le_refl _) (.cells #[.slice A0_0 l0_0.length c0_0, .slice A0_1 l0_1.length c0_1, .slice A0_2 l0_2.length c0_2, .int .i64 a0_3] 25)).trans (hb1'.mono (by simp))); obtain ⟨Aw, cw, rfl⟩ := Kd.R_slice (Kd.S_R hS1); clear hS1 hb1'))
    go_loopg [19] l0_2.length (fun kq v19 w' => ∃ i : Nat, v19 = .int .i64 (i : Int) ∧ Aside0 (kq + i = l0_2.length) ∧ Aside0 (pcRow (pcSt k l0_2) whom l0_2 (kq + 1) (i : Int) = some r) ∧ Aside0 (Below w1.heap.size w1 w'))
    case atStart => exact ⟨0, rfl, ⟨by omega⟩, ⟨HP.out⟩, ⟨Below.refl _ _⟩⟩
    case round =>
      clear HP hm2
      obtain ⟨i, rfl, HI, HP, HW⟩ := hrel
      have hI := HI.out
      clear HI
      have hw : IntKind.i64.wrap ((i : Int) + 1) = ((i + 1 : Nat) : Int) := (i64_w _).trans (by unfold wrap64; omega)
      have hw2 : wrap64 ((i : Int) + 1) = ((i + 1 : Nat) : Int) := by unfold wrap64; omega
      have hp := HP.out
      clear HP
      by_cases hlt : i < l0_2.length
      · rw [pcRow, if_pos (by omega), hw2] at hp
        have p0 : 0 ≤ (i : Int) := by omega
        have q0 : (i : Int) < (l0_2.length : Int) := by omega
        have BW := Aside0.mk (B1.out.trans (HW.out.mono B1.out.size))
        have HM := Aside0.mk (blk_below BKm.out HW.out)
        obtain ⟨adm, A0', c0', A1', c1', A7', c7', em, hx0, hx1, hx2, hx3, hx4, hx5, hx6, hx7, hl0, hi0, hl1, hi1, hl7, hi7⟩ := at_T52 HR2.out (i : Int) p0 q0
        cases em
        replace hx0 := (BW.out.cell (World.block_lt_of_cell? w _ hx0)).trans hx0; replace hx1 := (BW.out.cell (World.block_lt_of_cell? w _ hx1)).trans hx1; replace hx2 := (BW.out.cell (World.block_lt_of_cell? w _ hx2)).trans hx2; replace hx3 := (BW.out.cell (World.block_lt_of_cell? w _ hx3)).trans hx3; replace hx4 := (BW.out.cell (World.block_lt_of_cell? w _ hx4)).trans hx4; replace hx5 := (BW.out.cell (World.block_lt_of_cell? w _ hx5)).trans hx5; replace hx6 := (BW.out.cell (World.block_lt_of_cell? w _ hx6)).trans hx6; replace hx7 := (BW.out.cell (World.block_lt_of_cell? w _ hx7)).trans hx7
        simp only [Int.toNat_natCast] at hx0 hx1 hx2 hx3 hx4 hx5 hx6 hx7
        have HI0 := Aside0.mk hi0
        have HI1 := Aside0.mk hi1
        have HI7 := Aside0.mk hi7
        clear hi0 hi1 hi7
        have hd : decide ((i : Int) < (l0_2.length : Int)) = true := decide_eq_true q0
        replace p0 := eq_true p0
        replace q0 := eq_true q0
        cases hf3 : (rd_T52 l0_2 (i : Int)).f3 with
        | false =>
          rw [hf3, if_neg (by decide)] at hp
          rw [hf3] at hx3
          have HP2 := Aside0.mk hp
          clear hp
          go_wp2_with (first | ((with_reducible refine gate_dst (N := 6) rfl ?_); refine box_event ?hg (N := 6) ?hd (cs := #[.slice none 0 0, .slice none 0 0, .int .u8 0, .bool false, .int .i64 0, .int .i64 0, .int .i64 0, .slice none 0 0]) (t := 52) ?hr ?_; (case hd => rfl); (case hg => rfl); (case hr => first | (go_simp; done) | (go_simp; rfl)); intro gb hgb w21 hbox hbx; have hgl : wr.heap.size ≤ gb := Nat.le_of_eq hgb.symm; clear hgb; have hcz0 : w21.cell? ⟨gb, 0, none⟩ = some (.slice none 0 0) := (blk_cell hbox 0).trans rfl; have hfz0 := blk_frozen hbox 0; have hcz1 : w21.cell? ⟨gb, 1, none⟩ = some (.slice none 0 0) := (blk_cell hbox 1).trans rfl; have hfz1 := blk_frozen hbox 1; have hcz2 : w21.cell? ⟨gb, 2, none⟩ = some (.int .u8 0) := (blk_cell hbox 2).trans rfl; have hfz2 := blk_frozen hbox 2; have hcz3 : w21.cell? ⟨gb, 3, none⟩ = some (.bool false) := (blk_cell hbox 3).trans rfl; have hfz3 := blk_frozen hbox 3; have hcz4 : w21.cell? ⟨gb, 4, none⟩ = some (.int .i64 0) := (blk_cell hbox 4).trans rfl; have hfz4 := blk_frozen hbox 4; have hcz5 : w21.cell? ⟨gb, 5, none⟩ = some (.int .i64 0) := (blk_cell hbox 5).trans rfl; have hfz5 := blk_frozen hbox 5; have hcz6 : w21.cell? ⟨gb, 6, none⟩ = some (.int .i64 0) := (blk_cell hbox 6).trans rfl; have hfz6 := blk_frozen hbox 6; have hcz7 : w21.cell? ⟨gb, 7, none⟩ = some (.slice none 0 0) := (blk_cell hbox 7).trans rfl; have hfz7 := blk_frozen hbox 7; have HSET := Aside0.mk (fun (z0 z1 z2 z3 z4 z5 z6 z7 : Value) => ((((((((hbx.setCell (p := ⟨gb, 0, none⟩) hgl z0).setCell (p := ⟨gb, 1, none⟩) hgl z1).setCell (p := ⟨gb, 2, none⟩) hgl z2).setCell (p := ⟨gb, 3, none⟩) hgl z3).setCell (p := ⟨gb, 4, none⟩) hgl z4).setCell (p := ⟨gb, 5, none⟩) hgl z5).setCell (p := ⟨gb, 6, none⟩) hgl z6).setCell (p := ⟨gb, 7, none⟩) hgl z7)); clear hbx hbox))
          go_roundg (gk - 1)
          case measure => omega
          case rel => exact ⟨i + 1, by first | rfl | (simp; done) | (rw [hw]), ⟨by omega⟩, ⟨by rw [show gk - 1 + 1 = gk by omega]; exact HP2.out⟩, ⟨HW.out.trans ((HSET.out _ _ _ _ _ _ _ _).mono HW.out.size)⟩⟩
        | true =>
          rw [hf3, if_pos rfl] at hp
          rw [hf3] at hx3
          obtain ⟨s, hs, hp⟩ := Option.bind_eq_some_iff.mp hp
          unfold pcSt at hs
          rw [hf3] at hs
          have HS := Aside0.mk hs
          clear hs
          cases s with
          | true =>
            rw [if_pos rfl] at hp
            obtain rfl := Option.some.inj hp
            go_wp2_with (first | ((with_reducible refine gate_dst (N := 6) rfl ?_); refine box_event ?hg (N := 6) ?hd (cs := #[.slice none 0 0, .slice none 0 0, .int .u8 0, .bool false, .int .i64 0, .int .i64 0, .int .i64 0, .slice none 0 0]) (t := 52) ?hr ?_; (case hd => rfl); (case hg => rfl); (case hr => first | (go_simp; done) | (go_simp; rfl)); intro gb hgb w21 hbox hbx; have hgl : wr.heap.size ≤ gb := Nat.le_of_eq hgb.symm; clear hgb; have hcz0 : w21.cell? ⟨gb, 0, none⟩ = some (.slice none 0 0) := (blk_cell hbox 0).trans rfl; have hfz0 := blk_frozen hbox 0; have hcz1 : w21.cell? ⟨gb, 1, none⟩ = some (.slice none 0 0) := (blk_cell hbox 1).trans rfl; have hfz1 := blk_frozen hbox 1; have hcz2 : w21.cell? ⟨gb, 2, none⟩ = some (.int .u8 0) := (blk_cell hbox 2).trans rfl; have hfz2 := blk_frozen hbox 2; have hcz3 : w21.cell? ⟨gb, 3, none⟩ = some (.bool false) := (blk_cell hbox 3).trans rfl; have hfz3 := blk_frozen hbox 3; have hcz4 : w21.cell? ⟨gb, 4, none⟩ = some (.int .i64 0) := (blk_cell hbox 4).trans rfl; have hfz4 := blk_frozen hbox 4; have hcz5 : w21.cell? ⟨gb, 5, none⟩ = some (.int .i64 0) := (blk_cell hbox 5).trans rfl; have hfz5 := blk_frozen hbox 5; have hcz6 : w21.cell? ⟨gb, 6, none⟩ = some (.int .i64 0) := (blk_cell hbox 6).trans rfl; have hfz6 := blk_frozen hbox 6; have hcz7 : w21.cell? ⟨gb, 7, none⟩ = some (.slice none 0 0) := (blk_cell hbox 7).trans rfl; have hfz7 := blk_frozen hbox 7; have HSET := Aside0.mk (fun (z0 z1 z2 z3 z4 z5 z6 z7 : Value) => ((((((((hbx.setCell (p := ⟨gb, 0, none⟩) hgl z0).setCell (p := ⟨gb, 1, none⟩) hgl z1).setCell (p := ⟨gb, 2, none⟩) hgl z2).setCell (p := ⟨gb, 3, none⟩) hgl z3).setCell (p := ⟨gb, 4, none⟩) hgl z4).setCell (p := ⟨gb, 5, none⟩) hgl z5).setCell (p := ⟨gb, 6, none⟩) hgl z6).setCell (p := ⟨gb, 7, none⟩) hgl z7)); clear hbx hbox) | (go_at_call 42; (refine (pure_stores.calls k A0' c0' (rd_T52 l0_2 (i : Int)).f0 A1' c1' (rd_T52 l0_2 (i : Int)).f1 (rd_T52 l0_2 (i : Int)).f2 true (rd_T52 l0_2 (i : Int)).f4 (rd_T52 l0_2 (i : Int)).f5 (rd_T52 l0_2 (i : Int)).f6 A7' c7' (rd_T52 l0_2 (i : Int)).f7 true _ (Kd.C_below HI0.out (BW.out.trans ((HSET.out _ _ _ _ _ _ _ _).mono BW.out.size))) hl0 (Kd.C_below HI1.out (BW.out.trans ((HSET.out _ _ _ _ _ _ _ _).mono BW.out.size))) hl1 (Kd.C_below HI7.out (BW.out.trans ((HSET.out _ _ _ _ _ _ _ _).mono BW.out.size))) hl7 HS.out).mono ?_); rintro e w24 ⟨rfl, hb24⟩; have B9 := Aside0.mk ((HSET.out _ _ _ _ _ _ _ _).trans (hb24.mono (HSET.out _ _ _ _ _ _ _ _).size)); clear hb24))
            go_ret
            exact ⟨rfl, BW.out.trans (B9.out.mono BW.out.size)⟩
          | false =>
            rw [if_neg (by decide), Int.toNat_natCast] at hp
            have hwl : (whom.getD i []).length ≤ 1000000 := by
              have := List.all_eq_true.1 HB2.out (whom.getD i []) (by rw [List.getD_eq_getElem?_getD, List.getElem?_eq_getElem (by have := HB1.out; omega)]; exact List.getElem_mem _)
              simpa using this
            by_cases hin : pcIn l0_2.length (whom.getD i []) = true
            case neg => rw [if_neg hin] at hp; cases hp
            rw [if_pos hin] at hp
            have HIN : Aside0 (∀ x ∈ whom.getD i [], 0 ≤ x ∧ x < (l0_2.length : Int)) := ⟨fun x hx => by simpa using List.all_eq_true.1 hin x hx⟩
            clear hin
            obtain ⟨A1w, c1w, e1, hl1w, hC1⟩ := Kd.R_reads (Kd.S_R S1.out)
            cases e1
            obtain ⟨adx, Ai, ci, hAd, px, hci, hCi⟩ := pp_at_rows (Kd.C_below hC1 HW.out) (i : Int) (by omega) (by have := HB1.out; omega)
            subst hAd
            simp only [Int.toNat_natCast] at px hci hCi
            have HCI := Aside0.mk hCi
            clear hCi hC1
            have r0 : ((i : Int) < (whom.length : Int)) = True := eq_true (by have := HB1.out; omega)
            generalize whom.getD i [] = lx at *
            cases hany : lx.any (pcLoud l0_2) with
            | true =>
              rw [hany, if_pos rfl] at hp
              obtain rfl := Option.some.inj hp
              go_wp2_with (first | ((with_reducible refine gate_dst (N := 6) rfl ?_); refine box_event ?hg (N := 6) ?hd (cs := #[.slice none 0 0, .slice none 0 0, .int .u8 0, .bool false, .int .i64 0, .int .i64 0, .int .i64 0, .slice none 0 0]) (t := 52) ?hr ?_; (case hd => rfl); (case hg => rfl); (case hr => first | (go_simp; done) | (go_simp; rfl)); intro gb hgb w21 hbox hbx; have hgl : wr.heap.size ≤ gb := Nat.le_of_eq hgb.symm; clear hgb; have hcz0 : w21.cell? ⟨gb, 0, none⟩ = some (.slice none 0 0) := (blk_cell hbox 0).trans rfl; have hfz0 := blk_frozen hbox 0; have hcz1 : w21.cell? ⟨gb, 1, none⟩ = some (.slice none 0 0) := (blk_cell hbox 1).trans rfl; have hfz1 := blk_frozen hbox 1; have hcz2 : w21.cell? ⟨gb, 2, none⟩ = some (.int .u8 0) := (blk_cell hbox 2).trans rfl; have hfz2 := blk_frozen hbox 2; have hcz3 : w21.cell? ⟨gb, 3, none⟩ = some (.bool false) := (blk_cell hbox 3).trans rfl; have hfz3 := blk_frozen hbox 3; have hcz4 : w21.cell? ⟨gb, 4, none⟩ = some (.int .i64 0) := (blk_cell hbox 4).trans rfl; have hfz4 := blk_frozen hbox 4; have hcz5 : w21.cell? ⟨gb, 5, none⟩ = some (.int .i64 0) := (blk_cell hbox 5).trans rfl; have hfz5 := blk_frozen hbox 5; have hcz6 : w21.cell? ⟨gb, 6, none⟩ = some (.int .i64 0) := (blk_cell hbox 6).trans rfl; have hfz6 := blk_frozen hbox 6; have hcz7 : w21.cell? ⟨gb, 7, none⟩ = some (.slice none 0 0) := (blk_cell hbox 7).trans rfl; have hfz7 := blk_frozen hbox 7; have HSET := Aside0.mk (fun (z0 z1 z2 z3 z4 z5 z6 z7 : Value) => ((((((((hbx.setCell (p := ⟨gb, 0, none⟩) hgl z0).setCell (p := ⟨gb, 1, none⟩) hgl z1).setCell (p := ⟨gb, 2, none⟩) hgl z2).setCell (p := ⟨gb, 3, none⟩) hgl z3).setCell (p := ⟨gb, 4, none⟩) hgl z4).setCell (p := ⟨gb, 5, none⟩) hgl z5).setCell (p := ⟨gb, 6, none⟩) hgl z6).setCell (p := ⟨gb, 7, none⟩) hgl z7)); clear hbx hbox) | (go_at_call 42; (refine (pure_stores.calls k A0' c0' (rd_T52 l0_2 (i : Int)).f0 A1' c1' (rd_T52 l0_2 (i : Int)).f1 (rd_T52 l0_2 (i : Int)).f2 true (rd_T52 l0_2 (i : Int)).f4 (rd_T52 l0_2 (i : Int)).f5 (rd_T52 l0_2 (i : Int)).f6 A7' c7' (rd_T52 l0_2 (i : Int)).f7 false _ (Kd.C_below HI0.out (BW.out.trans ((HSET.out _ _ _ _ _ _ _ _).mono BW.out.size))) hl0 (Kd.C_below HI1.out (BW.out.trans ((HSET.out _ _ _ _ _ _ _ _).mono BW.out.size))) hl1 (Kd.C_below HI7.out (BW.out.trans ((HSET.out _ _ _ _ _ _ _ _).mono BW.out.size))) hl7 HS.out).mono ?_); rintro e w24 ⟨rfl, hb24⟩; have B9 := Aside0.mk ((HSET.out _ _ _ _ _ _ _ _).trans (hb24.mono (HSET.out _ _ _ _ _ _ _ _).size)); clear hb24; replace px := (B9.out.cell (World.block_lt_of_cell? wr _ px)).trans px) | (go_at_call 50; (refine (pc_contains _ Ai ci lx w.heap.size (pcLoud l0_2) (Kd.C_below HCI.out B9.out) hwl (fun x hx => pc_loud _ w.heap.size _ _ _ _ c0_2 l0_2 (blk_below HM.out B9.out) (Kd.C_below HR2.out (BW.out.trans (B9.out.mono BW.out.size))) x (HIN.out x hx).1 (HIN.out x hx).2)).mono ?_); rintro e w25 ⟨rfl, rfl⟩; rw [hany]))
              go_ret
              exact ⟨rfl, BW.out.trans (B9.out.mono BW.out.size)⟩
            | false =>
              rw [hany, if_neg (by decide)] at hp
              have HP2 := Aside0.mk hp
              clear hp
              go_wp2_with (first | ((with_reducible refine gate_dst (N := 6) rfl ?_); refine box_event ?hg (N := 6) ?hd (cs := #[.slice none 0 0, .slice none 0 0, .int .u8 0, .bool false, .int .i64 0, .int .i64 0, .int .i64 0, .slice none 0 0]) (t := 52) ?hr ?_; (case hd => rfl); (case hg => rfl); (case hr => first | (go_simp; done) | (go_simp; rfl)); intro gb hgb w21 hbox hbx; have hgl : wr.heap.size ≤ gb := Nat.le_of_eq hgb.symm; clear hgb; have hcz0 : w21.cell? ⟨gb, 0, none⟩ = some (.slice none 0 0) := (blk_cell hbox 0).trans rfl; have hfz0 := blk_frozen hbox 0; have hcz1 : w21.cell? ⟨gb, 1, none⟩ = some (.slice none 0 0) := (blk_cell hbox 1).trans rfl; have hfz1 := blk_frozen hbox 1; have hcz2 : w21.cell? ⟨gb, 2, none⟩ = some (.int .u8 0) := (blk_cell hbox 2).trans rfl; have hfz2 := blk_frozen hbox 2; have hcz3 : w21.cell? ⟨gb, 3, none⟩ = some (.bool false) := (blk_cell hbox 3).trans rfl; have hfz3 := blk_frozen hbox 3; have hcz4 : w21.cell? ⟨gb, 4, none⟩ = some (.int .i64 0) := (blk_cell hbox 4).trans rfl; have hfz4 := blk_frozen hbox 4; have hcz5 : w21.cell? ⟨gb, 5, none⟩ = some (.int .i64 0) := (blk_cell hbox 5).trans rfl; have hfz5 := blk_frozen hbox 5; have hcz6 : w21.cell? ⟨gb, 6, none⟩ = some (.int .i64 0) := (blk_cell hbox 6).trans rfl; have hfz6 := blk_frozen hbox 6; have hcz7 : w21.cell? ⟨gb, 7, none⟩ = some (.slice none 0 0) := (blk_cell hbox 7).trans rfl; have hfz7 := blk_frozen hbox 7; have HSET := Aside0.mk (fun (z0 z1 z2 z3 z4 z5 z6 z7 : Value) => ((((((((hbx.setCell (p := ⟨gb, 0, none⟩) hgl z0).setCell (p := ⟨gb, 1, none⟩) hgl z1).setCell (p := ⟨gb, 2, none⟩) hgl z2).setCell (p := ⟨gb, 3, none⟩) hgl z3).setCell (p := ⟨gb, 4, none⟩) hgl z4).setCell (p := ⟨gb, 5, none⟩) hgl z5).setCell (p := ⟨gb, 6, none⟩) hgl z6).setCell (p := ⟨gb, 7, none⟩) hgl z7)); clear hbx hbox) | (go_at_call 42; (refine (pure_stores.calls k A0' c0' (rd_T52 l0_2 (i : Int)).f0 A1' c1' (rd_T52 l0_2 (i : Int)).f1 (rd_T52 l0_2 (i : Int)).f2 true (rd_T52 l0_2 (i : Int)).f4 (rd_T52 l0_2 (i : Int)).f5 (rd_T52 l0_2 (i : Int)).f6 A7' c7' (rd_T52 l0_2 (i : Int)).f7 false _ (Kd.C_below HI0.out (BW.out.trans ((HSET.out _ _ _ _ _ _ _ _).mono BW.out.size))) hl0 (Kd.C_below HI1.out (BW.out.trans ((HSET.out _ _ _ _ _ _ _ _).mono BW.out.size))) hl1 (Kd.C_below HI7.out (BW.out.trans ((HSET.out _ _ _ _ _ _ _ _).mono BW.out.size))) hl7 HS.out).mono ?_); rintro e w24 ⟨rfl, hb24⟩; have B9 := Aside0.mk ((HSET.out _ _ _ _ _ _ _ _).trans (hb24.mono (HSET.out _ _ _ _ _ _ _ _).size)); clear hb24; replace px := (B9.out.cell (World.block_lt_of_cell? wr _ px)).trans px) | (go_at_call 50; (refine (pc_contains _ Ai ci lx w.heap.size (pcLoud l0_2) (Kd.C_below HCI.out B9.out) hwl (fun x hx => pc_loud _ w.heap.size _ _ _ _ c0_2 l0_2 (blk_below HM.out B9.out) (Kd.C_below HR2.out (BW.out.trans (B9.out.mono BW.out.size))) x (HIN.out x hx).1 (HIN.out x hx).2)).mono ?_); rintro e w25 ⟨rfl, rfl⟩; rw [hany]))
              go_roundg (gk - 1)
              case measure => omega
              case rel => exact ⟨i + 1, by first | rfl | (simp; done) | (rw [hw]), ⟨by omega⟩, ⟨by rw [show gk - 1 + 1 = gk by omega]; exact HP2.out⟩, ⟨HW.out.trans (B9.out.mono HW.out.size)⟩⟩
      · obtain rfl : i = l0_2.length := by omega
        rw [pcRow, if_neg (by omega)] at hp
        obtain rfl := Option.some.inj hp
        have hd : decide ((l0_2.length : Int) < (l0_2.length : Int)) = false := decide_eq_false (by omega)
        go_wp2
        go_ret
        exact ⟨rfl, B1.out.trans (HW.out.mono B1.out.size)⟩
  · rw [if_neg he] at h
    obtain rfl := Option.some.inj h
    have hne : (e0 != 0) = true := by rw [bne_iff_ne]; exact he
    go_enter Try.func21, Try.ntmps21
    go_wp2_with (first | (go_at_call 43; (refine (pure_whom.calls k A0_0 c0_0 l0_0 A0_1 c0_1 l0_1 A0_2 c0_2 l0_2 a0_3 whom e0 _ (Kd.C_alloc HR0.out _) HC0.out (Kd.C_alloc HR1.out _) HC1.out (Kd.C_alloc HR2.out _) HC2.out HA.out).mono ?_); rintro e w1 ⟨v1, rfl, hS1, hb1'⟩; have S1 := Aside0.mk hS1; have BKm := Aside0.mk ((hb1'.block w.heap.size (by simp)).trans (blk_new _ _) : w1.heap[w.heap.size]? = some (.cells #[.slice A0_0 l0_0.length c0_0, .slice A0_1 l0_1.length c0_1, .slice A0_2 l0_2.length c0_2, .int .i64 a0_3] 25 (0, 0))); have hm2 : w1.cell? ⟨w.heap.size, 2, none⟩ = some (.slice A0_2 l0_2.length c0_2) := blk_cell BKm.out 2; have B1 := Aside0.mk (((Below.refl w.heap.size w).alloc (Nat.le_refl _) (.cells #[.slice A0_0 l0_0.length c0_0, .slice A0_1 l0_1.length c0_1, .slice A0_2 l0_2.length c0_2, .int .i64 a0_3] 25)).trans (hb1'.mono (by simp))); obtain ⟨Aw, cw, rfl⟩ := Kd.R_slice (Kd.S_R hS1); clear hS1 hb1'))
    go_ret
    exact ⟨rfl, B1.out⟩
end pureck

/-! ### pure_Stores: function 16 -/
def pure_Stores.f (k : Nat) (l0_0 : List (S86)) (l0_1 : List (S86)) (l0_2 : List (S52)) (a0_3 : Int) (a1 : Int) : Option (Bool × Int) := if a1 < 0 then (some (false, 2)) else (if a1 ≥ (l0_2.length : Int) then (some (false, 2)) else (if 0 ≤ a1 then (if a1 < (l0_2.length : Int) then ((pure_stores.f k ((rd_T52 l0_2 a1).f0) ((rd_T52 l0_2 a1).f1) ((rd_T52 l0_2 a1).f2) ((rd_T52 l0_2 a1).f3) ((rd_T52 l0_2 a1).f4) ((rd_T52 l0_2 a1).f5) ((rd_T52 l0_2 a1).f6) ((rd_T52 l0_2 a1).f7)).bind fun t143 => (some (t143, 0))) else (none)) else (none)))
theorem pure_Stores.mono : ∀ a0 a1 a2 a3 a4 k, LeO (pure_Stores.f k a0 a1 a2 a3 a4) (pure_Stores.f (k + 1) a0 a1 a2 a3 a4) := by
 intro a0 a1 a2 a3 a4 k
 unfold pure_Stores.f
 repeat' first
   | (with_reducible exact pure_stores.mono _ _ _ _ _ _ _ _ _)
   | (with_reducible exact LeO.refl _)
   | (with_reducible exact LeO.none _)
   | (with_reducible refine LeO.ite ?_ ?_)
   | (with_reducible refine LeO.bind ?_ (fun _ => ?_))
   | exact pure_stores.mono _ _ _ _ _ _ _ _ _
   | exact LeO.none _
   | refine LeO.ite ?_ ?_
   | refine LeO.bind ?_ (fun _ => ?_)
set_option maxHeartbeats 8000000 in
set_option maxRecDepth 100000 in
theorem pure_Stores.calls (k : Nat) (A0_0 : Option Addr) (c0_0 : Nat) (l0_0 : List (S86)) (A0_1 : Option Addr) (c0_1 : Nat) (l0_1 : List (S86)) (A0_2 : Option Addr) (c0_2 : Nat) (l0_2 : List (S52)) (a0_3 : Int) (a1 : Int) (r1 : Bool) (r2 : Int) (w : World) (hr0_0 : Kd.C k86 w A0_0 l0_0.length l0_0) (hc0_0 : l0_0.length ≤ c0_0) (hr0_1 : Kd.C k86 w A0_1 l0_1.length l0_1) (hc0_1 : l0_1.length ≤ c0_1) (hr0_2 : Kd.C k52 w A0_2 l0_2.length l0_2) (hc0_2 : l0_2.length ≤ c0_2) (h : pure_Stores.f k l0_0 l0_1 l0_2 a0_3 a1 = some (r1, r2)) :
  Calls Try.prog 16 #[.agg #[.slice A0_0 l0_0.length c0_0, .slice A0_1 l0_1.length c0_1, .slice A0_2 l0_2.length c0_2, .int .i64 a0_3], .int .i64 a1] w fun e w' => e = .returned (.tuple #[.bool r1, .int .i64 r2]) ∧ Below w.heap.size w w' := by
 have hu25 := Try.underlying25
 have hu52 := Try.underlying52
 have HR0_0 := Aside0.mk hr0_0
 have HC0_0 := Aside0.mk hc0_0
 clear hr0_0 hc0_0
 have HR0_1 := Aside0.mk hr0_1
 have HC0_1 := Aside0.mk hc0_1
 clear hr0_1 hc0_1
 have HR0_2 := Aside0.mk hr0_2
 have HC0_2 := Aside0.mk hc0_2
 clear hr0_2 hc0_2
 have HB := Aside0.mk (Below.refl w.heap.size w)
 have H : (if a1 < 0 then (some (false, 2)) else (if a1 ≥ (l0_2.length : Int) then (some (false, 2)) else (if 0 ≤ a1 then (if a1 < (l0_2.length : Int) then ((pure_stores.f k ((rd_T52 l0_2 a1).f0) ((rd_T52 l0_2 a1).f1) ((rd_T52 l0_2 a1).f2) ((rd_T52 l0_2 a1).f3) ((rd_T52 l0_2 a1).f4) ((rd_T52 l0_2 a1).f5) ((rd_T52 l0_2 a1).f6) ((rd_T52 l0_2 a1).f7)).bind fun t143 => (some (t143, 0))) else (none)) else (none)))) = some (r1, r2) := h
 clear h
 by_cases c3 : a1 < 0
 ·
  rw [if_pos c3] at H
  have c3b0 : decide (a1 < 0) = true := decide_eq_true c3
  clear c3
  simp only [Option.some.injEq, Prod.mk.injEq] at H
  obtain ⟨rfl, rfl⟩ := H
  go_enter Try.func16, Try.ntmps16
  go_wp2_with (first | ((with_reducible refine gate_dst (N := 2) rfl ?_); (try (refine gate_guard (by rfl) ?_; dsimp only)); refine box_event ?hg (N := 2) ?hd (cs := #[.slice A0_0 l0_0.length c0_0, .slice A0_1 l0_1.length c0_1, .slice A0_2 l0_2.length c0_2, .int .i64 a0_3]) (t := 25) ?hr ?_; (case hd => rfl); (case hg => rfl); (case hr => first | (go_simp; done) | (go_simp; rfl)); intro gb141 hg w4 hbox hb; have n0_ := Aside0.mk (below_step (by repeat (first | (with_reducible first | exact HB.out | apply below_alloc | apply pw_below_drewN | apply below_drew1) | exact HB.out | exact ⟨HB.out.os, HB.out.tape, HB.out.output, HB.out.size, HB.out.block⟩)) hb); have n1_ := Aside0.mk (hbox); have n2_ := Aside0.mk ((by rw [hg]; exact (below_size (by repeat (first | (with_reducible first | exact HB.out | apply below_alloc | apply pw_below_drewN | apply below_drew1) | exact HB.out | exact ⟨HB.out.os, HB.out.tape, HB.out.output, HB.out.size, HB.out.block⟩))) : w.heap.size ≤ gb141)); have n3_ := Aside0.mk ((by rw [hg]; exact (below_size (by repeat (first | (with_reducible first | exact HB.out | apply below_alloc | apply pw_below_drewN | apply below_drew1) | exact HB.out | exact ⟨HB.out.os, HB.out.tape, HB.out.output, HB.out.size, HB.out.block⟩))) : w.heap.size ≤ gb141)); clear HB; have HB := n0_; have BK141 := n1_; have GW141 := n2_; have GE141 := n3_; clear n0_ n1_ n2_ n3_; clear hb hbox hg))
  go_ret2
  exact ⟨by first | rfl | (simp [errW_none, errW_some] <;> rfl) | (simp [*, errW_none, errW_some] <;> rfl), by repeat (first | (with_reducible first | exact HB.out | apply below_alloc | apply pw_below_drewN | apply below_drew1 | refine below_set ?_ GE141.out) | exact HB.out | exact ⟨HB.out.os, HB.out.tape, HB.out.output, HB.out.size, HB.out.block⟩)⟩
 ·
  rw [if_neg c3] at H
  have c3b0 : decide (a1 < 0) = false := decide_eq_false c3
  clear c3
  by_cases c5 : a1 ≥ (l0_2.length : Int)
  ·
   rw [if_pos c5] at H
   have c5b0 : decide ((l0_2.length : Int) ≤ a1) = true := decide_eq_true c5
   clear c5
   simp only [Option.some.injEq, Prod.mk.injEq] at H
   obtain ⟨rfl, rfl⟩ := H
   go_enter Try.func16, Try.ntmps16
   go_wp2_with (first | ((with_reducible refine gate_dst (N := 2) rfl ?_); (try (refine gate_guard (by rfl) ?_; dsimp only)); refine box_event ?hg (N := 2) ?hd (cs := #[.slice A0_0 l0_0.length c0_0, .slice A0_1 l0_1.length c0_1, .slice A0_2 l0_2.length c0_2, .int .i64 a0_3]) (t := 25) ?hr ?_; (case hd => rfl); (case hg => rfl); (case hr => first | (go_simp; done) | (go_simp; rfl)); intro gb141 hg w6 hbox hb; have n0_ := Aside0.mk (below_step (by repeat (first | (with_reducible first | exact HB.out | apply below_alloc | apply pw_below_drewN | apply below_drew1) | exact HB.out | exact ⟨HB.out.os, HB.out.tape, HB.out.output, HB.out.size, HB.out.block⟩)) hb); have n1_ := Aside0.mk (hbox); have n2_ := Aside0.mk ((by rw [hg]; exact (below_size (by repeat (first | (with_reducible first | exact HB.out | apply below_alloc | apply pw_below_drewN | apply below_drew1) | exact HB.out | exact ⟨HB.out.os, HB.out.tape, HB.out.output, HB.out.size, HB.out.block⟩))) : w.heap.size ≤ gb141)); have n3_ := Aside0.mk ((by rw [hg]; exact (below_size (by repeat (first | (with_reducible first | exact HB.out | apply below_alloc | apply pw_below_drewN | apply below_drew1) | exact HB.out | exact ⟨HB.out.os, HB.out.tape, HB.out.output, HB.out.size, HB.out.block⟩))) : w.heap.size ≤ gb141)); clear HB; have HB := n0_; have BK141 := n1_; have GW141 := n2_; have GE141 := n3_; clear n0_ n1_ n2_ n3_; clear hb hbox hg; have hcz7_0 : w6.cell? ⟨gb141, 0, none⟩ = some (.slice A0_0 l0_0.length c0_0) := (blk_cell BK141.out 0).trans rfl; have hcz7_1 : w6.cell? ⟨gb141, 1, none⟩ = some (.slice A0_1 l0_1.length c0_1) := (blk_cell BK141.out 1).trans rfl; have hcz7_2 : w6.cell? ⟨gb141, 2, none⟩ = some (.slice A0_2 l0_2.length c0_2) := (blk_cell BK141.out 2).trans rfl; have hcz7_3 : w6.cell? ⟨gb141, 3, none⟩ = some (.int .i64 a0_3) := (blk_cell BK141.out 3).trans rfl; have hfz7_0 := blk_frozen BK141.out 0; have hfz7_1 := blk_frozen BK141.out 1; have hfz7_2 := blk_frozen BK141.out 2; have hfz7_3 := blk_frozen BK141.out 3))
   go_ret2
   exact ⟨by first | rfl | (simp [errW_none, errW_some] <;> rfl) | (simp [*, errW_none, errW_some] <;> rfl), by repeat (first | (with_reducible first | exact HB.out | apply below_alloc | apply pw_below_drewN | apply below_drew1 | refine below_set ?_ GE141.out) | exact HB.out | exact ⟨HB.out.os, HB.out.tape, HB.out.output, HB.out.size, HB.out.block⟩)⟩
  ·
   rw [if_neg c5] at H
   have c5b0 : decide ((l0_2.length : Int) ≤ a1) = false := decide_eq_false c5
   clear c5
   by_cases c8 : 0 ≤ a1
   ·
    rw [if_pos c8] at H
    have c8b0 : decide (0 ≤ a1) = true := decide_eq_true c8
    clear c8
    by_cases c9 : a1 < (l0_2.length : Int)
    ·
     rw [if_pos c9] at H
     have c9b0 : decide (a1 < (l0_2.length : Int)) = true := decide_eq_true c9
     clear c9
     replace H := Option.bind_eq_some_iff.mp H
     obtain ⟨t143, A100, H⟩ := H
     replace H : (some (t143, 0)) = some (r1, r2) := H
     have A10 := Aside0.mk A100
     clear A100
     simp only [Option.some.injEq, Prod.mk.injEq] at H
     obtain ⟨rfl, rfl⟩ := H
     go_enter Try.func16, Try.ntmps16
     go_wp2_with (first | ((with_reducible refine gate_dst (N := 2) rfl ?_); (try (refine gate_guard (by rfl) ?_; dsimp only)); refine box_event ?hg (N := 2) ?hd (cs := #[.slice A0_0 l0_0.length c0_0, .slice A0_1 l0_1.length c0_1, .slice A0_2 l0_2.length c0_2, .int .i64 a0_3]) (t := 25) ?hr ?_; (case hd => rfl); (case hg => rfl); (case hr => first | (go_simp; done) | (go_simp; rfl)); intro gb141 hg w11 hbox hb; have n0_ := Aside0.mk (below_step (by repeat (first | (with_reducible first | exact HB.out | apply below_alloc | apply pw_below_drewN | apply below_drew1) | exact HB.out | exact ⟨HB.out.os, HB.out.tape, HB.out.output, HB.out.size, HB.out.block⟩)) hb); have n1_ := Aside0.mk (hbox); have n2_ := Aside0.mk ((by rw [hg]; exact (below_size (by repeat (first | (with_reducible first | exact HB.out | apply below_alloc | apply pw_below_drewN | apply below_drew1) | exact HB.out | exact ⟨HB.out.os, HB.out.tape, HB.out.output, HB.out.size, HB.out.block⟩))) : w.heap.size ≤ gb141)); have n3_ := Aside0.mk ((by rw [hg]; exact (below_size (by repeat (first | (with_reducible first | exact HB.out | apply below_alloc | apply pw_below_drewN | apply below_drew1) | exact HB.out | exact ⟨HB.out.os, HB.out.tape, HB.out.output, HB.out.size, HB.out.block⟩))) : w.heap.size ≤ gb141)); clear HB; have HB := n0_; have BK141 := n1_; have GW141 := n2_; have GE141 := n3_; clear n0_ n1_ n2_ n3_; clear hb hbox hg; have hcz12_0 : w11.cell? ⟨gb141, 0, none⟩ = some (.slice A0_0 l0_0.length c0_0) := (blk_cell BK141.out 0).trans rfl; have hcz12_1 : w11.cell? ⟨gb141, 1, none⟩ = some (.slice A0_1 l0_1.length c0_1) := (blk_cell BK141.out 1).trans rfl; have hcz12_2 : w11.cell? ⟨gb141, 2, none⟩ = some (.slice A0_2 l0_2.length c0_2) := (blk_cell BK141.out 2).trans rfl; have hcz12_3 : w11.cell? ⟨gb141, 3, none⟩ = some (.int .i64 a0_3) := (blk_cell BK141.out 3).trans rfl; have hfz12_0 := blk_frozen BK141.out 0; have hfz12_1 := blk_frozen BK141.out 1; have hfz12_2 := blk_frozen BK141.out 2; have hfz12_3 := blk_frozen BK141.out 3; have p142 : 0 ≤ (a1 : Int) := of_decide_eq_true (by first | (with_reducible assumption) | assumption); have q142 : a1 < (l0_2.length : Int) := of_decide_eq_true (by first | (with_reducible assumption) | assumption); obtain ⟨ad142, A142_0, c142_0, A142_1, c142_1, A142_7, c142_7, e142, hx142_0, hx142_1, hx142_2, hx142_3, hx142_4, hx142_5, hx142_6, hx142_7, hl142_0, hi142_0, hl142_1, hi142_1, hl142_7, hi142_7⟩ := at_T52 HR0_2.out a1 p142 q142; cases e142; replace hx142_0 := (HB.out.cell (World.block_lt_of_cell? w _ hx142_0)).trans hx142_0; replace hx142_1 := (HB.out.cell (World.block_lt_of_cell? w _ hx142_1)).trans hx142_1; replace hx142_2 := (HB.out.cell (World.block_lt_of_cell? w _ hx142_2)).trans hx142_2; replace hx142_3 := (HB.out.cell (World.block_lt_of_cell? w _ hx142_3)).trans hx142_3; replace hx142_4 := (HB.out.cell (World.block_lt_of_cell? w _ hx142_4)).trans hx142_4; replace hx142_5 := (HB.out.cell (World.block_lt_of_cell? w _ hx142_5)).trans hx142_5; replace hx142_6 := (HB.out.cell (World.block_lt_of_cell? w _ hx142_6)).trans hx142_6; replace hx142_7 := (HB.out.cell (World.block_lt_of_cell? w _ hx142_7)).trans hx142_7; have HR142_0 := Aside0.mk hi142_0; have HC142_0 := Aside0.mk hl142_0; clear hi142_0 hl142_0; have HR142_1 := Aside0.mk hi142_1; have HC142_1 := Aside0.mk hl142_1; clear hi142_1 hl142_1; have HR142_7 := Aside0.mk hi142_7; have HC142_7 := Aside0.mk hl142_7; clear hi142_7 hl142_7; replace p142 := eq_true p142; replace q142 := eq_true q142) | ((with_reducible refine gate_callee (f := 42) rfl ?_); refine goesL_ (some 20) rfl rfl Try.func42 (by kernel_rfl) rfl #[.agg #[.slice A142_0 ((rd_T52 l0_2 a1).f0).length c142_0, .slice A142_1 ((rd_T52 l0_2 a1).f1).length c142_1, .int .u8 ((rd_T52 l0_2 a1).f2), .bool ((rd_T52 l0_2 a1).f3), .int .i64 ((rd_T52 l0_2 a1).f4), .int .i64 ((rd_T52 l0_2 a1).f5), .int .i64 ((rd_T52 l0_2 a1).f6), .slice A142_7 ((rd_T52 l0_2 a1).f7).length c142_7]] rfl (by (try simp only [List.map_toArray, List.map_cons, List.map_nil]); first | done | rfl | (simp only [List.length_drop, List.length_take]; rfl)) ?_; (with_reducible refine (pure_stores.calls k _ _ ((rd_T52 l0_2 a1).f0) _ _ ((rd_T52 l0_2 a1).f1) ((rd_T52 l0_2 a1).f2) ((rd_T52 l0_2 a1).f3) ((rd_T52 l0_2 a1).f4) ((rd_T52 l0_2 a1).f5) ((rd_T52 l0_2 a1).f6) _ _ ((rd_T52 l0_2 a1).f7) t143 _ ?side1 ?side2 ?side3 ?side4 ?side5 ?side6 A10.out).mono ?_); (case side1 => repeat (first | exact (Kd.C_below HR142_0.out HB.out) | (with_reducible refine Kd.C_alloc ?_ _) | (with_reducible refine Kd.C_drewN ?_ _) | (with_reducible refine Kd.C_drew ?_))); (case side2 => exact HC142_0.out); (case side3 => repeat (first | exact (Kd.C_below HR142_1.out HB.out) | (with_reducible refine Kd.C_alloc ?_ _) | (with_reducible refine Kd.C_drewN ?_ _) | (with_reducible refine Kd.C_drew ?_))); (case side4 => exact HC142_1.out); (case side5 => repeat (first | exact (Kd.C_below HR142_7.out HB.out) | (with_reducible refine Kd.C_alloc ?_ _) | (with_reducible refine Kd.C_drewN ?_ _) | (with_reducible refine Kd.C_drew ?_))); (case side6 => exact HC142_7.out); rintro e w13 ⟨rfl, hb⟩; refine ⟨_, rfl, ?_⟩; have n0_ := Aside0.mk (blk_below (g := gb141) (o := .cells #[.slice A0_0 l0_0.length c0_0, .slice A0_1 l0_1.length c0_1, .slice (some ad142) l0_2.length c0_2, .int .i64 a0_3] 25 (0, 0)) (by (with_reducible repeat (first | refine blk_drewN ?_ _ | refine blk_drew ?_ | refine blk_alloc ?_ _)); exact BK141.out) hb); have n1_ := Aside0.mk (below_step (by repeat (first | (with_reducible first | exact HB.out | apply below_alloc | apply pw_below_drewN | apply below_drew1 | refine below_set ?_ GE141.out) | exact HB.out | exact ⟨HB.out.os, HB.out.tape, HB.out.output, HB.out.size, HB.out.block⟩)) hb); clear BK141; clear HB; have BK141 := n0_; have HB := n1_; clear n0_ n1_; (try clear hb); (try clear hb2); (try clear hk); (try clear hi)))
     go_ret2
     exact ⟨by first | rfl | (simp [errW_none, errW_some] <;> rfl) | (simp [*, errW_none, errW_some] <;> rfl), by repeat (first | (with_reducible first | exact HB.out | apply below_alloc | apply pw_below_drewN | apply below_drew1 | refine below_set ?_ GE141.out) | exact HB.out | exact ⟨HB.out.os, HB.out.tape, HB.out.output, HB.out.size, HB.out.block⟩)⟩
    ·
     rw [if_neg c9] at H
     exact absurd H (by simp)
   ·
    rw [if_neg c8] at H
    exact absurd H (by simp)

end Go.Proofs.Ytkmnachdibhdhaa.T
