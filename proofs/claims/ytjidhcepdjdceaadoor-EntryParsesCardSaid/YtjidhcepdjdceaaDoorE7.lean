/- Contracts of the functions of this seat (each: the call of the function does what the plain Lean function of the same name tells; the conditions stand in each statement). Written by a program of this session and by hand; checked by Lean. -/
import Derived.Test.YtjidhcepdjdceaaDoorE0
import Derived.Test.YtjidhcepdjdceaaDoorE6
namespace Go.Proofs.YtjidhcepdjdceaaDoor.E
open Go.RowKit Go.Proofs.YtjidhcepdjdceaaDoorW.PrintWords Go.Proofs.YtjidhcepdjdceaaDoorW.PrintLast Go.Proofs.YtjidhcepdjdceaaDoorW.PrintMore
attribute [local go_sem] max2_int min2_int max_two min_two max_three min_three max_four min_four   -- for this text's walks alone
set_option linter.unusedVariables false
set_option linter.unusedSimpArgs false

/-! ### capstanref18_Read: function 28 -/
mutual
def capstanref18_Read.j0 : Nat → List Int → Int → Bool → Int → Int → Int → Option (Int × Int × Int × Int)
 | 0, _, _, _, _, _, _ => none
 | k + 1, x0, x1, x18, x187000, x187001, x187002 => if x18 = true then (some (x187000, x187001, x187002, (-1))) else (if 0 ≤ x1 then (if x1 < (x0.length : Int) then (if (rd x0 x1) = 1 then (capstanref18_Read.j1 k x0 x1 8 x187000 x187001 x187002 (rd x0 x1) 0 0) else (if (rd x0 x1) = 2 then (capstanref18_Read.j1 k x0 x1 6 x187000 x187001 x187002 (rd x0 x1) 0 0) else (capstanref18_Read.j1 k x0 x1 0 x187000 x187001 x187002 (rd x0 x1) 0 0))) else (none)) else (none))
def capstanref18_Read.j1 : Nat → List Int → Int → Int → Int → Int → Int → Int → Int → Int → Option (Int × Int × Int × Int)
 | 0, _, _, _, _, _, _, _, _, _ => none
 | k + 1, x0, x1, x8, x187000, x187001, x187002, x189000, x189001, x189002 => if x8 = 0 then (capstanref18_Read.j2 k x0 x1 x8 true x187000 x187001 x187002 x189000 x189001 x189002) else (capstanref18_Read.j2 k x0 x1 x8 (decide ((wrap64 ((wrap64 ((x0.length : Int) - x1)) - 1)) < x8)) x187000 x187001 x187002 x189000 x189001 x189002)
def capstanref18_Read.j2 : Nat → List Int → Int → Int → Bool → Int → Int → Int → Int → Int → Int → Option (Int × Int × Int × Int)
 | 0, _, _, _, _, _, _, _, _, _, _ => none
 | k + 1, x0, x1, x8, x41, x187000, x187001, x187002, x189000, x189001, x189002 => if x41 = true then (some (x187000, x187001, x187002, (-1))) else (if 0 ≤ (wrap64 (x1 + 1)) then (if (wrap64 (x1 + 1)) ≤ (wrap64 ((wrap64 (x1 + 1)) + x8)) then (if (wrap64 ((wrap64 (x1 + 1)) + x8)) ≤ (x0.length : Int) then (if x189000 = 1 then ((capstanref18_number.f k ((x0.take ((wrap64 ((wrap64 (x1 + 1)) + x8)) : Int).toNat).drop ((wrap64 (x1 + 1)) : Int).toNat)).bind fun t190 => ((capstanref17_Outside.f x189000 (wrap64 (t190)) x189002).bind fun t191 => (if t191 = true then (some (x189000, wrap64 (t190), x189002, wrap64 ((wrap64 (x1 + 1)) + x8))) else (some (x187000, x187001, x187002, (-1)))))) else (if 3 ≤ (((x0.take ((wrap64 ((wrap64 (x1 + 1)) + x8)) : Int).toNat).drop ((wrap64 (x1 + 1)) : Int).toNat).length : Int) then ((capstanref18_number.f k (((x0.take ((wrap64 ((wrap64 (x1 + 1)) + x8)) : Int).toNat).drop ((wrap64 (x1 + 1)) : Int).toNat).take 3)).bind fun t193 => ((capstanref18_number.f k (((x0.take ((wrap64 ((wrap64 (x1 + 1)) + x8)) : Int).toNat).drop ((wrap64 (x1 + 1)) : Int).toNat).drop 3)).bind fun t195 => ((capstanref17_Outside.f x189000 (wrap64 ((wrap64 (t193)) - 1048576)) (wrap64 ((wrap64 (t195)) - 1048576))).bind fun t196 => (if t196 = true then (some (x189000, wrap64 ((wrap64 (t193)) - 1048576), wrap64 ((wrap64 (t195)) - 1048576), wrap64 ((wrap64 (x1 + 1)) + x8))) else (some (x187000, x187001, x187002, (-1))))))) else (none))) else (none)) else (none)) else (none))
end
def capstanref18_Read.f (k : Nat) (l0 : List Int) (a1 : Int) : Option (Int × Int × Int × Int) := if a1 < 0 then (capstanref18_Read.j0 k l0 a1 true 0 0 0) else (capstanref18_Read.j0 k l0 a1 (decide (a1 ≥ (l0.length : Int))) 0 0 0)
theorem capstanref18_Read.mono_l : ∀ k, (∀ y0 y1 y2 y3 y4 y5, LeO (capstanref18_Read.j0 k y0 y1 y2 y3 y4 y5) (capstanref18_Read.j0 (k + 1) y0 y1 y2 y3 y4 y5)) ∧ (∀ y0 y1 y2 y3 y4 y5 y6 y7 y8, LeO (capstanref18_Read.j1 k y0 y1 y2 y3 y4 y5 y6 y7 y8) (capstanref18_Read.j1 (k + 1) y0 y1 y2 y3 y4 y5 y6 y7 y8)) ∧ (∀ y0 y1 y2 y3 y4 y5 y6 y7 y8 y9, LeO (capstanref18_Read.j2 k y0 y1 y2 y3 y4 y5 y6 y7 y8 y9) (capstanref18_Read.j2 (k + 1) y0 y1 y2 y3 y4 y5 y6 y7 y8 y9))
 | 0 => ⟨fun _ _ _ _ _ _ r h => by simp [capstanref18_Read.j0] at h, fun _ _ _ _ _ _ _ _ _ r h => by simp [capstanref18_Read.j1] at h, fun _ _ _ _ _ _ _ _ _ _ r h => by simp [capstanref18_Read.j2] at h⟩
 | k + 1 => by
  obtain ⟨ih0, ih1, ih2⟩ := capstanref18_Read.mono_l k
  refine ⟨?_, ?_, ?_⟩
  ·
   intro y0 y1 y2 y3 y4 y5
   unfold capstanref18_Read.j0
   repeat' first
   | (with_reducible exact ih0 _ _ _ _ _ _)
   | (with_reducible exact ih1 _ _ _ _ _ _ _ _ _)
   | (with_reducible exact ih2 _ _ _ _ _ _ _ _ _ _)
   | (with_reducible exact capstanref18_number.mono _ _)
   | (with_reducible exact LeO.refl _)
   | (with_reducible exact LeO.none _)
   | (with_reducible refine LeO.ite ?_ ?_)
   | (with_reducible refine LeO.bind ?_ (fun _ => ?_))
   | exact ih0 _ _ _ _ _ _
   | exact ih1 _ _ _ _ _ _ _ _ _
   | exact ih2 _ _ _ _ _ _ _ _ _ _
   | exact capstanref18_number.mono _ _
   | exact LeO.none _
   | refine LeO.ite ?_ ?_
   | refine LeO.bind ?_ (fun _ => ?_)
  ·
   intro y0 y1 y2 y3 y4 y5 y6 y7 y8
   unfold capstanref18_Read.j1
   repeat' first
   | (with_reducible exact ih0 _ _ _ _ _ _)
   | (with_reducible exact ih1 _ _ _ _ _ _ _ _ _)
   | (with_reducible exact ih2 _ _ _ _ _ _ _ _ _ _)
   | (with_reducible exact capstanref18_number.mono _ _)
   | (with_reducible exact LeO.refl _)
   | (with_reducible exact LeO.none _)
   | (with_reducible refine LeO.ite ?_ ?_)
   | (with_reducible refine LeO.bind ?_ (fun _ => ?_))
   | exact ih0 _ _ _ _ _ _
   | exact ih1 _ _ _ _ _ _ _ _ _
   | exact ih2 _ _ _ _ _ _ _ _ _ _
   | exact capstanref18_number.mono _ _
   | exact LeO.none _
   | refine LeO.ite ?_ ?_
   | refine LeO.bind ?_ (fun _ => ?_)
  ·
   intro y0 y1 y2 y3 y4 y5 y6 y7 y8 y9
   unfold capstanref18_Read.j2
   repeat' first
   | (with_reducible exact ih0 _ _ _ _ _ _)
   | (with_reducible exact ih1 _ _ _ _ _ _ _ _ _)
   | (with_reducible exact ih2 _ _ _ _ _ _ _ _ _ _)
   | (with_reducible exact capstanref18_number.mono _ _)
   | (with_reducible exact LeO.refl _)
   | (with_reducible exact LeO.none _)
   | (with_reducible refine LeO.ite ?_ ?_)
   | (with_reducible refine LeO.bind ?_ (fun _ => ?_))
   | exact ih0 _ _ _ _ _ _
   | exact ih1 _ _ _ _ _ _ _ _ _
   | exact ih2 _ _ _ _ _ _ _ _ _ _
   | exact capstanref18_number.mono _ _
   | exact LeO.none _
   | refine LeO.ite ?_ ?_
   | refine LeO.bind ?_ (fun _ => ?_)
theorem capstanref18_Read.mono : ∀ a0 a1 k, LeO (capstanref18_Read.f k a0 a1) (capstanref18_Read.f (k + 1) a0 a1) := by
 intro a0 a1 k
 obtain ⟨ih0, ih1, ih2⟩ := capstanref18_Read.mono_l k
 unfold capstanref18_Read.f
 repeat' first
   | (with_reducible exact ih0 _ _ _ _ _ _)
   | (with_reducible exact ih1 _ _ _ _ _ _ _ _ _)
   | (with_reducible exact ih2 _ _ _ _ _ _ _ _ _ _)
   | (with_reducible exact capstanref18_number.mono _ _)
   | (with_reducible exact LeO.refl _)
   | (with_reducible exact LeO.none _)
   | (with_reducible refine LeO.ite ?_ ?_)
   | (with_reducible refine LeO.bind ?_ (fun _ => ?_))
   | exact ih0 _ _ _ _ _ _
   | exact ih1 _ _ _ _ _ _ _ _ _
   | exact ih2 _ _ _ _ _ _ _ _ _ _
   | exact capstanref18_number.mono _ _
   | exact LeO.none _
   | refine LeO.ite ?_ ?_
   | refine LeO.bind ?_ (fun _ => ?_)
set_option maxHeartbeats 8000000 in
set_option maxRecDepth 100000 in
theorem capstanref18_Read.calls (k : Nat) (A0 : Option Addr) (c0 : Nat) (l0 : List Int) (a1 : Int) (r1 : Int) (r2 : Int) (r3 : Int) (r4 : Int) (w : World) (hr0 : Kd.C (Kd.int .u8) w A0 l0.length l0) (hc0 : l0.length ≤ c0) (h : capstanref18_Read.f k l0 a1 = some (r1, r2, r3, r4)) :
  Calls Tryd.prog 28 #[.slice A0 l0.length c0, .int .i64 a1] w fun e w' => e = .returned (.tuple #[.agg #[.int .u8 r1, .int .i64 r2, .int .i64 r3], .int .i64 r4]) ∧ Below w.heap.size w w' := by
 have hu37 := Tryd.underlying37
 have HR0 := Aside0.mk hr0
 have HC0 := Aside0.mk hc0
 clear hr0 hc0
 have HB := Aside0.mk (Below.refl w.heap.size w)
 have H : (if a1 < 0 then (capstanref18_Read.j0 k l0 a1 true 0 0 0) else (capstanref18_Read.j0 k l0 a1 (decide (a1 ≥ (l0.length : Int))) 0 0 0)) = some (r1, r2, r3, r4) := h
 clear h
 have HC3 := Aside0.mk H
 clear H
 go_enter Tryd.func28, Tryd.ntmps28
 go_upto_region 2 with (first | ((with_reducible refine gate_dst (N := 4) rfl ?_); (try (refine gate_guard (by rfl) ?_; dsimp only)); refine box_event ?hg (N := 4) ?hd (cs := #[.int .u8 0, .int .i64 0, .int .i64 0]) (t := 37) ?hr ?_; (case hd => rfl); (case hg => rfl); (case hr => first | (go_simp; done) | (go_simp; rfl)); intro gb185 hg w4 hbox hb; have n0_ := Aside0.mk (below_step (by repeat (first | (with_reducible first | exact HB.out | apply below_alloc | apply pw_below_drewN | apply below_drew1) | exact HB.out | exact ⟨HB.out.os, HB.out.tape, HB.out.output, HB.out.size, HB.out.block⟩)) hb); have n1_ := Aside0.mk (hbox); have n2_ := Aside0.mk ((by rw [hg]; exact (below_size (by repeat (first | (with_reducible first | exact HB.out | apply below_alloc | apply pw_below_drewN | apply below_drew1) | exact HB.out | exact ⟨HB.out.os, HB.out.tape, HB.out.output, HB.out.size, HB.out.block⟩))) : w.heap.size ≤ gb185)); have n3_ := Aside0.mk ((by rw [hg]; exact (below_size (by repeat (first | (with_reducible first | exact HB.out | apply below_alloc | apply pw_below_drewN | apply below_drew1) | exact HB.out | exact ⟨HB.out.os, HB.out.tape, HB.out.output, HB.out.size, HB.out.block⟩))) : w.heap.size ≤ gb185)); clear HB; have HB := n0_; have BK185 := n1_; have GW185 := n2_; have GE185 := n3_; clear n0_ n1_ n2_ n3_; clear hb hbox hg) | ((with_reducible refine gate_dst (N := 6) rfl ?_); (try (refine gate_guard (by rfl) ?_; dsimp only)); refine box_event ?hg (N := 6) ?hd (cs := #[.int .u8 0, .int .i64 0, .int .i64 0]) (t := 37) ?hr ?_; (case hd => rfl); (case hg => rfl); (case hr => first | (go_simp; done) | (go_simp; rfl)); intro gb186 hg w5 hbox hb; have n0_ := Aside0.mk (blk_below (g := gb185) (o := .cells #[.int .u8 0, .int .i64 0, .int .i64 0] 37 (0, 0)) (by (with_reducible repeat (first | refine blk_drewN ?_ _ | refine blk_drew ?_ | refine blk_alloc ?_ _)); exact BK185.out) hb); have n1_ := Aside0.mk (below_step (by repeat (first | (with_reducible first | exact HB.out | apply below_alloc | apply pw_below_drewN | apply below_drew1 | refine below_set ?_ GE185.out) | exact HB.out | exact ⟨HB.out.os, HB.out.tape, HB.out.output, HB.out.size, HB.out.block⟩)) hb); have n2_ := Aside0.mk (hbox); have n3_ := Aside0.mk ((by rw [hg]; exact (below_size (by repeat (first | (with_reducible first | exact HB.out | apply below_alloc | apply pw_below_drewN | apply below_drew1 | refine below_set ?_ GE185.out) | exact HB.out | exact ⟨HB.out.os, HB.out.tape, HB.out.output, HB.out.size, HB.out.block⟩))) : w.heap.size ≤ gb186)); have n4_ := Aside0.mk ((by rw [hg]; exact (below_size (by repeat (first | (with_reducible first | exact HB.out | apply below_alloc | apply pw_below_drewN | apply below_drew1 | refine below_set ?_ GE185.out) | exact HB.out | exact ⟨HB.out.os, HB.out.tape, HB.out.output, HB.out.size, HB.out.block⟩))) : w.heap.size ≤ gb186)); have n5_ := Aside0.mk ((by rw [hg]; exact Nat.ne_of_lt (blk_lt (g := gb185) (o := .cells #[.int .u8 0, .int .i64 0, .int .i64 0] 37 (0, 0)) (by (with_reducible repeat (first | refine blk_drewN ?_ _ | refine blk_drew ?_ | refine blk_alloc ?_ _)); exact BK185.out)) : gb185 ≠ gb186)); have n6_ := Aside0.mk ((by rw [hg]; exact Nat.ne_of_gt (blk_lt (g := gb185) (o := .cells #[.int .u8 0, .int .i64 0, .int .i64 0] 37 (0, 0)) (by (with_reducible repeat (first | refine blk_drewN ?_ _ | refine blk_drew ?_ | refine blk_alloc ?_ _)); exact BK185.out)) : gb186 ≠ gb185)); clear BK185; clear HB; have BK185 := n0_; have HB := n1_; have BK186 := n2_; have GW186 := n3_; have GE186 := n4_; have NB185_186 := n5_; have NB186_185 := n6_; clear n0_ n1_ n2_ n3_ n4_ n5_ n6_; clear hb hbox hg; have hnb6 := NB186_185.out; have hnc6 := NB185_186.out; have hcz7_0 : w5.cell? ⟨gb186, 0, none⟩ = some (.int .u8 0) := (blk_cell BK186.out 0).trans rfl; have hcz7_1 : w5.cell? ⟨gb186, 1, none⟩ = some (.int .i64 0) := (blk_cell BK186.out 1).trans rfl; have hcz7_2 : w5.cell? ⟨gb186, 2, none⟩ = some (.int .i64 0) := (blk_cell BK186.out 2).trans rfl; have hfz7_0 := blk_frozen BK186.out 0; have hfz7_1 := blk_frozen BK186.out 1; have hfz7_2 := blk_frozen BK186.out 2))
 (try simp only [Act.put, List.setIfInBounds_toArray, List.set_cons_zero, List.set_cons_succ])
 go_cut [18] (fun v18 wc => ∃ (kq : Nat) (x18_2 : Bool), v18 = .bool x18_2 ∧ Aside0 (capstanref18_Read.j0 kq l0 a1 x18_2 0 0 0 = some (r1, r2, r3, r4)) ∧ Aside0 (kq ≤ k) ∧ Aside0 (wc.heap[gb185]? = some (.cells #[.int .u8 0, .int .i64 0, .int .i64 0] 37 (0, 0))) ∧ Aside0 (wc.heap[gb186]? = some (.cells #[.int .u8 0, .int .i64 0, .int .i64 0] 37 (0, 0))) ∧ Aside0 (Below w.heap.size w wc))
 case first =>
  have H := HC3.out
  clear HC3
  by_cases c8 : a1 < 0
  ·
   rw [if_pos c8] at H
   have c8b0 : decide (a1 < 0) = true := decide_eq_true c8
   clear c8
   (first | rw [c8b0] | (simp only [i64_w, i32_w]; rw [c8b0]) | skip)
   have H' := Aside0.mk H
   clear H
   go_wp2
   go_meet
   case rel => exact ⟨_, (true), (by first | rfl | (simp; done) | (simp [*]; done)), H', ⟨by first | omega | exact Nat.le_refl _⟩, ⟨by (with_reducible repeat (first | refine blk_drewN ?_ _ | refine blk_drew ?_ | refine blk_alloc ?_ _)); refine blk_far ?_ NB185_186.out _; (with_reducible repeat (first | refine blk_drewN ?_ _ | refine blk_drew ?_ | refine blk_alloc ?_ _)); refine blk_far ?_ NB185_186.out _; (with_reducible repeat (first | refine blk_drewN ?_ _ | refine blk_drew ?_ | refine blk_alloc ?_ _)); refine blk_far ?_ NB185_186.out _; (with_reducible repeat (first | refine blk_drewN ?_ _ | refine blk_drew ?_ | refine blk_alloc ?_ _)); exact BK185.out⟩, ⟨by (with_reducible repeat (first | refine blk_drewN ?_ _ | refine blk_drew ?_ | refine blk_alloc ?_ _)); refine blk_put (cs := #[.int .u8 0, .int .i64 0, .int .i64 0]) ?_ 2 _ rfl; (with_reducible repeat (first | refine blk_drewN ?_ _ | refine blk_drew ?_ | refine blk_alloc ?_ _)); refine blk_put (cs := #[.int .u8 0, .int .i64 0, .int .i64 0]) ?_ 1 _ rfl; (with_reducible repeat (first | refine blk_drewN ?_ _ | refine blk_drew ?_ | refine blk_alloc ?_ _)); refine blk_put (cs := #[.int .u8 0, .int .i64 0, .int .i64 0]) ?_ 0 _ rfl; (with_reducible repeat (first | refine blk_drewN ?_ _ | refine blk_drew ?_ | refine blk_alloc ?_ _)); exact BK186.out⟩, ⟨by repeat (first | (with_reducible first | exact HB.out | apply below_alloc | apply pw_below_drewN | apply below_drew1 | refine below_set ?_ GE185.out | refine below_set ?_ GE186.out) | exact HB.out | exact ⟨HB.out.os, HB.out.tape, HB.out.output, HB.out.size, HB.out.block⟩)⟩⟩
  ·
   rw [if_neg c8] at H
   have c8b0 : decide (a1 < 0) = false := decide_eq_false c8
   clear c8
   (first | rw [c8b0] | (simp only [i64_w, i32_w]; rw [c8b0]) | skip)
   have H' := Aside0.mk H
   clear H
   go_wp2
   go_meet
   case rel => exact ⟨_, (decide (a1 ≥ (l0.length : Int))), (by first | rfl | (simp; done) | (simp [*]; done)), H', ⟨by first | omega | exact Nat.le_refl _⟩, ⟨by (with_reducible repeat (first | refine blk_drewN ?_ _ | refine blk_drew ?_ | refine blk_alloc ?_ _)); refine blk_far ?_ NB185_186.out _; (with_reducible repeat (first | refine blk_drewN ?_ _ | refine blk_drew ?_ | refine blk_alloc ?_ _)); refine blk_far ?_ NB185_186.out _; (with_reducible repeat (first | refine blk_drewN ?_ _ | refine blk_drew ?_ | refine blk_alloc ?_ _)); refine blk_far ?_ NB185_186.out _; (with_reducible repeat (first | refine blk_drewN ?_ _ | refine blk_drew ?_ | refine blk_alloc ?_ _)); exact BK185.out⟩, ⟨by (with_reducible repeat (first | refine blk_drewN ?_ _ | refine blk_drew ?_ | refine blk_alloc ?_ _)); refine blk_put (cs := #[.int .u8 0, .int .i64 0, .int .i64 0]) ?_ 2 _ rfl; (with_reducible repeat (first | refine blk_drewN ?_ _ | refine blk_drew ?_ | refine blk_alloc ?_ _)); refine blk_put (cs := #[.int .u8 0, .int .i64 0, .int .i64 0]) ?_ 1 _ rfl; (with_reducible repeat (first | refine blk_drewN ?_ _ | refine blk_drew ?_ | refine blk_alloc ?_ _)); refine blk_put (cs := #[.int .u8 0, .int .i64 0, .int .i64 0]) ?_ 0 _ rfl; (with_reducible repeat (first | refine blk_drewN ?_ _ | refine blk_drew ?_ | refine blk_alloc ?_ _)); exact BK186.out⟩, ⟨by repeat (first | (with_reducible first | exact HB.out | apply below_alloc | apply pw_below_drewN | apply below_drew1 | refine below_set ?_ GE185.out | refine below_set ?_ GE186.out) | exact HB.out | exact ⟨HB.out.os, HB.out.tape, HB.out.output, HB.out.size, HB.out.block⟩)⟩⟩
 case rest =>
  clear HC3
  try clear c2
  try clear p2
  try clear c6
  try clear c8
  try clear c8b0
  try clear hcz7_0
  try clear hcz7_1
  try clear hcz7_2
  try clear hfz7_0
  try clear hfz7_1
  try clear hfz7_2
  obtain ⟨kq, x18_2, rfl, HA, HJ2, BK185, BK186, HB⟩ := hcut
  cases kq with
  | zero => exact absurd HA.out (by simp [capstanref18_Read.j0])
  | succ kj2 =>
   have H := HA.out
   clear HA
   simp only [capstanref18_Read.j0] at H
   by_cases c9 : x18_2 = true
   ·
    subst c9
    have H1 : (some (0, 0, 0, (-1))) = some (r1, r2, r3, r4) := by rw [if_pos rfl] at H; exact H
    clear H
    have H := H1
    clear H1
    simp only [Option.some.injEq, Prod.mk.injEq] at H
    obtain ⟨rfl, rfl, rfl, rfl⟩ := H
    have hnb10 := NB186_185.out
    have hnc10 := NB185_186.out
    have hcz11_0 : wc.cell? ⟨gb186, 0, none⟩ = some (.int .u8 0) := (blk_cell BK186.out 0).trans rfl
    have hcz11_1 : wc.cell? ⟨gb186, 1, none⟩ = some (.int .i64 0) := (blk_cell BK186.out 1).trans rfl
    have hcz11_2 : wc.cell? ⟨gb186, 2, none⟩ = some (.int .i64 0) := (blk_cell BK186.out 2).trans rfl
    have hfz11_0 := blk_frozen BK186.out 0
    have hfz11_1 := blk_frozen BK186.out 1
    have hfz11_2 := blk_frozen BK186.out 2
    have hcz12_0 : wc.cell? ⟨gb185, 0, none⟩ = some (.int .u8 0) := (blk_cell BK185.out 0).trans rfl
    have hcz12_1 : wc.cell? ⟨gb185, 1, none⟩ = some (.int .i64 0) := (blk_cell BK185.out 1).trans rfl
    have hcz12_2 : wc.cell? ⟨gb185, 2, none⟩ = some (.int .i64 0) := (blk_cell BK185.out 2).trans rfl
    have hfz12_0 := blk_frozen BK185.out 0
    have hfz12_1 := blk_frozen BK185.out 1
    have hfz12_2 := blk_frozen BK185.out 2
    go_wp2
    refine bodyPost_ret (results_ct rfl _ _ gb185 37 #[.int .u8 0, .int .i64 0, .int .i64 0] (0, 0) _ rfl (by (with_reducible repeat (first | refine blk_drewN ?_ _ | refine blk_drew ?_ | refine blk_alloc ?_ _)); refine blk_put (cs := #[.int .u8 0, .int .i64 0, .int .i64 0]) ?_ 2 _ rfl; (with_reducible repeat (first | refine blk_drewN ?_ _ | refine blk_drew ?_ | refine blk_alloc ?_ _)); refine blk_put (cs := #[.int .u8 0, .int .i64 0, .int .i64 0]) ?_ 1 _ rfl; (with_reducible repeat (first | refine blk_drewN ?_ _ | refine blk_drew ?_ | refine blk_alloc ?_ _)); refine blk_put (cs := #[.int .u8 0, .int .i64 0, .int .i64 0]) ?_ 0 _ rfl; (with_reducible repeat (first | refine blk_drewN ?_ _ | refine blk_drew ?_ | refine blk_alloc ?_ _)); exact BK185.out) Tryd.underlying37 rfl (by kernel_rfl)) rfl ?_
    exact ⟨by first | rfl | (simp [errW_none, errW_some] <;> rfl) | (simp [*, errW_none, errW_some] <;> rfl), by repeat (first | (with_reducible first | exact HB.out | apply below_alloc | apply pw_below_drewN | apply below_drew1 | refine below_set ?_ GE185.out | refine below_set ?_ GE186.out) | exact HB.out | exact ⟨HB.out.os, HB.out.tape, HB.out.output, HB.out.size, HB.out.block⟩)⟩
   ·
    replace c9 := Bool.eq_false_iff.mpr c9
    subst c9
    have H1 : (if 0 ≤ a1 then (if a1 < (l0.length : Int) then (if (rd l0 a1) = 1 then (capstanref18_Read.j1 kj2 l0 a1 8 0 0 0 (rd l0 a1) 0 0) else (if (rd l0 a1) = 2 then (capstanref18_Read.j1 kj2 l0 a1 6 0 0 0 (rd l0 a1) 0 0) else (capstanref18_Read.j1 kj2 l0 a1 0 0 0 0 (rd l0 a1) 0 0))) else (none)) else (none)) = some (r1, r2, r3, r4) := by rw [if_neg (show ¬ (false = true) by decide)] at H; exact H
    clear H
    have H := H1
    clear H1
    by_cases c13 : 0 ≤ a1
    ·
     rw [if_pos c13] at H
     have c13b0 : decide (0 ≤ a1) = true := decide_eq_true c13
     clear c13
     by_cases c14 : a1 < (l0.length : Int)
     ·
      rw [if_pos c14] at H
      have c14b0 : decide (a1 < (l0.length : Int)) = true := decide_eq_true c14
      clear c14
      have HC15 := Aside0.mk H
      clear H
      have p187 : 0 ≤ (a1 : Int) := of_decide_eq_true (by first | (with_reducible assumption) | assumption)
      have q187 : a1 < (l0.length : Int) := of_decide_eq_true (by first | (with_reducible assumption) | assumption)
      obtain ⟨ad187, e187, hx187_0⟩ := Kd.at_int HR0.out a1 p187 q187
      cases e187
      replace hx187_0 := (HB.out.cell (World.block_lt_of_cell? w _ hx187_0)).trans hx187_0
      replace p187 := eq_true p187
      replace q187 := eq_true q187
      go_upto_block 0 with (first | ((with_reducible refine gate_dst (N := 7) rfl ?_); (try (refine gate_guard (by rfl) ?_; dsimp only)); refine box_event ?hg (N := 7) ?hd (cs := #[.int .u8 0, .int .i64 0, .int .i64 0]) (t := 37) ?hr ?_; (case hd => rfl); (case hg => rfl); (case hr => first | (go_simp; done) | (go_simp; rfl)); intro gb188 hg w16 hbox hb; have n0_ := Aside0.mk (blk_below (g := gb185) (o := .cells #[.int .u8 0, .int .i64 0, .int .i64 0] 37 (0, 0)) (by (with_reducible repeat (first | refine blk_drewN ?_ _ | refine blk_drew ?_ | refine blk_alloc ?_ _)); exact BK185.out) hb); have n1_ := Aside0.mk (blk_below (g := gb186) (o := .cells #[.int .u8 0, .int .i64 0, .int .i64 0] 37 (0, 0)) (by (with_reducible repeat (first | refine blk_drewN ?_ _ | refine blk_drew ?_ | refine blk_alloc ?_ _)); exact BK186.out) hb); have n2_ := Aside0.mk (below_step (by repeat (first | (with_reducible first | exact HB.out | apply below_alloc | apply pw_below_drewN | apply below_drew1 | refine below_set ?_ GE185.out | refine below_set ?_ GE186.out) | exact HB.out | exact ⟨HB.out.os, HB.out.tape, HB.out.output, HB.out.size, HB.out.block⟩)) hb); have n3_ := Aside0.mk (hbox); have n4_ := Aside0.mk ((by rw [hg]; exact (below_size (by repeat (first | (with_reducible first | exact HB.out | apply below_alloc | apply pw_below_drewN | apply below_drew1 | refine below_set ?_ GE185.out | refine below_set ?_ GE186.out) | exact HB.out | exact ⟨HB.out.os, HB.out.tape, HB.out.output, HB.out.size, HB.out.block⟩))) : w.heap.size ≤ gb188)); have n5_ := Aside0.mk ((by rw [hg]; exact (below_size (by repeat (first | (with_reducible first | exact HB.out | apply below_alloc | apply pw_below_drewN | apply below_drew1 | refine below_set ?_ GE185.out | refine below_set ?_ GE186.out) | exact HB.out | exact ⟨HB.out.os, HB.out.tape, HB.out.output, HB.out.size, HB.out.block⟩))) : w.heap.size ≤ gb188)); have n6_ := Aside0.mk ((by rw [hg]; exact Nat.ne_of_lt (blk_lt (g := gb185) (o := .cells #[.int .u8 0, .int .i64 0, .int .i64 0] 37 (0, 0)) (by (with_reducible repeat (first | refine blk_drewN ?_ _ | refine blk_drew ?_ | refine blk_alloc ?_ _)); exact BK185.out)) : gb185 ≠ gb188)); have n7_ := Aside0.mk ((by rw [hg]; exact Nat.ne_of_gt (blk_lt (g := gb185) (o := .cells #[.int .u8 0, .int .i64 0, .int .i64 0] 37 (0, 0)) (by (with_reducible repeat (first | refine blk_drewN ?_ _ | refine blk_drew ?_ | refine blk_alloc ?_ _)); exact BK185.out)) : gb188 ≠ gb185)); have n8_ := Aside0.mk ((by rw [hg]; exact Nat.ne_of_lt (blk_lt (g := gb186) (o := .cells #[.int .u8 0, .int .i64 0, .int .i64 0] 37 (0, 0)) (by (with_reducible repeat (first | refine blk_drewN ?_ _ | refine blk_drew ?_ | refine blk_alloc ?_ _)); exact BK186.out)) : gb186 ≠ gb188)); have n9_ := Aside0.mk ((by rw [hg]; exact Nat.ne_of_gt (blk_lt (g := gb186) (o := .cells #[.int .u8 0, .int .i64 0, .int .i64 0] 37 (0, 0)) (by (with_reducible repeat (first | refine blk_drewN ?_ _ | refine blk_drew ?_ | refine blk_alloc ?_ _)); exact BK186.out)) : gb188 ≠ gb186)); clear BK185; clear BK186; clear HB; have BK185 := n0_; have BK186 := n1_; have HB := n2_; have BK188 := n3_; have GW188 := n4_; have GE188 := n5_; have NB185_188 := n6_; have NB188_185 := n7_; have NB186_188 := n8_; have NB188_186 := n9_; clear n0_ n1_ n2_ n3_ n4_ n5_ n6_ n7_ n8_ n9_; clear hb hbox hg; have hnb17 := NB188_185.out; have hnc17 := NB185_188.out; have hnb18 := NB188_186.out; have hnc18 := NB186_188.out; have hcz19_0 : w16.cell? ⟨gb188, 0, none⟩ = some (.int .u8 0) := (blk_cell BK188.out 0).trans rfl; have hcz19_1 : w16.cell? ⟨gb188, 1, none⟩ = some (.int .i64 0) := (blk_cell BK188.out 1).trans rfl; have hcz19_2 : w16.cell? ⟨gb188, 2, none⟩ = some (.int .i64 0) := (blk_cell BK188.out 2).trans rfl; have hfz19_0 := blk_frozen BK188.out 0; have hfz19_1 := blk_frozen BK188.out 1; have hfz19_2 := blk_frozen BK188.out 2))
      (try simp only [Act.put, List.setIfInBounds_toArray, List.set_cons_zero, List.set_cons_succ])
      go_cut [8] (fun v8 wc => ∃ (kq : Nat) (x8_14 : Int), v8 = .int .i64 x8_14 ∧ Aside0 (capstanref18_Read.j1 kq l0 a1 x8_14 0 0 0 (rd l0 a1) 0 0 = some (r1, r2, r3, r4)) ∧ Aside0 (kq ≤ kj2) ∧ Aside0 (wc.heap[gb185]? = some (.cells #[.int .u8 0, .int .i64 0, .int .i64 0] 37 (0, 0))) ∧ Aside0 (wc.heap[gb186]? = some (.cells #[.int .u8 0, .int .i64 0, .int .i64 0] 37 (0, 0))) ∧ Aside0 (wc.heap[gb188]? = some (.cells #[.int .u8 (rd l0 a1), .int .i64 0, .int .i64 0] 37 (0, 0))) ∧ Aside0 (Below w.heap.size w wc))
      case first =>
       have H := HC15.out
       clear HC15
       by_cases c20 : (rd l0 a1) = 1
       ·
        rw [if_pos c20] at H
        have c20b0 : ((rd l0 a1) == 1) = true := beq_iff_eq.mpr c20
        have c20b1 : ((rd l0 a1) != 1) = false := bne_eq_false_iff_eq.mpr c20
        clear c20
        (first | rw [c20b0] | (simp only [i64_w, i32_w]; rw [c20b0]) | skip)
        have H' := Aside0.mk H
        clear H
        go_wp2
        go_meet
        case rel => exact ⟨_, (8), (by first | rfl | (simp; done) | (simp [*]; done)), H', ⟨by have := HJ2.out; first | omega | exact Nat.le_refl _⟩, ⟨by (with_reducible repeat (first | refine blk_drewN ?_ _ | refine blk_drew ?_ | refine blk_alloc ?_ _)); refine blk_far ?_ NB185_188.out _; (with_reducible repeat (first | refine blk_drewN ?_ _ | refine blk_drew ?_ | refine blk_alloc ?_ _)); refine blk_far ?_ NB185_188.out _; (with_reducible repeat (first | refine blk_drewN ?_ _ | refine blk_drew ?_ | refine blk_alloc ?_ _)); refine blk_far ?_ NB185_188.out _; (with_reducible repeat (first | refine blk_drewN ?_ _ | refine blk_drew ?_ | refine blk_alloc ?_ _)); exact BK185.out⟩, ⟨by (with_reducible repeat (first | refine blk_drewN ?_ _ | refine blk_drew ?_ | refine blk_alloc ?_ _)); refine blk_far ?_ NB186_188.out _; (with_reducible repeat (first | refine blk_drewN ?_ _ | refine blk_drew ?_ | refine blk_alloc ?_ _)); refine blk_far ?_ NB186_188.out _; (with_reducible repeat (first | refine blk_drewN ?_ _ | refine blk_drew ?_ | refine blk_alloc ?_ _)); refine blk_far ?_ NB186_188.out _; (with_reducible repeat (first | refine blk_drewN ?_ _ | refine blk_drew ?_ | refine blk_alloc ?_ _)); exact BK186.out⟩, ⟨by (with_reducible repeat (first | refine blk_drewN ?_ _ | refine blk_drew ?_ | refine blk_alloc ?_ _)); refine blk_put (cs := #[.int .u8 (rd l0 a1), .int .i64 0, .int .i64 0]) ?_ 2 _ rfl; (with_reducible repeat (first | refine blk_drewN ?_ _ | refine blk_drew ?_ | refine blk_alloc ?_ _)); refine blk_put (cs := #[.int .u8 (rd l0 a1), .int .i64 0, .int .i64 0]) ?_ 1 _ rfl; (with_reducible repeat (first | refine blk_drewN ?_ _ | refine blk_drew ?_ | refine blk_alloc ?_ _)); refine blk_put (cs := #[.int .u8 0, .int .i64 0, .int .i64 0]) ?_ 0 _ rfl; (with_reducible repeat (first | refine blk_drewN ?_ _ | refine blk_drew ?_ | refine blk_alloc ?_ _)); exact BK188.out⟩, ⟨by repeat (first | (with_reducible first | exact HB.out | apply below_alloc | apply pw_below_drewN | apply below_drew1 | refine below_set ?_ GE185.out | refine below_set ?_ GE186.out | refine below_set ?_ GE188.out) | exact HB.out | exact ⟨HB.out.os, HB.out.tape, HB.out.output, HB.out.size, HB.out.block⟩)⟩⟩
       ·
        rw [if_neg c20] at H
        have c20b0 : ((rd l0 a1) == 1) = false := beq_eq_false_iff_ne.mpr c20
        have c20b1 : ((rd l0 a1) != 1) = true := bne_iff_ne.mpr c20
        (first | rw [c20b0] | (simp only [i64_w, i32_w]; rw [c20b0]) | skip)
        by_cases c21 : (rd l0 a1) = 2
        ·
         rw [if_pos c21] at H
         have c21b0 : ((rd l0 a1) == 2) = true := beq_iff_eq.mpr c21
         have c21b1 : ((rd l0 a1) != 2) = false := bne_eq_false_iff_eq.mpr c21
         clear c21
         have H' := Aside0.mk H
         clear H
         go_wp2
         go_meet
         case rel => exact ⟨_, (6), (by first | rfl | (simp; done) | (simp [*]; done)), H', ⟨by have := HJ2.out; first | omega | exact Nat.le_refl _⟩, ⟨by (with_reducible repeat (first | refine blk_drewN ?_ _ | refine blk_drew ?_ | refine blk_alloc ?_ _)); refine blk_far ?_ NB185_188.out _; (with_reducible repeat (first | refine blk_drewN ?_ _ | refine blk_drew ?_ | refine blk_alloc ?_ _)); refine blk_far ?_ NB185_188.out _; (with_reducible repeat (first | refine blk_drewN ?_ _ | refine blk_drew ?_ | refine blk_alloc ?_ _)); refine blk_far ?_ NB185_188.out _; (with_reducible repeat (first | refine blk_drewN ?_ _ | refine blk_drew ?_ | refine blk_alloc ?_ _)); exact BK185.out⟩, ⟨by (with_reducible repeat (first | refine blk_drewN ?_ _ | refine blk_drew ?_ | refine blk_alloc ?_ _)); refine blk_far ?_ NB186_188.out _; (with_reducible repeat (first | refine blk_drewN ?_ _ | refine blk_drew ?_ | refine blk_alloc ?_ _)); refine blk_far ?_ NB186_188.out _; (with_reducible repeat (first | refine blk_drewN ?_ _ | refine blk_drew ?_ | refine blk_alloc ?_ _)); refine blk_far ?_ NB186_188.out _; (with_reducible repeat (first | refine blk_drewN ?_ _ | refine blk_drew ?_ | refine blk_alloc ?_ _)); exact BK186.out⟩, ⟨by (with_reducible repeat (first | refine blk_drewN ?_ _ | refine blk_drew ?_ | refine blk_alloc ?_ _)); refine blk_put (cs := #[.int .u8 (rd l0 a1), .int .i64 0, .int .i64 0]) ?_ 2 _ rfl; (with_reducible repeat (first | refine blk_drewN ?_ _ | refine blk_drew ?_ | refine blk_alloc ?_ _)); refine blk_put (cs := #[.int .u8 (rd l0 a1), .int .i64 0, .int .i64 0]) ?_ 1 _ rfl; (with_reducible repeat (first | refine blk_drewN ?_ _ | refine blk_drew ?_ | refine blk_alloc ?_ _)); refine blk_put (cs := #[.int .u8 0, .int .i64 0, .int .i64 0]) ?_ 0 _ rfl; (with_reducible repeat (first | refine blk_drewN ?_ _ | refine blk_drew ?_ | refine blk_alloc ?_ _)); exact BK188.out⟩, ⟨by repeat (first | (with_reducible first | exact HB.out | apply below_alloc | apply pw_below_drewN | apply below_drew1 | refine below_set ?_ GE185.out | refine below_set ?_ GE186.out | refine below_set ?_ GE188.out) | exact HB.out | exact ⟨HB.out.os, HB.out.tape, HB.out.output, HB.out.size, HB.out.block⟩)⟩⟩
        ·
         rw [if_neg c21] at H
         have c21b0 : ((rd l0 a1) == 2) = false := beq_eq_false_iff_ne.mpr c21
         have c21b1 : ((rd l0 a1) != 2) = true := bne_iff_ne.mpr c21
         have H' := Aside0.mk H
         clear H
         go_wp2
         go_meet
         case rel => exact ⟨_, (0), (by first | rfl | (simp; done) | (simp [*]; done)), H', ⟨by have := HJ2.out; first | omega | exact Nat.le_refl _⟩, ⟨by (with_reducible repeat (first | refine blk_drewN ?_ _ | refine blk_drew ?_ | refine blk_alloc ?_ _)); refine blk_far ?_ NB185_188.out _; (with_reducible repeat (first | refine blk_drewN ?_ _ | refine blk_drew ?_ | refine blk_alloc ?_ _)); refine blk_far ?_ NB185_188.out _; (with_reducible repeat (first | refine blk_drewN ?_ _ | refine blk_drew ?_ | refine blk_alloc ?_ _)); refine blk_far ?_ NB185_188.out _; (with_reducible repeat (first | refine blk_drewN ?_ _ | refine blk_drew ?_ | refine blk_alloc ?_ _)); exact BK185.out⟩, ⟨by (with_reducible repeat (first | refine blk_drewN ?_ _ | refine blk_drew ?_ | refine blk_alloc ?_ _)); refine blk_far ?_ NB186_188.out _; (with_reducible repeat (first | refine blk_drewN ?_ _ | refine blk_drew ?_ | refine blk_alloc ?_ _)); refine blk_far ?_ NB186_188.out _; (with_reducible repeat (first | refine blk_drewN ?_ _ | refine blk_drew ?_ | refine blk_alloc ?_ _)); refine blk_far ?_ NB186_188.out _; (with_reducible repeat (first | refine blk_drewN ?_ _ | refine blk_drew ?_ | refine blk_alloc ?_ _)); exact BK186.out⟩, ⟨by (with_reducible repeat (first | refine blk_drewN ?_ _ | refine blk_drew ?_ | refine blk_alloc ?_ _)); refine blk_put (cs := #[.int .u8 (rd l0 a1), .int .i64 0, .int .i64 0]) ?_ 2 _ rfl; (with_reducible repeat (first | refine blk_drewN ?_ _ | refine blk_drew ?_ | refine blk_alloc ?_ _)); refine blk_put (cs := #[.int .u8 (rd l0 a1), .int .i64 0, .int .i64 0]) ?_ 1 _ rfl; (with_reducible repeat (first | refine blk_drewN ?_ _ | refine blk_drew ?_ | refine blk_alloc ?_ _)); refine blk_put (cs := #[.int .u8 0, .int .i64 0, .int .i64 0]) ?_ 0 _ rfl; (with_reducible repeat (first | refine blk_drewN ?_ _ | refine blk_drew ?_ | refine blk_alloc ?_ _)); exact BK188.out⟩, ⟨by repeat (first | (with_reducible first | exact HB.out | apply below_alloc | apply pw_below_drewN | apply below_drew1 | refine below_set ?_ GE185.out | refine below_set ?_ GE186.out | refine below_set ?_ GE188.out) | exact HB.out | exact ⟨HB.out.os, HB.out.tape, HB.out.output, HB.out.size, HB.out.block⟩)⟩⟩
      case rest =>
       clear HC15
       try clear c1
       try clear p1
       try clear q1
       try clear hx1
       try clear c2
       try clear p2
       try clear c6
       try clear c8
       try clear c8b0
       try clear c9
       try clear c10
       try clear c13
       try clear c13b0
       try clear c14
       try clear c14b0
       try clear c17
       try clear c18
       try clear p18
       try clear q18
       try clear hx18
       try clear c20
       try clear c20b0
       try clear c20b1
       try clear c21
       try clear c21b0
       try clear c21b1
       try clear hcz11_0
       try clear hcz11_1
       try clear hcz11_2
       try clear hcz12_0
       try clear hcz12_1
       try clear hcz12_2
       try clear hcz19_0
       try clear hcz19_1
       try clear hcz19_2
       try clear hcz7_0
       try clear hcz7_1
       try clear hcz7_2
       try clear hfz11_0
       try clear hfz11_1
       try clear hfz11_2
       try clear hfz12_0
       try clear hfz12_1
       try clear hfz12_2
       try clear hfz19_0
       try clear hfz19_1
       try clear hfz19_2
       try clear hfz7_0
       try clear hfz7_1
       try clear hfz7_2
       try clear hx187_0
       try clear p187
       try clear p2
       try clear q187
       obtain ⟨kq, x8_14, rfl, HA, HJ14, BK185, BK186, BK188, HB⟩ := hcut
       cases kq with
       | zero => exact absurd HA.out (by simp [capstanref18_Read.j1])
       | succ kj14 =>
        have H := HA.out
        clear HA
        simp only [capstanref18_Read.j1] at H
        have HC22 := Aside0.mk H
        clear H
        go_upto_region 11 with (fail)
        go_cut [41] (fun v41 wc => ∃ (kq : Nat) (x41_21 : Bool), v41 = .bool x41_21 ∧ Aside0 (capstanref18_Read.j2 kq l0 a1 x8_14 x41_21 0 0 0 (rd l0 a1) 0 0 = some (r1, r2, r3, r4)) ∧ Aside0 (kq ≤ kj14) ∧ Aside0 (wc.heap[gb185]? = some (.cells #[.int .u8 0, .int .i64 0, .int .i64 0] 37 (0, 0))) ∧ Aside0 (wc.heap[gb186]? = some (.cells #[.int .u8 0, .int .i64 0, .int .i64 0] 37 (0, 0))) ∧ Aside0 (wc.heap[gb188]? = some (.cells #[.int .u8 (rd l0 a1), .int .i64 0, .int .i64 0] 37 (0, 0))) ∧ Aside0 (Below w.heap.size w wc))
        case first =>
         have H := HC22.out
         clear HC22
         by_cases c23 : x8_14 = 0
         ·
          rw [if_pos c23] at H
          have c23b0 : (x8_14 == 0) = true := beq_iff_eq.mpr c23
          have c23b1 : (x8_14 != 0) = false := bne_eq_false_iff_eq.mpr c23
          clear c23
          (first | rw [c23b0] | (simp only [i64_w, i32_w]; rw [c23b0]) | skip)
          have H' := Aside0.mk H
          clear H
          go_wp2
          go_meet
          case rel => exact ⟨_, (true), (by first | rfl | (simp; done) | (simp [*]; done)), H', ⟨by have := HJ2.out; have := HJ14.out; first | omega | exact Nat.le_refl _⟩, ⟨by (with_reducible repeat (first | refine blk_drewN ?_ _ | refine blk_drew ?_ | refine blk_alloc ?_ _)); exact BK185.out⟩, ⟨by (with_reducible repeat (first | refine blk_drewN ?_ _ | refine blk_drew ?_ | refine blk_alloc ?_ _)); exact BK186.out⟩, ⟨by (with_reducible repeat (first | refine blk_drewN ?_ _ | refine blk_drew ?_ | refine blk_alloc ?_ _)); exact BK188.out⟩, ⟨by repeat (first | (with_reducible first | exact HB.out | apply below_alloc | apply pw_below_drewN | apply below_drew1 | refine below_set ?_ GE185.out | refine below_set ?_ GE186.out | refine below_set ?_ GE188.out) | exact HB.out | exact ⟨HB.out.os, HB.out.tape, HB.out.output, HB.out.size, HB.out.block⟩)⟩⟩
         ·
          rw [if_neg c23] at H
          have c23b0 : (x8_14 == 0) = false := beq_eq_false_iff_ne.mpr c23
          have c23b1 : (x8_14 != 0) = true := bne_iff_ne.mpr c23
          (first | rw [c23b0] | (simp only [i64_w, i32_w]; rw [c23b0]) | skip)
          have H' := Aside0.mk H
          clear H
          go_wp2
          go_meet
          case rel => exact ⟨_, (decide ((wrap64 ((wrap64 ((l0.length : Int) - a1)) - 1)) < x8_14)), (by first | rfl | (simp; done) | (simp [*]; done)), H', ⟨by have := HJ2.out; have := HJ14.out; first | omega | exact Nat.le_refl _⟩, ⟨by (with_reducible repeat (first | refine blk_drewN ?_ _ | refine blk_drew ?_ | refine blk_alloc ?_ _)); exact BK185.out⟩, ⟨by (with_reducible repeat (first | refine blk_drewN ?_ _ | refine blk_drew ?_ | refine blk_alloc ?_ _)); exact BK186.out⟩, ⟨by (with_reducible repeat (first | refine blk_drewN ?_ _ | refine blk_drew ?_ | refine blk_alloc ?_ _)); exact BK188.out⟩, ⟨by repeat (first | (with_reducible first | exact HB.out | apply below_alloc | apply pw_below_drewN | apply below_drew1 | refine below_set ?_ GE185.out | refine below_set ?_ GE186.out | refine below_set ?_ GE188.out) | exact HB.out | exact ⟨HB.out.os, HB.out.tape, HB.out.output, HB.out.size, HB.out.block⟩)⟩⟩
        case rest =>
         clear HC22
         try clear c1
         try clear p1
         try clear q1
         try clear hx1
         try clear c2
         try clear p2
         try clear c6
         try clear p6
         try clear c8
         try clear c8b0
         try clear c9
         try clear c10
         try clear c13
         try clear c13b0
         try clear c14
         try clear c14b0
         try clear c17
         try clear c18
         try clear p18
         try clear q18
         try clear hx18
         try clear c20
         try clear c20b0
         try clear c20b1
         try clear c21
         try clear c21b0
         try clear c21b1
         try clear c23
         try clear c23b0
         try clear c23b1
         try clear hcz11_0
         try clear hcz11_1
         try clear hcz11_2
         try clear hcz12_0
         try clear hcz12_1
         try clear hcz12_2
         try clear hcz19_0
         try clear hcz19_1
         try clear hcz19_2
         try clear hcz7_0
         try clear hcz7_1
         try clear hcz7_2
         try clear hfz11_0
         try clear hfz11_1
         try clear hfz11_2
         try clear hfz12_0
         try clear hfz12_1
         try clear hfz12_2
         try clear hfz19_0
         try clear hfz19_1
         try clear hfz19_2
         try clear hfz7_0
         try clear hfz7_1
         try clear hfz7_2
         try clear hx187_0
         try clear p1
         try clear p18
         try clear p187
         try clear p2
         try clear q1
         try clear q18
         try clear q187
         obtain ⟨kq, x41_21, rfl, HA, HJ21, BK185, BK186, BK188, HB⟩ := hcut
         cases kq with
         | zero => exact absurd HA.out (by simp [capstanref18_Read.j2])
         | succ kj21 =>
          have H := HA.out
          clear HA
          simp only [capstanref18_Read.j2] at H
          by_cases c24 : x41_21 = true
          ·
           subst c24
           have H1 : (some (0, 0, 0, (-1))) = some (r1, r2, r3, r4) := by rw [if_pos rfl] at H; exact H
           clear H
           have H := H1
           clear H1
           simp only [Option.some.injEq, Prod.mk.injEq] at H
           obtain ⟨rfl, rfl, rfl, rfl⟩ := H
           have hnb25 := NB186_185.out
           have hnc25 := NB185_186.out
           have hnb26 := NB186_188.out
           have hnc26 := NB188_186.out
           have hcz27_0 : wc.cell? ⟨gb186, 0, none⟩ = some (.int .u8 0) := (blk_cell BK186.out 0).trans rfl
           have hcz27_1 : wc.cell? ⟨gb186, 1, none⟩ = some (.int .i64 0) := (blk_cell BK186.out 1).trans rfl
           have hcz27_2 : wc.cell? ⟨gb186, 2, none⟩ = some (.int .i64 0) := (blk_cell BK186.out 2).trans rfl
           have hfz27_0 := blk_frozen BK186.out 0
           have hfz27_1 := blk_frozen BK186.out 1
           have hfz27_2 := blk_frozen BK186.out 2
           have hnb28 := NB185_188.out
           have hnc28 := NB188_185.out
           have hcz29_0 : wc.cell? ⟨gb185, 0, none⟩ = some (.int .u8 0) := (blk_cell BK185.out 0).trans rfl
           have hcz29_1 : wc.cell? ⟨gb185, 1, none⟩ = some (.int .i64 0) := (blk_cell BK185.out 1).trans rfl
           have hcz29_2 : wc.cell? ⟨gb185, 2, none⟩ = some (.int .i64 0) := (blk_cell BK185.out 2).trans rfl
           have hfz29_0 := blk_frozen BK185.out 0
           have hfz29_1 := blk_frozen BK185.out 1
           have hfz29_2 := blk_frozen BK185.out 2
           go_wp2
           refine bodyPost_ret (results_ct rfl _ _ gb185 37 #[.int .u8 0, .int .i64 0, .int .i64 0] (0, 0) _ rfl (by (with_reducible repeat (first | refine blk_drewN ?_ _ | refine blk_drew ?_ | refine blk_alloc ?_ _)); refine blk_put (cs := #[.int .u8 0, .int .i64 0, .int .i64 0]) ?_ 2 _ rfl; (with_reducible repeat (first | refine blk_drewN ?_ _ | refine blk_drew ?_ | refine blk_alloc ?_ _)); refine blk_put (cs := #[.int .u8 0, .int .i64 0, .int .i64 0]) ?_ 1 _ rfl; (with_reducible repeat (first | refine blk_drewN ?_ _ | refine blk_drew ?_ | refine blk_alloc ?_ _)); refine blk_put (cs := #[.int .u8 0, .int .i64 0, .int .i64 0]) ?_ 0 _ rfl; (with_reducible repeat (first | refine blk_drewN ?_ _ | refine blk_drew ?_ | refine blk_alloc ?_ _)); exact BK185.out) Tryd.underlying37 rfl (by kernel_rfl)) rfl ?_
           exact ⟨by first | rfl | (simp [errW_none, errW_some] <;> rfl) | (simp [*, errW_none, errW_some] <;> rfl), by repeat (first | (with_reducible first | exact HB.out | apply below_alloc | apply pw_below_drewN | apply below_drew1 | refine below_set ?_ GE185.out | refine below_set ?_ GE186.out | refine below_set ?_ GE188.out) | exact HB.out | exact ⟨HB.out.os, HB.out.tape, HB.out.output, HB.out.size, HB.out.block⟩)⟩
          ·
           replace c24 := Bool.eq_false_iff.mpr c24
           subst c24
           have H1 : (if 0 ≤ (wrap64 (a1 + 1)) then (if (wrap64 (a1 + 1)) ≤ (wrap64 ((wrap64 (a1 + 1)) + x8_14)) then (if (wrap64 ((wrap64 (a1 + 1)) + x8_14)) ≤ (l0.length : Int) then (if (rd l0 a1) = 1 then ((capstanref18_number.f kj21 ((l0.take ((wrap64 ((wrap64 (a1 + 1)) + x8_14)) : Int).toNat).drop ((wrap64 (a1 + 1)) : Int).toNat)).bind fun t190 => ((capstanref17_Outside.f (rd l0 a1) (wrap64 (t190)) 0).bind fun t191 => (if t191 = true then (some ((rd l0 a1), wrap64 (t190), 0, wrap64 ((wrap64 (a1 + 1)) + x8_14))) else (some (0, 0, 0, (-1)))))) else (if 3 ≤ (((l0.take ((wrap64 ((wrap64 (a1 + 1)) + x8_14)) : Int).toNat).drop ((wrap64 (a1 + 1)) : Int).toNat).length : Int) then ((capstanref18_number.f kj21 (((l0.take ((wrap64 ((wrap64 (a1 + 1)) + x8_14)) : Int).toNat).drop ((wrap64 (a1 + 1)) : Int).toNat).take 3)).bind fun t193 => ((capstanref18_number.f kj21 (((l0.take ((wrap64 ((wrap64 (a1 + 1)) + x8_14)) : Int).toNat).drop ((wrap64 (a1 + 1)) : Int).toNat).drop 3)).bind fun t195 => ((capstanref17_Outside.f (rd l0 a1) (wrap64 ((wrap64 (t193)) - 1048576)) (wrap64 ((wrap64 (t195)) - 1048576))).bind fun t196 => (if t196 = true then (some ((rd l0 a1), wrap64 ((wrap64 (t193)) - 1048576), wrap64 ((wrap64 (t195)) - 1048576), wrap64 ((wrap64 (a1 + 1)) + x8_14))) else (some (0, 0, 0, (-1))))))) else (none))) else (none)) else (none)) else (none)) = some (r1, r2, r3, r4) := by rw [if_neg (show ¬ (false = true) by decide)] at H; exact H
           clear H
           have H := H1
           clear H1
           obtain ⟨ji30, hji30⟩ : ∃ j_ : Int, (wrap64 (a1 + 1)) = j_ := ⟨_, rfl⟩
           replace H : (if 0 ≤ (ji30) then (if (ji30) ≤ (wrap64 ((ji30) + x8_14)) then (if (wrap64 ((ji30) + x8_14)) ≤ (l0.length : Int) then (if (rd l0 a1) = 1 then ((capstanref18_number.f kj21 ((l0.take ((wrap64 ((ji30) + x8_14)) : Int).toNat).drop ((ji30) : Int).toNat)).bind fun t190 => ((capstanref17_Outside.f (rd l0 a1) (wrap64 (t190)) 0).bind fun t191 => (if t191 = true then (some ((rd l0 a1), wrap64 (t190), 0, wrap64 ((ji30) + x8_14))) else (some (0, 0, 0, (-1)))))) else (if 3 ≤ (((l0.take ((wrap64 ((ji30) + x8_14)) : Int).toNat).drop ((ji30) : Int).toNat).length : Int) then ((capstanref18_number.f kj21 (((l0.take ((wrap64 ((ji30) + x8_14)) : Int).toNat).drop ((ji30) : Int).toNat).take 3)).bind fun t193 => ((capstanref18_number.f kj21 (((l0.take ((wrap64 ((ji30) + x8_14)) : Int).toNat).drop ((ji30) : Int).toNat).drop 3)).bind fun t195 => ((capstanref17_Outside.f (rd l0 a1) (wrap64 ((wrap64 (t193)) - 1048576)) (wrap64 ((wrap64 (t195)) - 1048576))).bind fun t196 => (if t196 = true then (some ((rd l0 a1), wrap64 ((wrap64 (t193)) - 1048576), wrap64 ((wrap64 (t195)) - 1048576), wrap64 ((ji30) + x8_14))) else (some (0, 0, 0, (-1))))))) else (none))) else (none)) else (none)) else (none)) = some (r1, r2, r3, r4) := by first | (rw [hji30] at H; exact H) | (simp only [hji30] at H ⊢; exact H)
           have hji30w : (IntKind.i64.wrap (a1 + 1)) = ji30 := (i64_w _).trans hji30
           by_cases c31 : 0 ≤ (ji30)
           ·
            rw [if_pos c31] at H
            have c31b0 := eq_true c31
            have c31b1 : decide (0 ≤ (ji30)) = true := decide_eq_true c31
            clear c31
            by_cases c32 : (ji30) ≤ (wrap64 ((ji30) + x8_14))
            ·
             rw [if_pos c32] at H
             have c32b0 := eq_true c32
             have c32b1 : decide ((ji30) ≤ (wrap64 ((ji30) + x8_14))) = true := decide_eq_true c32
             by_cases c33 : (wrap64 ((ji30) + x8_14)) ≤ (l0.length : Int)
             ·
              rw [if_pos c33] at H
              have c33b0 := eq_true c33
              have c33b1 : decide ((wrap64 ((ji30) + x8_14)) ≤ (l0.length : Int)) = true := decide_eq_true c33
              by_cases c34 : (rd l0 a1) = 1
              ·
               rw [if_pos c34] at H
               have c34b0 : ((rd l0 a1) == 1) = true := beq_iff_eq.mpr c34
               have c34b1 : ((rd l0 a1) != 1) = false := bne_eq_false_iff_eq.mpr c34
               clear c34
               replace H := Option.bind_eq_some_iff.mp H
               obtain ⟨t190, A350, H⟩ := H
               replace H : ((capstanref17_Outside.f (rd l0 a1) (wrap64 (t190)) 0).bind fun t191 => (if t191 = true then (some ((rd l0 a1), wrap64 (t190), 0, wrap64 ((ji30) + x8_14))) else (some (0, 0, 0, (-1))))) = some (r1, r2, r3, r4) := H
               have A35 := Aside0.mk A350
               clear A350
               replace H := Option.bind_eq_some_iff.mp H
               obtain ⟨t191, A360, H⟩ := H
               replace H : (if t191 = true then (some ((rd l0 a1), wrap64 (t190), 0, wrap64 ((ji30) + x8_14))) else (some (0, 0, 0, (-1)))) = some (r1, r2, r3, r4) := H
               have A36 := Aside0.mk A360
               clear A360
               by_cases c37 : t191 = true
               ·
                subst c37
                have H1 : (some ((rd l0 a1), wrap64 (t190), 0, wrap64 ((ji30) + x8_14))) = some (r1, r2, r3, r4) := by rw [if_pos rfl] at H; exact H
                clear H
                have H := H1
                clear H1
                simp only [Option.some.injEq, Prod.mk.injEq] at H
                obtain ⟨rfl, rfl, rfl, rfl⟩ := H
                obtain ⟨i038, hi038, _, hsz38, _⟩ := info_parts info5
                obtain ⟨A38, hcut38, hA38, hC38⟩ := print_mid_of (P := Tryd.prog) (Value.int .u8) 0 22 5 .i64 .i64 Tryd.underlying22 hi038 hsz38 (some ad187) c0 l0 (ji30) (wrap64 ((ji30) + x8_14)) (of_decide_eq_true (by first | (with_reducible assumption) | assumption)) (by first | omega | exact of_decide_eq_true (by first | (with_reducible assumption) | assumption)) (of_decide_eq_true (by first | (with_reducible assumption) | assumption)) HC0.out
                have HR189 := Aside0.mk (Kd.C_of_reads (h1 := fun _ => rfl) (hA38 _ (Kd.reads_of_C HR0.out)))
                have HC189 := Aside0.mk hC38
                clear hA38 hC38 hi038 hsz38
                have hnb39 := NB188_185.out
                have hnc39 := NB185_188.out
                have hnb40 := NB188_186.out
                have hnc40 := NB186_188.out
                have hcz41_0 : wc.cell? ⟨gb188, 0, none⟩ = some (.int .u8 (rd l0 a1)) := (blk_cell BK188.out 0).trans rfl
                have hcz41_1 : wc.cell? ⟨gb188, 1, none⟩ = some (.int .i64 0) := (blk_cell BK188.out 1).trans rfl
                have hcz41_2 : wc.cell? ⟨gb188, 2, none⟩ = some (.int .i64 0) := (blk_cell BK188.out 2).trans rfl
                have hfz41_0 := blk_frozen BK188.out 0
                have hfz41_1 := blk_frozen BK188.out 1
                have hfz41_2 := blk_frozen BK188.out 2
                go_wp2_with (first | ((with_reducible refine gate_callee (f := 50) rfl ?_); refine goesL_ (some 55) rfl rfl Tryd.func50 (by kernel_rfl) rfl #[.slice A38 ((l0.take ((wrap64 ((ji30) + x8_14)) : Int).toNat).drop ((ji30) : Int).toNat).length (c0 - (ji30).toNat)] rfl (by (try simp only [List.map_toArray, List.map_cons, List.map_nil]); first | done | (rw [show ((l0.take ((wrap64 ((ji30) + x8_14)) : Int).toNat).drop ((ji30) : Int).toNat).length = ((wrap64 ((ji30) + x8_14)).toNat - (ji30).toNat) from (by rw [List.length_drop, List.length_take]; have h_ : ((wrap64 ((ji30) + x8_14)) : Int) ≤ (l0.length : Int) := (by first | exact of_decide_eq_true (by first | (with_reducible assumption) | assumption) | exact of_eq_true (by first | (with_reducible assumption) | assumption)); omega)] <;> rfl) | (simp only [hji30]; rfl) | rfl | (simp only [List.length_drop, List.length_take]; rfl)) ?_; (with_reducible refine (capstanref18_number.calls kj21 _ _ ((l0.take ((wrap64 ((ji30) + x8_14)) : Int).toNat).drop ((ji30) : Int).toNat) t190 _ ?side1 ?side2 A35.out).mono ?_); (case side1 => repeat (first | exact (Kd.C_below HR189.out HB.out) | (with_reducible refine Kd.C_alloc ?_ _) | (with_reducible refine Kd.C_drewN ?_ _) | (with_reducible refine Kd.C_drew ?_))); (case side2 => exact HC189.out); rintro e w' ⟨rfl, ⟨nd, rfl⟩⟩; refine ⟨_, rfl, ?_⟩; (try (rw [drewN_self wc]; generalize hq_ : World.drewN wc _ = wc; have n0_ : Aside0 (wc.heap[gb185]? = some (.cells #[.int .u8 0, .int .i64 0, .int .i64 0] 37 (0, 0))) := ⟨by rw [← hq_]; exact (by (with_reducible repeat (first | refine blk_drewN ?_ _ | refine blk_drew ?_ | refine blk_alloc ?_ _)); exact BK185.out)⟩; have n1_ : Aside0 (wc.heap[gb186]? = some (.cells #[.int .u8 0, .int .i64 0, .int .i64 0] 37 (0, 0))) := ⟨by rw [← hq_]; exact (by (with_reducible repeat (first | refine blk_drewN ?_ _ | refine blk_drew ?_ | refine blk_alloc ?_ _)); exact BK186.out)⟩; have n2_ : Aside0 (wc.heap[gb188]? = some (.cells #[.int .u8 (rd l0 a1), .int .i64 0, .int .i64 0] 37 (0, 0))) := ⟨by rw [← hq_]; exact (by (with_reducible repeat (first | refine blk_drewN ?_ _ | refine blk_drew ?_ | refine blk_alloc ?_ _)); exact BK188.out)⟩; have n3_ : Aside0 (Below w.heap.size w wc) := ⟨by rw [← hq_]; exact (by repeat (first | (with_reducible first | exact HB.out | apply below_alloc | apply pw_below_drewN | apply below_drew1 | refine below_set ?_ GE185.out | refine below_set ?_ GE186.out | refine below_set ?_ GE188.out) | exact HB.out | exact ⟨HB.out.os, HB.out.tape, HB.out.output, HB.out.size, HB.out.block⟩))⟩; clear BK185 BK186 BK188 HB hq_; have BK185 := n0_; have BK186 := n1_; have BK188 := n2_; have HB := n3_; clear n0_ n1_ n2_ n3_)); (try have hcu42_0 : wc.cell? ⟨gb185, 0, none⟩ = some (.int .u8 0) := (blk_cell BK185.out 0).trans rfl); (try have hfu42_0 := blk_frozen BK185.out 0); (try have hcu42_1 : wc.cell? ⟨gb185, 1, none⟩ = some (.int .i64 0) := (blk_cell BK185.out 1).trans rfl); (try have hfu42_1 := blk_frozen BK185.out 1); (try have hcu42_2 : wc.cell? ⟨gb185, 2, none⟩ = some (.int .i64 0) := (blk_cell BK185.out 2).trans rfl); (try have hfu42_2 := blk_frozen BK185.out 2); (try have hcu43_0 : wc.cell? ⟨gb186, 0, none⟩ = some (.int .u8 0) := (blk_cell BK186.out 0).trans rfl); (try have hfu43_0 := blk_frozen BK186.out 0); (try have hcu43_1 : wc.cell? ⟨gb186, 1, none⟩ = some (.int .i64 0) := (blk_cell BK186.out 1).trans rfl); (try have hfu43_1 := blk_frozen BK186.out 1); (try have hcu43_2 : wc.cell? ⟨gb186, 2, none⟩ = some (.int .i64 0) := (blk_cell BK186.out 2).trans rfl); (try have hfu43_2 := blk_frozen BK186.out 2); (try have hcu44_0 : wc.cell? ⟨gb188, 0, none⟩ = some (.int .u8 (rd l0 a1)) := (blk_cell BK188.out 0).trans rfl); (try have hfu44_0 := blk_frozen BK188.out 0); (try have hcu44_1 : wc.cell? ⟨gb188, 1, none⟩ = some (.int .i64 0) := (blk_cell BK188.out 1).trans rfl); (try have hfu44_1 := blk_frozen BK188.out 1); (try have hcu44_2 : wc.cell? ⟨gb188, 2, none⟩ = some (.int .i64 0) := (blk_cell BK188.out 2).trans rfl); (try have hfu44_2 := blk_frozen BK188.out 2)) | ((with_reducible refine gate_callee (f := 51) rfl ?_); refine goesL_ (some 71) rfl rfl Tryd.func51 (by kernel_rfl) rfl #[.agg #[.int .u8 (rd l0 a1), .int .i64 (wrap64 (t190)), .int .i64 0]] rfl (by (try simp only [List.map_toArray, List.map_cons, List.map_nil]); first | done | rfl | (simp only [List.length_drop, List.length_take]; rfl)) ?_; (with_reducible refine (capstanref17_Outside.calls (rd l0 a1) (wrap64 (t190)) 0 true _ A36.out).mono ?_); rintro e w45 ⟨rfl, hb⟩; refine ⟨_, rfl, ?_⟩; have n0_ := Aside0.mk (blk_below (g := gb185) (o := .cells #[.int .u8 0, .int .i64 0, .int .i64 0] 37 (0, 0)) (by (with_reducible repeat (first | refine blk_drewN ?_ _ | refine blk_drew ?_ | refine blk_alloc ?_ _)); refine blk_far ?_ NB185_188.out _; (with_reducible repeat (first | refine blk_drewN ?_ _ | refine blk_drew ?_ | refine blk_alloc ?_ _)); exact BK185.out) hb); have n1_ := Aside0.mk (blk_below (g := gb186) (o := .cells #[.int .u8 0, .int .i64 0, .int .i64 0] 37 (0, 0)) (by (with_reducible repeat (first | refine blk_drewN ?_ _ | refine blk_drew ?_ | refine blk_alloc ?_ _)); refine blk_far ?_ NB186_188.out _; (with_reducible repeat (first | refine blk_drewN ?_ _ | refine blk_drew ?_ | refine blk_alloc ?_ _)); exact BK186.out) hb); have n2_ := Aside0.mk (blk_below (g := gb188) (o := .cells #[.int .u8 (rd l0 a1), .int .i64 (wrap64 (t190)), .int .i64 0] 37 (0, 0)) (by (with_reducible repeat (first | refine blk_drewN ?_ _ | refine blk_drew ?_ | refine blk_alloc ?_ _)); refine blk_put (cs := #[.int .u8 (rd l0 a1), .int .i64 0, .int .i64 0]) ?_ 1 _ rfl; (with_reducible repeat (first | refine blk_drewN ?_ _ | refine blk_drew ?_ | refine blk_alloc ?_ _)); exact BK188.out) hb); have n3_ := Aside0.mk (below_step (by repeat (first | (with_reducible first | exact HB.out | apply below_alloc | apply pw_below_drewN | apply below_drew1 | refine below_set ?_ GE185.out | refine below_set ?_ GE186.out | refine below_set ?_ GE188.out) | exact HB.out | exact ⟨HB.out.os, HB.out.tape, HB.out.output, HB.out.size, HB.out.block⟩)) hb); clear BK185; clear BK186; clear BK188; clear HB; have BK185 := n0_; have BK186 := n1_; have BK188 := n2_; have HB := n3_; clear n0_ n1_ n2_ n3_; (try clear hb); (try clear hb2); (try clear hk); (try clear hi); have hcz46_0 : w45.cell? ⟨gb188, 0, none⟩ = some (.int .u8 (rd l0 a1)) := (blk_cell BK188.out 0).trans rfl; have hcz46_1 : w45.cell? ⟨gb188, 1, none⟩ = some (.int .i64 (wrap64 (t190))) := (blk_cell BK188.out 1).trans rfl; have hcz46_2 : w45.cell? ⟨gb188, 2, none⟩ = some (.int .i64 0) := (blk_cell BK188.out 2).trans rfl; have hfz46_0 := blk_frozen BK188.out 0; have hfz46_1 := blk_frozen BK188.out 1; have hfz46_2 := blk_frozen BK188.out 2; have hnb47 := NB185_186.out; have hnc47 := NB186_185.out; have hcz48_0 : w45.cell? ⟨gb185, 0, none⟩ = some (.int .u8 0) := (blk_cell BK185.out 0).trans rfl; have hcz48_1 : w45.cell? ⟨gb185, 1, none⟩ = some (.int .i64 0) := (blk_cell BK185.out 1).trans rfl; have hcz48_2 : w45.cell? ⟨gb185, 2, none⟩ = some (.int .i64 0) := (blk_cell BK185.out 2).trans rfl; have hfz48_0 := blk_frozen BK185.out 0; have hfz48_1 := blk_frozen BK185.out 1; have hfz48_2 := blk_frozen BK185.out 2))
                refine bodyPost_ret (results_ct rfl _ _ gb185 37 #[.int .u8 (rd l0 a1), .int .i64 (wrap64 (t190)), .int .i64 0] (0, 0) _ rfl (by (with_reducible repeat (first | refine blk_drewN ?_ _ | refine blk_drew ?_ | refine blk_alloc ?_ _)); refine blk_put (cs := #[.int .u8 (rd l0 a1), .int .i64 (wrap64 (t190)), .int .i64 0]) ?_ 2 _ rfl; (with_reducible repeat (first | refine blk_drewN ?_ _ | refine blk_drew ?_ | refine blk_alloc ?_ _)); refine blk_put (cs := #[.int .u8 (rd l0 a1), .int .i64 0, .int .i64 0]) ?_ 1 _ rfl; (with_reducible repeat (first | refine blk_drewN ?_ _ | refine blk_drew ?_ | refine blk_alloc ?_ _)); refine blk_put (cs := #[.int .u8 0, .int .i64 0, .int .i64 0]) ?_ 0 _ rfl; (with_reducible repeat (first | refine blk_drewN ?_ _ | refine blk_drew ?_ | refine blk_alloc ?_ _)); exact BK185.out) Tryd.underlying37 rfl (by kernel_rfl)) rfl ?_
                exact ⟨by first | rfl | (simp [errW_none, errW_some] <;> rfl) | (simp only [← hji30]; first | rfl | (simp [errW_none, errW_some] <;> rfl)) | (simp [*, errW_none, errW_some] <;> rfl), by repeat (first | (with_reducible first | exact HB.out | apply below_alloc | apply pw_below_drewN | apply below_drew1 | refine below_set ?_ GE185.out | refine below_set ?_ GE186.out | refine below_set ?_ GE188.out) | exact HB.out | exact ⟨HB.out.os, HB.out.tape, HB.out.output, HB.out.size, HB.out.block⟩)⟩
               ·
                replace c37 := Bool.eq_false_iff.mpr c37
                subst c37
                have H1 : (some (0, 0, 0, (-1))) = some (r1, r2, r3, r4) := by rw [if_neg (show ¬ (false = true) by decide)] at H; exact H
                clear H
                have H := H1
                clear H1
                simp only [Option.some.injEq, Prod.mk.injEq] at H
                obtain ⟨rfl, rfl, rfl, rfl⟩ := H
                obtain ⟨i049, hi049, _, hsz49, _⟩ := info_parts info5
                obtain ⟨A49, hcut49, hA49, hC49⟩ := print_mid_of (P := Tryd.prog) (Value.int .u8) 0 22 5 .i64 .i64 Tryd.underlying22 hi049 hsz49 (some ad187) c0 l0 (ji30) (wrap64 ((ji30) + x8_14)) (of_decide_eq_true (by first | (with_reducible assumption) | assumption)) (by first | omega | exact of_decide_eq_true (by first | (with_reducible assumption) | assumption)) (of_decide_eq_true (by first | (with_reducible assumption) | assumption)) HC0.out
                have HR189 := Aside0.mk (Kd.C_of_reads (h1 := fun _ => rfl) (hA49 _ (Kd.reads_of_C HR0.out)))
                have HC189 := Aside0.mk hC49
                clear hA49 hC49 hi049 hsz49
                have hnb50 := NB188_185.out
                have hnc50 := NB185_188.out
                have hnb51 := NB188_186.out
                have hnc51 := NB186_188.out
                have hcz52_0 : wc.cell? ⟨gb188, 0, none⟩ = some (.int .u8 (rd l0 a1)) := (blk_cell BK188.out 0).trans rfl
                have hcz52_1 : wc.cell? ⟨gb188, 1, none⟩ = some (.int .i64 0) := (blk_cell BK188.out 1).trans rfl
                have hcz52_2 : wc.cell? ⟨gb188, 2, none⟩ = some (.int .i64 0) := (blk_cell BK188.out 2).trans rfl
                have hfz52_0 := blk_frozen BK188.out 0
                have hfz52_1 := blk_frozen BK188.out 1
                have hfz52_2 := blk_frozen BK188.out 2
                go_wp2_with (first | ((with_reducible refine gate_callee (f := 50) rfl ?_); refine goesL_ (some 55) rfl rfl Tryd.func50 (by kernel_rfl) rfl #[.slice A49 ((l0.take ((wrap64 ((ji30) + x8_14)) : Int).toNat).drop ((ji30) : Int).toNat).length (c0 - (ji30).toNat)] rfl (by (try simp only [List.map_toArray, List.map_cons, List.map_nil]); first | done | (rw [show ((l0.take ((wrap64 ((ji30) + x8_14)) : Int).toNat).drop ((ji30) : Int).toNat).length = ((wrap64 ((ji30) + x8_14)).toNat - (ji30).toNat) from (by rw [List.length_drop, List.length_take]; have h_ : ((wrap64 ((ji30) + x8_14)) : Int) ≤ (l0.length : Int) := (by first | exact of_decide_eq_true (by first | (with_reducible assumption) | assumption) | exact of_eq_true (by first | (with_reducible assumption) | assumption)); omega)] <;> rfl) | (simp only [hji30]; rfl) | rfl | (simp only [List.length_drop, List.length_take]; rfl)) ?_; (with_reducible refine (capstanref18_number.calls kj21 _ _ ((l0.take ((wrap64 ((ji30) + x8_14)) : Int).toNat).drop ((ji30) : Int).toNat) t190 _ ?side1 ?side2 A35.out).mono ?_); (case side1 => repeat (first | exact (Kd.C_below HR189.out HB.out) | (with_reducible refine Kd.C_alloc ?_ _) | (with_reducible refine Kd.C_drewN ?_ _) | (with_reducible refine Kd.C_drew ?_))); (case side2 => exact HC189.out); rintro e w' ⟨rfl, ⟨nd, rfl⟩⟩; refine ⟨_, rfl, ?_⟩; (try (rw [drewN_self wc]; generalize hq_ : World.drewN wc _ = wc; have n0_ : Aside0 (wc.heap[gb185]? = some (.cells #[.int .u8 0, .int .i64 0, .int .i64 0] 37 (0, 0))) := ⟨by rw [← hq_]; exact (by (with_reducible repeat (first | refine blk_drewN ?_ _ | refine blk_drew ?_ | refine blk_alloc ?_ _)); exact BK185.out)⟩; have n1_ : Aside0 (wc.heap[gb186]? = some (.cells #[.int .u8 0, .int .i64 0, .int .i64 0] 37 (0, 0))) := ⟨by rw [← hq_]; exact (by (with_reducible repeat (first | refine blk_drewN ?_ _ | refine blk_drew ?_ | refine blk_alloc ?_ _)); exact BK186.out)⟩; have n2_ : Aside0 (wc.heap[gb188]? = some (.cells #[.int .u8 (rd l0 a1), .int .i64 0, .int .i64 0] 37 (0, 0))) := ⟨by rw [← hq_]; exact (by (with_reducible repeat (first | refine blk_drewN ?_ _ | refine blk_drew ?_ | refine blk_alloc ?_ _)); exact BK188.out)⟩; have n3_ : Aside0 (Below w.heap.size w wc) := ⟨by rw [← hq_]; exact (by repeat (first | (with_reducible first | exact HB.out | apply below_alloc | apply pw_below_drewN | apply below_drew1 | refine below_set ?_ GE185.out | refine below_set ?_ GE186.out | refine below_set ?_ GE188.out) | exact HB.out | exact ⟨HB.out.os, HB.out.tape, HB.out.output, HB.out.size, HB.out.block⟩))⟩; clear BK185 BK186 BK188 HB hq_; have BK185 := n0_; have BK186 := n1_; have BK188 := n2_; have HB := n3_; clear n0_ n1_ n2_ n3_)); (try have hcu53_0 : wc.cell? ⟨gb185, 0, none⟩ = some (.int .u8 0) := (blk_cell BK185.out 0).trans rfl); (try have hfu53_0 := blk_frozen BK185.out 0); (try have hcu53_1 : wc.cell? ⟨gb185, 1, none⟩ = some (.int .i64 0) := (blk_cell BK185.out 1).trans rfl); (try have hfu53_1 := blk_frozen BK185.out 1); (try have hcu53_2 : wc.cell? ⟨gb185, 2, none⟩ = some (.int .i64 0) := (blk_cell BK185.out 2).trans rfl); (try have hfu53_2 := blk_frozen BK185.out 2); (try have hcu54_0 : wc.cell? ⟨gb186, 0, none⟩ = some (.int .u8 0) := (blk_cell BK186.out 0).trans rfl); (try have hfu54_0 := blk_frozen BK186.out 0); (try have hcu54_1 : wc.cell? ⟨gb186, 1, none⟩ = some (.int .i64 0) := (blk_cell BK186.out 1).trans rfl); (try have hfu54_1 := blk_frozen BK186.out 1); (try have hcu54_2 : wc.cell? ⟨gb186, 2, none⟩ = some (.int .i64 0) := (blk_cell BK186.out 2).trans rfl); (try have hfu54_2 := blk_frozen BK186.out 2); (try have hcu55_0 : wc.cell? ⟨gb188, 0, none⟩ = some (.int .u8 (rd l0 a1)) := (blk_cell BK188.out 0).trans rfl); (try have hfu55_0 := blk_frozen BK188.out 0); (try have hcu55_1 : wc.cell? ⟨gb188, 1, none⟩ = some (.int .i64 0) := (blk_cell BK188.out 1).trans rfl); (try have hfu55_1 := blk_frozen BK188.out 1); (try have hcu55_2 : wc.cell? ⟨gb188, 2, none⟩ = some (.int .i64 0) := (blk_cell BK188.out 2).trans rfl); (try have hfu55_2 := blk_frozen BK188.out 2)) | ((with_reducible refine gate_callee (f := 51) rfl ?_); refine goesL_ (some 71) rfl rfl Tryd.func51 (by kernel_rfl) rfl #[.agg #[.int .u8 (rd l0 a1), .int .i64 (wrap64 (t190)), .int .i64 0]] rfl (by (try simp only [List.map_toArray, List.map_cons, List.map_nil]); first | done | rfl | (simp only [List.length_drop, List.length_take]; rfl)) ?_; (with_reducible refine (capstanref17_Outside.calls (rd l0 a1) (wrap64 (t190)) 0 false _ A36.out).mono ?_); rintro e w56 ⟨rfl, hb⟩; refine ⟨_, rfl, ?_⟩; have n0_ := Aside0.mk (blk_below (g := gb185) (o := .cells #[.int .u8 0, .int .i64 0, .int .i64 0] 37 (0, 0)) (by (with_reducible repeat (first | refine blk_drewN ?_ _ | refine blk_drew ?_ | refine blk_alloc ?_ _)); refine blk_far ?_ NB185_188.out _; (with_reducible repeat (first | refine blk_drewN ?_ _ | refine blk_drew ?_ | refine blk_alloc ?_ _)); exact BK185.out) hb); have n1_ := Aside0.mk (blk_below (g := gb186) (o := .cells #[.int .u8 0, .int .i64 0, .int .i64 0] 37 (0, 0)) (by (with_reducible repeat (first | refine blk_drewN ?_ _ | refine blk_drew ?_ | refine blk_alloc ?_ _)); refine blk_far ?_ NB186_188.out _; (with_reducible repeat (first | refine blk_drewN ?_ _ | refine blk_drew ?_ | refine blk_alloc ?_ _)); exact BK186.out) hb); have n2_ := Aside0.mk (blk_below (g := gb188) (o := .cells #[.int .u8 (rd l0 a1), .int .i64 (wrap64 (t190)), .int .i64 0] 37 (0, 0)) (by (with_reducible repeat (first | refine blk_drewN ?_ _ | refine blk_drew ?_ | refine blk_alloc ?_ _)); refine blk_put (cs := #[.int .u8 (rd l0 a1), .int .i64 0, .int .i64 0]) ?_ 1 _ rfl; (with_reducible repeat (first | refine blk_drewN ?_ _ | refine blk_drew ?_ | refine blk_alloc ?_ _)); exact BK188.out) hb); have n3_ := Aside0.mk (below_step (by repeat (first | (with_reducible first | exact HB.out | apply below_alloc | apply pw_below_drewN | apply below_drew1 | refine below_set ?_ GE185.out | refine below_set ?_ GE186.out | refine below_set ?_ GE188.out) | exact HB.out | exact ⟨HB.out.os, HB.out.tape, HB.out.output, HB.out.size, HB.out.block⟩)) hb); clear BK185; clear BK186; clear BK188; clear HB; have BK185 := n0_; have BK186 := n1_; have BK188 := n2_; have HB := n3_; clear n0_ n1_ n2_ n3_; (try clear hb); (try clear hb2); (try clear hk); (try clear hi); have hnb57 := NB186_185.out; have hnc57 := NB185_186.out; have hcz58_0 : w56.cell? ⟨gb186, 0, none⟩ = some (.int .u8 0) := (blk_cell BK186.out 0).trans rfl; have hcz58_1 : w56.cell? ⟨gb186, 1, none⟩ = some (.int .i64 0) := (blk_cell BK186.out 1).trans rfl; have hcz58_2 : w56.cell? ⟨gb186, 2, none⟩ = some (.int .i64 0) := (blk_cell BK186.out 2).trans rfl; have hfz58_0 := blk_frozen BK186.out 0; have hfz58_1 := blk_frozen BK186.out 1; have hfz58_2 := blk_frozen BK186.out 2; have hcz59_0 : w56.cell? ⟨gb185, 0, none⟩ = some (.int .u8 0) := (blk_cell BK185.out 0).trans rfl; have hcz59_1 : w56.cell? ⟨gb185, 1, none⟩ = some (.int .i64 0) := (blk_cell BK185.out 1).trans rfl; have hcz59_2 : w56.cell? ⟨gb185, 2, none⟩ = some (.int .i64 0) := (blk_cell BK185.out 2).trans rfl; have hfz59_0 := blk_frozen BK185.out 0; have hfz59_1 := blk_frozen BK185.out 1; have hfz59_2 := blk_frozen BK185.out 2))
                refine bodyPost_ret (results_ct rfl _ _ gb185 37 #[.int .u8 0, .int .i64 0, .int .i64 0] (0, 0) _ rfl (by (with_reducible repeat (first | refine blk_drewN ?_ _ | refine blk_drew ?_ | refine blk_alloc ?_ _)); refine blk_put (cs := #[.int .u8 0, .int .i64 0, .int .i64 0]) ?_ 2 _ rfl; (with_reducible repeat (first | refine blk_drewN ?_ _ | refine blk_drew ?_ | refine blk_alloc ?_ _)); refine blk_put (cs := #[.int .u8 0, .int .i64 0, .int .i64 0]) ?_ 1 _ rfl; (with_reducible repeat (first | refine blk_drewN ?_ _ | refine blk_drew ?_ | refine blk_alloc ?_ _)); refine blk_put (cs := #[.int .u8 0, .int .i64 0, .int .i64 0]) ?_ 0 _ rfl; (with_reducible repeat (first | refine blk_drewN ?_ _ | refine blk_drew ?_ | refine blk_alloc ?_ _)); exact BK185.out) Tryd.underlying37 rfl (by kernel_rfl)) rfl ?_
                exact ⟨by first | rfl | (simp [errW_none, errW_some] <;> rfl) | (simp only [← hji30]; first | rfl | (simp [errW_none, errW_some] <;> rfl)) | (simp [*, errW_none, errW_some] <;> rfl), by repeat (first | (with_reducible first | exact HB.out | apply below_alloc | apply pw_below_drewN | apply below_drew1 | refine below_set ?_ GE185.out | refine below_set ?_ GE186.out | refine below_set ?_ GE188.out) | exact HB.out | exact ⟨HB.out.os, HB.out.tape, HB.out.output, HB.out.size, HB.out.block⟩)⟩
              ·
               rw [if_neg c34] at H
               have c34b0 : ((rd l0 a1) == 1) = false := beq_eq_false_iff_ne.mpr c34
               have c34b1 : ((rd l0 a1) != 1) = true := bne_iff_ne.mpr c34
               by_cases c60 : 3 ≤ (((l0.take ((wrap64 ((ji30) + x8_14)) : Int).toNat).drop ((ji30) : Int).toNat).length : Int)
               ·
                rw [if_pos c60] at H
                have c60b0 := eq_true c60
                have c60b1 : decide (3 ≤ (((l0.take ((wrap64 ((ji30) + x8_14)) : Int).toNat).drop ((ji30) : Int).toNat).length : Int)) = true := decide_eq_true c60
                replace H := Option.bind_eq_some_iff.mp H
                obtain ⟨t193, A610, H⟩ := H
                replace H : ((capstanref18_number.f kj21 (((l0.take ((wrap64 ((ji30) + x8_14)) : Int).toNat).drop ((ji30) : Int).toNat).drop 3)).bind fun t195 => ((capstanref17_Outside.f (rd l0 a1) (wrap64 ((wrap64 (t193)) - 1048576)) (wrap64 ((wrap64 (t195)) - 1048576))).bind fun t196 => (if t196 = true then (some ((rd l0 a1), wrap64 ((wrap64 (t193)) - 1048576), wrap64 ((wrap64 (t195)) - 1048576), wrap64 ((ji30) + x8_14))) else (some (0, 0, 0, (-1)))))) = some (r1, r2, r3, r4) := H
                have A61 := Aside0.mk A610
                clear A610
                have c62b0 := eq_true (of_decide_eq_true (by first | (with_reducible assumption) | assumption) : 3 ≤ (((l0.take ((wrap64 ((ji30) + x8_14)) : Int).toNat).drop ((ji30) : Int).toNat).length : Int))
                replace H := Option.bind_eq_some_iff.mp H
                obtain ⟨t195, A630, H⟩ := H
                replace H : ((capstanref17_Outside.f (rd l0 a1) (wrap64 ((wrap64 (t193)) - 1048576)) (wrap64 ((wrap64 (t195)) - 1048576))).bind fun t196 => (if t196 = true then (some ((rd l0 a1), wrap64 ((wrap64 (t193)) - 1048576), wrap64 ((wrap64 (t195)) - 1048576), wrap64 ((ji30) + x8_14))) else (some (0, 0, 0, (-1))))) = some (r1, r2, r3, r4) := H
                have A63 := Aside0.mk A630
                clear A630
                replace H := Option.bind_eq_some_iff.mp H
                obtain ⟨t196, A640, H⟩ := H
                replace H : (if t196 = true then (some ((rd l0 a1), wrap64 ((wrap64 (t193)) - 1048576), wrap64 ((wrap64 (t195)) - 1048576), wrap64 ((ji30) + x8_14))) else (some (0, 0, 0, (-1)))) = some (r1, r2, r3, r4) := H
                have A64 := Aside0.mk A640
                clear A640
                by_cases c65 : t196 = true
                ·
                 subst c65
                 have H1 : (some ((rd l0 a1), wrap64 ((wrap64 (t193)) - 1048576), wrap64 ((wrap64 (t195)) - 1048576), wrap64 ((ji30) + x8_14))) = some (r1, r2, r3, r4) := by rw [if_pos rfl] at H; exact H
                 clear H
                 have H := H1
                 clear H1
                 simp only [Option.some.injEq, Prod.mk.injEq] at H
                 obtain ⟨rfl, rfl, rfl, rfl⟩ := H
                 obtain ⟨i066, hi066, _, hsz66, _⟩ := info_parts info5
                 obtain ⟨A66, hcut66, hA66, hC66⟩ := print_mid_of (P := Tryd.prog) (Value.int .u8) 0 22 5 .i64 .i64 Tryd.underlying22 hi066 hsz66 (some ad187) c0 l0 (ji30) (wrap64 ((ji30) + x8_14)) (of_decide_eq_true (by first | (with_reducible assumption) | assumption)) (by first | omega | exact of_decide_eq_true (by first | (with_reducible assumption) | assumption)) (of_decide_eq_true (by first | (with_reducible assumption) | assumption)) HC0.out
                 have HR189 := Aside0.mk (Kd.C_of_reads (h1 := fun _ => rfl) (hA66 _ (Kd.reads_of_C HR0.out)))
                 have HC189 := Aside0.mk hC66
                 clear hA66 hC66 hi066 hsz66
                 have hnb67 := NB188_185.out
                 have hnc67 := NB185_188.out
                 have hnb68 := NB188_186.out
                 have hnc68 := NB186_188.out
                 have hcz69_0 : wc.cell? ⟨gb188, 0, none⟩ = some (.int .u8 (rd l0 a1)) := (blk_cell BK188.out 0).trans rfl
                 have hcz69_1 : wc.cell? ⟨gb188, 1, none⟩ = some (.int .i64 0) := (blk_cell BK188.out 1).trans rfl
                 have hcz69_2 : wc.cell? ⟨gb188, 2, none⟩ = some (.int .i64 0) := (blk_cell BK188.out 2).trans rfl
                 have hfz69_0 := blk_frozen BK188.out 0
                 have hfz69_1 := blk_frozen BK188.out 1
                 have hfz69_2 := blk_frozen BK188.out 2
                 obtain ⟨i070, hi070, _, hsz70, _⟩ := info_parts info5
                 obtain ⟨hcut70, hA70, hC70⟩ := print_take_of (P := Tryd.prog) (Value.int .u8) 0 22 5 .i64 Tryd.underlying22 hi070 hsz70 A66 (c0 - (ji30).toNat) ((l0.take ((wrap64 ((ji30) + x8_14)) : Int).toNat).drop ((ji30) : Int).toNat) 3 (by omega) (of_decide_eq_true (by first | (with_reducible assumption) | assumption)) HC189.out
                 have HR192 := Aside0.mk (Kd.C_of_reads (h1 := fun _ => rfl) (hA70 _ (Kd.reads_of_C HR189.out)))
                 have HC192 := Aside0.mk hC70
                 clear hA70 hC70 hi070 hsz70
                 have hcutS70 := hcut70
                 (try simp only [show ((3 : Int).toNat) = 3 from rfl] at hcutS70)
                 (try rw [show (((l0.take ((wrap64 ((ji30) + x8_14)) : Int).toNat).drop ((ji30) : Int).toNat).take 3).length = 3 from (by rw [List.length_take]; have h_ : (3 : Int) ≤ (((l0.take ((wrap64 ((ji30) + x8_14)) : Int).toNat).drop ((ji30) : Int).toNat).length : Int) := (by first | exact of_decide_eq_true (by first | (with_reducible assumption) | assumption) | exact of_eq_true (by first | (with_reducible assumption) | assumption)); omega)] at hcutS70)
                 (try rw [show ((l0.take ((wrap64 ((ji30) + x8_14)) : Int).toNat).drop ((ji30) : Int).toNat).length = ((wrap64 ((ji30) + x8_14)).toNat - (ji30).toNat) from (by rw [List.length_drop, List.length_take]; have h_ : ((wrap64 ((ji30) + x8_14)) : Int) ≤ (l0.length : Int) := (by first | exact of_decide_eq_true (by first | (with_reducible assumption) | assumption) | exact of_eq_true (by first | (with_reducible assumption) | assumption)); omega)] at hcutS70)
                 clear hcut70
                 go_wp2_with (first | ((with_reducible refine gate_callee (f := 50) rfl ?_); refine goesL_ (some 60) rfl rfl Tryd.func50 (by kernel_rfl) rfl #[.slice A66 (((l0.take ((wrap64 ((ji30) + x8_14)) : Int).toNat).drop ((ji30) : Int).toNat).take 3).length (c0 - (ji30).toNat)] rfl (by (try simp only [List.map_toArray, List.map_cons, List.map_nil]); first | done | (rw [show (((l0.take ((wrap64 ((ji30) + x8_14)) : Int).toNat).drop ((ji30) : Int).toNat).take 3).length = 3 from (by rw [List.length_take]; have h_ : (3 : Int) ≤ (((l0.take ((wrap64 ((ji30) + x8_14)) : Int).toNat).drop ((ji30) : Int).toNat).length : Int) := (by first | exact of_decide_eq_true (by first | (with_reducible assumption) | assumption) | exact of_eq_true (by first | (with_reducible assumption) | assumption)); omega)] <;> rfl) | (simp only [hji30]; rfl) | rfl | (simp only [List.length_drop, List.length_take]; rfl)) ?_; (with_reducible refine (capstanref18_number.calls kj21 _ _ (((l0.take ((wrap64 ((ji30) + x8_14)) : Int).toNat).drop ((ji30) : Int).toNat).take 3) t193 _ ?side1 ?side2 A61.out).mono ?_); (case side1 => repeat (first | exact (Kd.C_below HR192.out HB.out) | (with_reducible refine Kd.C_alloc ?_ _) | (with_reducible refine Kd.C_drewN ?_ _) | (with_reducible refine Kd.C_drew ?_))); (case side2 => exact HC192.out); rintro e w' ⟨rfl, ⟨nd, rfl⟩⟩; refine ⟨_, rfl, ?_⟩; (try (rw [drewN_self wc]; generalize hq_ : World.drewN wc _ = wc; have n0_ : Aside0 (wc.heap[gb185]? = some (.cells #[.int .u8 0, .int .i64 0, .int .i64 0] 37 (0, 0))) := ⟨by rw [← hq_]; exact (by (with_reducible repeat (first | refine blk_drewN ?_ _ | refine blk_drew ?_ | refine blk_alloc ?_ _)); exact BK185.out)⟩; have n1_ : Aside0 (wc.heap[gb186]? = some (.cells #[.int .u8 0, .int .i64 0, .int .i64 0] 37 (0, 0))) := ⟨by rw [← hq_]; exact (by (with_reducible repeat (first | refine blk_drewN ?_ _ | refine blk_drew ?_ | refine blk_alloc ?_ _)); exact BK186.out)⟩; have n2_ : Aside0 (wc.heap[gb188]? = some (.cells #[.int .u8 (rd l0 a1), .int .i64 0, .int .i64 0] 37 (0, 0))) := ⟨by rw [← hq_]; exact (by (with_reducible repeat (first | refine blk_drewN ?_ _ | refine blk_drew ?_ | refine blk_alloc ?_ _)); exact BK188.out)⟩; have n3_ : Aside0 (Below w.heap.size w wc) := ⟨by rw [← hq_]; exact (by repeat (first | (with_reducible first | exact HB.out | apply below_alloc | apply pw_below_drewN | apply below_drew1 | refine below_set ?_ GE185.out | refine below_set ?_ GE186.out | refine below_set ?_ GE188.out) | exact HB.out | exact ⟨HB.out.os, HB.out.tape, HB.out.output, HB.out.size, HB.out.block⟩))⟩; clear BK185 BK186 BK188 HB hq_; have BK185 := n0_; have BK186 := n1_; have BK188 := n2_; have HB := n3_; clear n0_ n1_ n2_ n3_)); (try have hcu71_0 : wc.cell? ⟨gb185, 0, none⟩ = some (.int .u8 0) := (blk_cell BK185.out 0).trans rfl); (try have hfu71_0 := blk_frozen BK185.out 0); (try have hcu71_1 : wc.cell? ⟨gb185, 1, none⟩ = some (.int .i64 0) := (blk_cell BK185.out 1).trans rfl); (try have hfu71_1 := blk_frozen BK185.out 1); (try have hcu71_2 : wc.cell? ⟨gb185, 2, none⟩ = some (.int .i64 0) := (blk_cell BK185.out 2).trans rfl); (try have hfu71_2 := blk_frozen BK185.out 2); (try have hcu72_0 : wc.cell? ⟨gb186, 0, none⟩ = some (.int .u8 0) := (blk_cell BK186.out 0).trans rfl); (try have hfu72_0 := blk_frozen BK186.out 0); (try have hcu72_1 : wc.cell? ⟨gb186, 1, none⟩ = some (.int .i64 0) := (blk_cell BK186.out 1).trans rfl); (try have hfu72_1 := blk_frozen BK186.out 1); (try have hcu72_2 : wc.cell? ⟨gb186, 2, none⟩ = some (.int .i64 0) := (blk_cell BK186.out 2).trans rfl); (try have hfu72_2 := blk_frozen BK186.out 2); (try have hcu73_0 : wc.cell? ⟨gb188, 0, none⟩ = some (.int .u8 (rd l0 a1)) := (blk_cell BK188.out 0).trans rfl); (try have hfu73_0 := blk_frozen BK188.out 0); (try have hcu73_1 : wc.cell? ⟨gb188, 1, none⟩ = some (.int .i64 0) := (blk_cell BK188.out 1).trans rfl); (try have hfu73_1 := blk_frozen BK188.out 1); (try have hcu73_2 : wc.cell? ⟨gb188, 2, none⟩ = some (.int .i64 0) := (blk_cell BK188.out 2).trans rfl); (try have hfu73_2 := blk_frozen BK188.out 2); obtain ⟨i074, hi074, _, hsz74, _⟩ := info_parts info5; obtain ⟨A74, hcut74, hA74, hC74⟩ := print_drop_of (P := Tryd.prog) (Value.int .u8) 0 22 5 .i64 Tryd.underlying22 hi074 hsz74 A66 (c0 - (ji30).toNat) ((l0.take ((wrap64 ((ji30) + x8_14)) : Int).toNat).drop ((ji30) : Int).toNat) 3 (by omega) (of_decide_eq_true (by first | (with_reducible assumption) | assumption)) HC189.out; have HR194 := Aside0.mk (Kd.C_of_reads (h1 := fun _ => rfl) (hA74 _ (Kd.reads_of_C HR189.out))); have HC194 := Aside0.mk hC74; clear hA74 hC74 hi074 hsz74; have hcutS74 := hcut74; (try simp only [show ((3 : Int).toNat) = 3 from rfl] at hcutS74); (try rw [show (((l0.take ((wrap64 ((ji30) + x8_14)) : Int).toNat).drop ((ji30) : Int).toNat).drop 3).length = (((wrap64 ((ji30) + x8_14)).toNat - (ji30).toNat) - 3) from (by rw [List.length_drop, show ((l0.take ((wrap64 ((ji30) + x8_14)) : Int).toNat).drop ((ji30) : Int).toNat).length = ((wrap64 ((ji30) + x8_14)).toNat - (ji30).toNat) from (by rw [List.length_drop, List.length_take]; have h_ : ((wrap64 ((ji30) + x8_14)) : Int) ≤ (l0.length : Int) := (by first | exact of_decide_eq_true (by first | (with_reducible assumption) | assumption) | exact of_eq_true (by first | (with_reducible assumption) | assumption)); omega)])] at hcutS74); (try rw [show ((l0.take ((wrap64 ((ji30) + x8_14)) : Int).toNat).drop ((ji30) : Int).toNat).length = ((wrap64 ((ji30) + x8_14)).toNat - (ji30).toNat) from (by rw [List.length_drop, List.length_take]; have h_ : ((wrap64 ((ji30) + x8_14)) : Int) ≤ (l0.length : Int) := (by first | exact of_decide_eq_true (by first | (with_reducible assumption) | assumption) | exact of_eq_true (by first | (with_reducible assumption) | assumption)); omega)] at hcutS74); clear hcut74) | ((with_reducible refine gate_callee (f := 50) rfl ?_); refine goesL_ (some 66) rfl rfl Tryd.func50 (by kernel_rfl) rfl #[.slice A74 (((l0.take ((wrap64 ((ji30) + x8_14)) : Int).toNat).drop ((ji30) : Int).toNat).drop 3).length ((c0 - (ji30).toNat) - 3)] rfl (by (try simp only [List.map_toArray, List.map_cons, List.map_nil]); first | done | (rw [show (((l0.take ((wrap64 ((ji30) + x8_14)) : Int).toNat).drop ((ji30) : Int).toNat).drop 3).length = (((wrap64 ((ji30) + x8_14)).toNat - (ji30).toNat) - 3) from (by rw [List.length_drop, show ((l0.take ((wrap64 ((ji30) + x8_14)) : Int).toNat).drop ((ji30) : Int).toNat).length = ((wrap64 ((ji30) + x8_14)).toNat - (ji30).toNat) from (by rw [List.length_drop, List.length_take]; have h_ : ((wrap64 ((ji30) + x8_14)) : Int) ≤ (l0.length : Int) := (by first | exact of_decide_eq_true (by first | (with_reducible assumption) | assumption) | exact of_eq_true (by first | (with_reducible assumption) | assumption)); omega)])] <;> rfl) | (simp only [hji30]; rfl) | rfl | (simp only [List.length_drop, List.length_take]; rfl)) ?_; (with_reducible refine (capstanref18_number.calls kj21 _ _ (((l0.take ((wrap64 ((ji30) + x8_14)) : Int).toNat).drop ((ji30) : Int).toNat).drop 3) t195 _ ?side1 ?side2 A63.out).mono ?_); (case side1 => exact Kd.C_below HR194.out (by repeat (first | (with_reducible first | exact HB.out | apply below_alloc | apply pw_below_drewN | apply below_drew1 | refine below_set ?_ GE185.out | refine below_set ?_ GE186.out | refine below_set ?_ GE188.out) | exact HB.out | exact ⟨HB.out.os, HB.out.tape, HB.out.output, HB.out.size, HB.out.block⟩))); (case side2 => exact HC194.out); rintro e w' ⟨rfl, ⟨nd, rfl⟩⟩; refine ⟨_, rfl, ?_⟩) | ((with_reducible refine gate_callee (f := 51) rfl ?_); refine goesL_ (some 71) rfl rfl Tryd.func51 (by kernel_rfl) rfl #[.agg #[.int .u8 (rd l0 a1), .int .i64 (wrap64 ((wrap64 (t193)) - 1048576)), .int .i64 (wrap64 ((wrap64 (t195)) - 1048576))]] rfl (by (try simp only [List.map_toArray, List.map_cons, List.map_nil]); first | done | rfl | (simp only [List.length_drop, List.length_take]; rfl)) ?_; (with_reducible refine (capstanref17_Outside.calls (rd l0 a1) (wrap64 ((wrap64 (t193)) - 1048576)) (wrap64 ((wrap64 (t195)) - 1048576)) true _ A64.out).mono ?_); rintro e w75 ⟨rfl, hb⟩; refine ⟨_, rfl, ?_⟩; have n0_ := Aside0.mk (blk_below (g := gb185) (o := .cells #[.int .u8 0, .int .i64 0, .int .i64 0] 37 (0, 0)) (by (with_reducible repeat (first | refine blk_drewN ?_ _ | refine blk_drew ?_ | refine blk_alloc ?_ _)); refine blk_far ?_ NB185_188.out _; (with_reducible repeat (first | refine blk_drewN ?_ _ | refine blk_drew ?_ | refine blk_alloc ?_ _)); refine blk_far ?_ NB185_188.out _; (with_reducible repeat (first | refine blk_drewN ?_ _ | refine blk_drew ?_ | refine blk_alloc ?_ _)); exact BK185.out) hb); have n1_ := Aside0.mk (blk_below (g := gb186) (o := .cells #[.int .u8 0, .int .i64 0, .int .i64 0] 37 (0, 0)) (by (with_reducible repeat (first | refine blk_drewN ?_ _ | refine blk_drew ?_ | refine blk_alloc ?_ _)); refine blk_far ?_ NB186_188.out _; (with_reducible repeat (first | refine blk_drewN ?_ _ | refine blk_drew ?_ | refine blk_alloc ?_ _)); refine blk_far ?_ NB186_188.out _; (with_reducible repeat (first | refine blk_drewN ?_ _ | refine blk_drew ?_ | refine blk_alloc ?_ _)); exact BK186.out) hb); have n2_ := Aside0.mk (blk_below (g := gb188) (o := .cells #[.int .u8 (rd l0 a1), .int .i64 (wrap64 ((wrap64 (t193)) - 1048576)), .int .i64 (wrap64 ((wrap64 (t195)) - 1048576))] 37 (0, 0)) (by (with_reducible repeat (first | refine blk_drewN ?_ _ | refine blk_drew ?_ | refine blk_alloc ?_ _)); refine blk_put (cs := #[.int .u8 (rd l0 a1), .int .i64 (wrap64 ((wrap64 (t193)) - 1048576)), .int .i64 0]) ?_ 2 _ rfl; (with_reducible repeat (first | refine blk_drewN ?_ _ | refine blk_drew ?_ | refine blk_alloc ?_ _)); refine blk_put (cs := #[.int .u8 (rd l0 a1), .int .i64 0, .int .i64 0]) ?_ 1 _ rfl; (with_reducible repeat (first | refine blk_drewN ?_ _ | refine blk_drew ?_ | refine blk_alloc ?_ _)); exact BK188.out) hb); have n3_ := Aside0.mk (below_step (by repeat (first | (with_reducible first | exact HB.out | apply below_alloc | apply pw_below_drewN | apply below_drew1 | refine below_set ?_ GE185.out | refine below_set ?_ GE186.out | refine below_set ?_ GE188.out) | exact HB.out | exact ⟨HB.out.os, HB.out.tape, HB.out.output, HB.out.size, HB.out.block⟩)) hb); clear BK185; clear BK186; clear BK188; clear HB; have BK185 := n0_; have BK186 := n1_; have BK188 := n2_; have HB := n3_; clear n0_ n1_ n2_ n3_; (try clear hb); (try clear hb2); (try clear hk); (try clear hi); have hcz76_0 : w75.cell? ⟨gb188, 0, none⟩ = some (.int .u8 (rd l0 a1)) := (blk_cell BK188.out 0).trans rfl; have hcz76_1 : w75.cell? ⟨gb188, 1, none⟩ = some (.int .i64 (wrap64 ((wrap64 (t193)) - 1048576))) := (blk_cell BK188.out 1).trans rfl; have hcz76_2 : w75.cell? ⟨gb188, 2, none⟩ = some (.int .i64 (wrap64 ((wrap64 (t195)) - 1048576))) := (blk_cell BK188.out 2).trans rfl; have hfz76_0 := blk_frozen BK188.out 0; have hfz76_1 := blk_frozen BK188.out 1; have hfz76_2 := blk_frozen BK188.out 2; have hnb77 := NB185_186.out; have hnc77 := NB186_185.out; have hcz78_0 : w75.cell? ⟨gb185, 0, none⟩ = some (.int .u8 0) := (blk_cell BK185.out 0).trans rfl; have hcz78_1 : w75.cell? ⟨gb185, 1, none⟩ = some (.int .i64 0) := (blk_cell BK185.out 1).trans rfl; have hcz78_2 : w75.cell? ⟨gb185, 2, none⟩ = some (.int .i64 0) := (blk_cell BK185.out 2).trans rfl; have hfz78_0 := blk_frozen BK185.out 0; have hfz78_1 := blk_frozen BK185.out 1; have hfz78_2 := blk_frozen BK185.out 2))
                 refine bodyPost_ret (results_ct rfl _ _ gb185 37 #[.int .u8 (rd l0 a1), .int .i64 (wrap64 ((wrap64 (t193)) - 1048576)), .int .i64 (wrap64 ((wrap64 (t195)) - 1048576))] (0, 0) _ rfl (by (with_reducible repeat (first | refine blk_drewN ?_ _ | refine blk_drew ?_ | refine blk_alloc ?_ _)); refine blk_put (cs := #[.int .u8 (rd l0 a1), .int .i64 (wrap64 ((wrap64 (t193)) - 1048576)), .int .i64 0]) ?_ 2 _ rfl; (with_reducible repeat (first | refine blk_drewN ?_ _ | refine blk_drew ?_ | refine blk_alloc ?_ _)); refine blk_put (cs := #[.int .u8 (rd l0 a1), .int .i64 0, .int .i64 0]) ?_ 1 _ rfl; (with_reducible repeat (first | refine blk_drewN ?_ _ | refine blk_drew ?_ | refine blk_alloc ?_ _)); refine blk_put (cs := #[.int .u8 0, .int .i64 0, .int .i64 0]) ?_ 0 _ rfl; (with_reducible repeat (first | refine blk_drewN ?_ _ | refine blk_drew ?_ | refine blk_alloc ?_ _)); exact BK185.out) Tryd.underlying37 rfl (by kernel_rfl)) rfl ?_
                 exact ⟨by first | rfl | (simp [errW_none, errW_some] <;> rfl) | (simp only [← hji30]; first | rfl | (simp [errW_none, errW_some] <;> rfl)) | (simp [*, errW_none, errW_some] <;> rfl), by repeat (first | (with_reducible first | exact HB.out | apply below_alloc | apply pw_below_drewN | apply below_drew1 | refine below_set ?_ GE185.out | refine below_set ?_ GE186.out | refine below_set ?_ GE188.out) | exact HB.out | exact ⟨HB.out.os, HB.out.tape, HB.out.output, HB.out.size, HB.out.block⟩)⟩
                ·
                 replace c65 := Bool.eq_false_iff.mpr c65
                 subst c65
                 have H1 : (some (0, 0, 0, (-1))) = some (r1, r2, r3, r4) := by rw [if_neg (show ¬ (false = true) by decide)] at H; exact H
                 clear H
                 have H := H1
                 clear H1
                 simp only [Option.some.injEq, Prod.mk.injEq] at H
                 obtain ⟨rfl, rfl, rfl, rfl⟩ := H
                 obtain ⟨i079, hi079, _, hsz79, _⟩ := info_parts info5
                 obtain ⟨A79, hcut79, hA79, hC79⟩ := print_mid_of (P := Tryd.prog) (Value.int .u8) 0 22 5 .i64 .i64 Tryd.underlying22 hi079 hsz79 (some ad187) c0 l0 (ji30) (wrap64 ((ji30) + x8_14)) (of_decide_eq_true (by first | (with_reducible assumption) | assumption)) (by first | omega | exact of_decide_eq_true (by first | (with_reducible assumption) | assumption)) (of_decide_eq_true (by first | (with_reducible assumption) | assumption)) HC0.out
                 have HR189 := Aside0.mk (Kd.C_of_reads (h1 := fun _ => rfl) (hA79 _ (Kd.reads_of_C HR0.out)))
                 have HC189 := Aside0.mk hC79
                 clear hA79 hC79 hi079 hsz79
                 have hnb80 := NB188_185.out
                 have hnc80 := NB185_188.out
                 have hnb81 := NB188_186.out
                 have hnc81 := NB186_188.out
                 have hcz82_0 : wc.cell? ⟨gb188, 0, none⟩ = some (.int .u8 (rd l0 a1)) := (blk_cell BK188.out 0).trans rfl
                 have hcz82_1 : wc.cell? ⟨gb188, 1, none⟩ = some (.int .i64 0) := (blk_cell BK188.out 1).trans rfl
                 have hcz82_2 : wc.cell? ⟨gb188, 2, none⟩ = some (.int .i64 0) := (blk_cell BK188.out 2).trans rfl
                 have hfz82_0 := blk_frozen BK188.out 0
                 have hfz82_1 := blk_frozen BK188.out 1
                 have hfz82_2 := blk_frozen BK188.out 2
                 obtain ⟨i083, hi083, _, hsz83, _⟩ := info_parts info5
                 obtain ⟨hcut83, hA83, hC83⟩ := print_take_of (P := Tryd.prog) (Value.int .u8) 0 22 5 .i64 Tryd.underlying22 hi083 hsz83 A79 (c0 - (ji30).toNat) ((l0.take ((wrap64 ((ji30) + x8_14)) : Int).toNat).drop ((ji30) : Int).toNat) 3 (by omega) (of_decide_eq_true (by first | (with_reducible assumption) | assumption)) HC189.out
                 have HR192 := Aside0.mk (Kd.C_of_reads (h1 := fun _ => rfl) (hA83 _ (Kd.reads_of_C HR189.out)))
                 have HC192 := Aside0.mk hC83
                 clear hA83 hC83 hi083 hsz83
                 have hcutS83 := hcut83
                 (try simp only [show ((3 : Int).toNat) = 3 from rfl] at hcutS83)
                 (try rw [show (((l0.take ((wrap64 ((ji30) + x8_14)) : Int).toNat).drop ((ji30) : Int).toNat).take 3).length = 3 from (by rw [List.length_take]; have h_ : (3 : Int) ≤ (((l0.take ((wrap64 ((ji30) + x8_14)) : Int).toNat).drop ((ji30) : Int).toNat).length : Int) := (by first | exact of_decide_eq_true (by first | (with_reducible assumption) | assumption) | exact of_eq_true (by first | (with_reducible assumption) | assumption)); omega)] at hcutS83)
                 (try rw [show ((l0.take ((wrap64 ((ji30) + x8_14)) : Int).toNat).drop ((ji30) : Int).toNat).length = ((wrap64 ((ji30) + x8_14)).toNat - (ji30).toNat) from (by rw [List.length_drop, List.length_take]; have h_ : ((wrap64 ((ji30) + x8_14)) : Int) ≤ (l0.length : Int) := (by first | exact of_decide_eq_true (by first | (with_reducible assumption) | assumption) | exact of_eq_true (by first | (with_reducible assumption) | assumption)); omega)] at hcutS83)
                 clear hcut83
                 go_wp2_with (first | ((with_reducible refine gate_callee (f := 50) rfl ?_); refine goesL_ (some 60) rfl rfl Tryd.func50 (by kernel_rfl) rfl #[.slice A79 (((l0.take ((wrap64 ((ji30) + x8_14)) : Int).toNat).drop ((ji30) : Int).toNat).take 3).length (c0 - (ji30).toNat)] rfl (by (try simp only [List.map_toArray, List.map_cons, List.map_nil]); first | done | (rw [show (((l0.take ((wrap64 ((ji30) + x8_14)) : Int).toNat).drop ((ji30) : Int).toNat).take 3).length = 3 from (by rw [List.length_take]; have h_ : (3 : Int) ≤ (((l0.take ((wrap64 ((ji30) + x8_14)) : Int).toNat).drop ((ji30) : Int).toNat).length : Int) := (by first | exact of_decide_eq_true (by first | (with_reducible assumption) | assumption) | exact of_eq_true (by first | (with_reducible assumption) | assumption)); omega)] <;> rfl) | (simp only [hji30]; rfl) | rfl | (simp only [List.length_drop, List.length_take]; rfl)) ?_; (with_reducible refine (capstanref18_number.calls kj21 _ _ (((l0.take ((wrap64 ((ji30) + x8_14)) : Int).toNat).drop ((ji30) : Int).toNat).take 3) t193 _ ?side1 ?side2 A61.out).mono ?_); (case side1 => repeat (first | exact (Kd.C_below HR192.out HB.out) | (with_reducible refine Kd.C_alloc ?_ _) | (with_reducible refine Kd.C_drewN ?_ _) | (with_reducible refine Kd.C_drew ?_))); (case side2 => exact HC192.out); rintro e w' ⟨rfl, ⟨nd, rfl⟩⟩; refine ⟨_, rfl, ?_⟩; (try (rw [drewN_self wc]; generalize hq_ : World.drewN wc _ = wc; have n0_ : Aside0 (wc.heap[gb185]? = some (.cells #[.int .u8 0, .int .i64 0, .int .i64 0] 37 (0, 0))) := ⟨by rw [← hq_]; exact (by (with_reducible repeat (first | refine blk_drewN ?_ _ | refine blk_drew ?_ | refine blk_alloc ?_ _)); exact BK185.out)⟩; have n1_ : Aside0 (wc.heap[gb186]? = some (.cells #[.int .u8 0, .int .i64 0, .int .i64 0] 37 (0, 0))) := ⟨by rw [← hq_]; exact (by (with_reducible repeat (first | refine blk_drewN ?_ _ | refine blk_drew ?_ | refine blk_alloc ?_ _)); exact BK186.out)⟩; have n2_ : Aside0 (wc.heap[gb188]? = some (.cells #[.int .u8 (rd l0 a1), .int .i64 0, .int .i64 0] 37 (0, 0))) := ⟨by rw [← hq_]; exact (by (with_reducible repeat (first | refine blk_drewN ?_ _ | refine blk_drew ?_ | refine blk_alloc ?_ _)); exact BK188.out)⟩; have n3_ : Aside0 (Below w.heap.size w wc) := ⟨by rw [← hq_]; exact (by repeat (first | (with_reducible first | exact HB.out | apply below_alloc | apply pw_below_drewN | apply below_drew1 | refine below_set ?_ GE185.out | refine below_set ?_ GE186.out | refine below_set ?_ GE188.out) | exact HB.out | exact ⟨HB.out.os, HB.out.tape, HB.out.output, HB.out.size, HB.out.block⟩))⟩; clear BK185 BK186 BK188 HB hq_; have BK185 := n0_; have BK186 := n1_; have BK188 := n2_; have HB := n3_; clear n0_ n1_ n2_ n3_)); (try have hcu84_0 : wc.cell? ⟨gb185, 0, none⟩ = some (.int .u8 0) := (blk_cell BK185.out 0).trans rfl); (try have hfu84_0 := blk_frozen BK185.out 0); (try have hcu84_1 : wc.cell? ⟨gb185, 1, none⟩ = some (.int .i64 0) := (blk_cell BK185.out 1).trans rfl); (try have hfu84_1 := blk_frozen BK185.out 1); (try have hcu84_2 : wc.cell? ⟨gb185, 2, none⟩ = some (.int .i64 0) := (blk_cell BK185.out 2).trans rfl); (try have hfu84_2 := blk_frozen BK185.out 2); (try have hcu85_0 : wc.cell? ⟨gb186, 0, none⟩ = some (.int .u8 0) := (blk_cell BK186.out 0).trans rfl); (try have hfu85_0 := blk_frozen BK186.out 0); (try have hcu85_1 : wc.cell? ⟨gb186, 1, none⟩ = some (.int .i64 0) := (blk_cell BK186.out 1).trans rfl); (try have hfu85_1 := blk_frozen BK186.out 1); (try have hcu85_2 : wc.cell? ⟨gb186, 2, none⟩ = some (.int .i64 0) := (blk_cell BK186.out 2).trans rfl); (try have hfu85_2 := blk_frozen BK186.out 2); (try have hcu86_0 : wc.cell? ⟨gb188, 0, none⟩ = some (.int .u8 (rd l0 a1)) := (blk_cell BK188.out 0).trans rfl); (try have hfu86_0 := blk_frozen BK188.out 0); (try have hcu86_1 : wc.cell? ⟨gb188, 1, none⟩ = some (.int .i64 0) := (blk_cell BK188.out 1).trans rfl); (try have hfu86_1 := blk_frozen BK188.out 1); (try have hcu86_2 : wc.cell? ⟨gb188, 2, none⟩ = some (.int .i64 0) := (blk_cell BK188.out 2).trans rfl); (try have hfu86_2 := blk_frozen BK188.out 2); obtain ⟨i087, hi087, _, hsz87, _⟩ := info_parts info5; obtain ⟨A87, hcut87, hA87, hC87⟩ := print_drop_of (P := Tryd.prog) (Value.int .u8) 0 22 5 .i64 Tryd.underlying22 hi087 hsz87 A79 (c0 - (ji30).toNat) ((l0.take ((wrap64 ((ji30) + x8_14)) : Int).toNat).drop ((ji30) : Int).toNat) 3 (by omega) (of_decide_eq_true (by first | (with_reducible assumption) | assumption)) HC189.out; have HR194 := Aside0.mk (Kd.C_of_reads (h1 := fun _ => rfl) (hA87 _ (Kd.reads_of_C HR189.out))); have HC194 := Aside0.mk hC87; clear hA87 hC87 hi087 hsz87; have hcutS87 := hcut87; (try simp only [show ((3 : Int).toNat) = 3 from rfl] at hcutS87); (try rw [show (((l0.take ((wrap64 ((ji30) + x8_14)) : Int).toNat).drop ((ji30) : Int).toNat).drop 3).length = (((wrap64 ((ji30) + x8_14)).toNat - (ji30).toNat) - 3) from (by rw [List.length_drop, show ((l0.take ((wrap64 ((ji30) + x8_14)) : Int).toNat).drop ((ji30) : Int).toNat).length = ((wrap64 ((ji30) + x8_14)).toNat - (ji30).toNat) from (by rw [List.length_drop, List.length_take]; have h_ : ((wrap64 ((ji30) + x8_14)) : Int) ≤ (l0.length : Int) := (by first | exact of_decide_eq_true (by first | (with_reducible assumption) | assumption) | exact of_eq_true (by first | (with_reducible assumption) | assumption)); omega)])] at hcutS87); (try rw [show ((l0.take ((wrap64 ((ji30) + x8_14)) : Int).toNat).drop ((ji30) : Int).toNat).length = ((wrap64 ((ji30) + x8_14)).toNat - (ji30).toNat) from (by rw [List.length_drop, List.length_take]; have h_ : ((wrap64 ((ji30) + x8_14)) : Int) ≤ (l0.length : Int) := (by first | exact of_decide_eq_true (by first | (with_reducible assumption) | assumption) | exact of_eq_true (by first | (with_reducible assumption) | assumption)); omega)] at hcutS87); clear hcut87) | ((with_reducible refine gate_callee (f := 50) rfl ?_); refine goesL_ (some 66) rfl rfl Tryd.func50 (by kernel_rfl) rfl #[.slice A87 (((l0.take ((wrap64 ((ji30) + x8_14)) : Int).toNat).drop ((ji30) : Int).toNat).drop 3).length ((c0 - (ji30).toNat) - 3)] rfl (by (try simp only [List.map_toArray, List.map_cons, List.map_nil]); first | done | (rw [show (((l0.take ((wrap64 ((ji30) + x8_14)) : Int).toNat).drop ((ji30) : Int).toNat).drop 3).length = (((wrap64 ((ji30) + x8_14)).toNat - (ji30).toNat) - 3) from (by rw [List.length_drop, show ((l0.take ((wrap64 ((ji30) + x8_14)) : Int).toNat).drop ((ji30) : Int).toNat).length = ((wrap64 ((ji30) + x8_14)).toNat - (ji30).toNat) from (by rw [List.length_drop, List.length_take]; have h_ : ((wrap64 ((ji30) + x8_14)) : Int) ≤ (l0.length : Int) := (by first | exact of_decide_eq_true (by first | (with_reducible assumption) | assumption) | exact of_eq_true (by first | (with_reducible assumption) | assumption)); omega)])] <;> rfl) | (simp only [hji30]; rfl) | rfl | (simp only [List.length_drop, List.length_take]; rfl)) ?_; (with_reducible refine (capstanref18_number.calls kj21 _ _ (((l0.take ((wrap64 ((ji30) + x8_14)) : Int).toNat).drop ((ji30) : Int).toNat).drop 3) t195 _ ?side1 ?side2 A63.out).mono ?_); (case side1 => exact Kd.C_below HR194.out (by repeat (first | (with_reducible first | exact HB.out | apply below_alloc | apply pw_below_drewN | apply below_drew1 | refine below_set ?_ GE185.out | refine below_set ?_ GE186.out | refine below_set ?_ GE188.out) | exact HB.out | exact ⟨HB.out.os, HB.out.tape, HB.out.output, HB.out.size, HB.out.block⟩))); (case side2 => exact HC194.out); rintro e w' ⟨rfl, ⟨nd, rfl⟩⟩; refine ⟨_, rfl, ?_⟩) | ((with_reducible refine gate_callee (f := 51) rfl ?_); refine goesL_ (some 71) rfl rfl Tryd.func51 (by kernel_rfl) rfl #[.agg #[.int .u8 (rd l0 a1), .int .i64 (wrap64 ((wrap64 (t193)) - 1048576)), .int .i64 (wrap64 ((wrap64 (t195)) - 1048576))]] rfl (by (try simp only [List.map_toArray, List.map_cons, List.map_nil]); first | done | rfl | (simp only [List.length_drop, List.length_take]; rfl)) ?_; (with_reducible refine (capstanref17_Outside.calls (rd l0 a1) (wrap64 ((wrap64 (t193)) - 1048576)) (wrap64 ((wrap64 (t195)) - 1048576)) false _ A64.out).mono ?_); rintro e w88 ⟨rfl, hb⟩; refine ⟨_, rfl, ?_⟩; have n0_ := Aside0.mk (blk_below (g := gb185) (o := .cells #[.int .u8 0, .int .i64 0, .int .i64 0] 37 (0, 0)) (by (with_reducible repeat (first | refine blk_drewN ?_ _ | refine blk_drew ?_ | refine blk_alloc ?_ _)); refine blk_far ?_ NB185_188.out _; (with_reducible repeat (first | refine blk_drewN ?_ _ | refine blk_drew ?_ | refine blk_alloc ?_ _)); refine blk_far ?_ NB185_188.out _; (with_reducible repeat (first | refine blk_drewN ?_ _ | refine blk_drew ?_ | refine blk_alloc ?_ _)); exact BK185.out) hb); have n1_ := Aside0.mk (blk_below (g := gb186) (o := .cells #[.int .u8 0, .int .i64 0, .int .i64 0] 37 (0, 0)) (by (with_reducible repeat (first | refine blk_drewN ?_ _ | refine blk_drew ?_ | refine blk_alloc ?_ _)); refine blk_far ?_ NB186_188.out _; (with_reducible repeat (first | refine blk_drewN ?_ _ | refine blk_drew ?_ | refine blk_alloc ?_ _)); refine blk_far ?_ NB186_188.out _; (with_reducible repeat (first | refine blk_drewN ?_ _ | refine blk_drew ?_ | refine blk_alloc ?_ _)); exact BK186.out) hb); have n2_ := Aside0.mk (blk_below (g := gb188) (o := .cells #[.int .u8 (rd l0 a1), .int .i64 (wrap64 ((wrap64 (t193)) - 1048576)), .int .i64 (wrap64 ((wrap64 (t195)) - 1048576))] 37 (0, 0)) (by (with_reducible repeat (first | refine blk_drewN ?_ _ | refine blk_drew ?_ | refine blk_alloc ?_ _)); refine blk_put (cs := #[.int .u8 (rd l0 a1), .int .i64 (wrap64 ((wrap64 (t193)) - 1048576)), .int .i64 0]) ?_ 2 _ rfl; (with_reducible repeat (first | refine blk_drewN ?_ _ | refine blk_drew ?_ | refine blk_alloc ?_ _)); refine blk_put (cs := #[.int .u8 (rd l0 a1), .int .i64 0, .int .i64 0]) ?_ 1 _ rfl; (with_reducible repeat (first | refine blk_drewN ?_ _ | refine blk_drew ?_ | refine blk_alloc ?_ _)); exact BK188.out) hb); have n3_ := Aside0.mk (below_step (by repeat (first | (with_reducible first | exact HB.out | apply below_alloc | apply pw_below_drewN | apply below_drew1 | refine below_set ?_ GE185.out | refine below_set ?_ GE186.out | refine below_set ?_ GE188.out) | exact HB.out | exact ⟨HB.out.os, HB.out.tape, HB.out.output, HB.out.size, HB.out.block⟩)) hb); clear BK185; clear BK186; clear BK188; clear HB; have BK185 := n0_; have BK186 := n1_; have BK188 := n2_; have HB := n3_; clear n0_ n1_ n2_ n3_; (try clear hb); (try clear hb2); (try clear hk); (try clear hi); have hnb89 := NB186_185.out; have hnc89 := NB185_186.out; have hcz90_0 : w88.cell? ⟨gb186, 0, none⟩ = some (.int .u8 0) := (blk_cell BK186.out 0).trans rfl; have hcz90_1 : w88.cell? ⟨gb186, 1, none⟩ = some (.int .i64 0) := (blk_cell BK186.out 1).trans rfl; have hcz90_2 : w88.cell? ⟨gb186, 2, none⟩ = some (.int .i64 0) := (blk_cell BK186.out 2).trans rfl; have hfz90_0 := blk_frozen BK186.out 0; have hfz90_1 := blk_frozen BK186.out 1; have hfz90_2 := blk_frozen BK186.out 2; have hcz91_0 : w88.cell? ⟨gb185, 0, none⟩ = some (.int .u8 0) := (blk_cell BK185.out 0).trans rfl; have hcz91_1 : w88.cell? ⟨gb185, 1, none⟩ = some (.int .i64 0) := (blk_cell BK185.out 1).trans rfl; have hcz91_2 : w88.cell? ⟨gb185, 2, none⟩ = some (.int .i64 0) := (blk_cell BK185.out 2).trans rfl; have hfz91_0 := blk_frozen BK185.out 0; have hfz91_1 := blk_frozen BK185.out 1; have hfz91_2 := blk_frozen BK185.out 2))
                 refine bodyPost_ret (results_ct rfl _ _ gb185 37 #[.int .u8 0, .int .i64 0, .int .i64 0] (0, 0) _ rfl (by (with_reducible repeat (first | refine blk_drewN ?_ _ | refine blk_drew ?_ | refine blk_alloc ?_ _)); refine blk_put (cs := #[.int .u8 0, .int .i64 0, .int .i64 0]) ?_ 2 _ rfl; (with_reducible repeat (first | refine blk_drewN ?_ _ | refine blk_drew ?_ | refine blk_alloc ?_ _)); refine blk_put (cs := #[.int .u8 0, .int .i64 0, .int .i64 0]) ?_ 1 _ rfl; (with_reducible repeat (first | refine blk_drewN ?_ _ | refine blk_drew ?_ | refine blk_alloc ?_ _)); refine blk_put (cs := #[.int .u8 0, .int .i64 0, .int .i64 0]) ?_ 0 _ rfl; (with_reducible repeat (first | refine blk_drewN ?_ _ | refine blk_drew ?_ | refine blk_alloc ?_ _)); exact BK185.out) Tryd.underlying37 rfl (by kernel_rfl)) rfl ?_
                 exact ⟨by first | rfl | (simp [errW_none, errW_some] <;> rfl) | (simp only [← hji30]; first | rfl | (simp [errW_none, errW_some] <;> rfl)) | (simp [*, errW_none, errW_some] <;> rfl), by repeat (first | (with_reducible first | exact HB.out | apply below_alloc | apply pw_below_drewN | apply below_drew1 | refine below_set ?_ GE185.out | refine below_set ?_ GE186.out | refine below_set ?_ GE188.out) | exact HB.out | exact ⟨HB.out.os, HB.out.tape, HB.out.output, HB.out.size, HB.out.block⟩)⟩
               ·
                rw [if_neg c60] at H
                exact absurd H (by simp)
             ·
              rw [if_neg c33] at H
              exact absurd H (by simp)
            ·
             rw [if_neg c32] at H
             exact absurd H (by simp)
           ·
            rw [if_neg c31] at H
            exact absurd H (by simp)
     ·
      rw [if_neg c14] at H
      exact absurd H (by simp)
    ·
     rw [if_neg c13] at H
     exact absurd H (by simp)

end Go.Proofs.YtjidhcepdjdceaaDoor.E
