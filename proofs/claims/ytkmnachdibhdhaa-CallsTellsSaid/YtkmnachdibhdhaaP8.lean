/- Contracts of the functions of this seat (each: the call of the function does what the plain Lean function of the same name tells; the conditions stand in each statement). Written by a program of this session and by hand; checked by Lean. -/
import Derived.Test.YtkmnachdibhdhaaP0
import Derived.Test.YtkmnachdibhdhaaP7
namespace Go.Proofs.Ytkmnachdibhdhaa.P
open Go.RowKit Go.Proofs.YtkmnachdibhdhaaW.PrintWords Go.Proofs.YtkmnachdibhdhaaW.PrintLast Go.Proofs.YtkmnachdibhdhaaW.PrintMore
attribute [local go_sem] max2_int min2_int max_two min_two max_three min_three max_four min_four   -- for this text's walks alone
set_option linter.unusedVariables false
set_option linter.unusedSimpArgs false

/-! ### capstanref11_Whom: function 25 -/
mutual
def capstanref11_Whom.j0 : Nat → Int → Bool → List (S86) → List (S86) → List (S52) → Int → Option (List Int × Int)
 | 0, _, _, _, _, _, _ => none
 | k + 1, x1, x18, x165000, x165001, x165002, x165003 => if x18 = true then (some (([] : List Int), 2)) else (if 0 ≤ x1 then (if x1 < (x165002.length : Int) then (capstanref11_Whom.l0 k 0 x165000 x165001 x165002 x165003 ((rd_T52 x165002 x1).f0) ((rd_T52 x165002 x1).f1) ((rd_T52 x165002 x1).f2) ((rd_T52 x165002 x1).f3) ((rd_T52 x165002 x1).f4) ((rd_T52 x165002 x1).f5) ((rd_T52 x165002 x1).f6) ((rd_T52 x165002 x1).f7)) else (none)) else (none))
def capstanref11_Whom.l0 : Nat → Int → List (S86) → List (S86) → List (S52) → Int → List Int → List Int → Int → Bool → Int → Int → Int → List (S70) → Option (List Int × Int)
 | 0, _, _, _, _, _, _, _, _, _, _, _, _, _ => none
 | k + 1, x7, x165000, x165001, x165002, x165003, x167000, x167001, x167002, x167003, x167004, x167005, x167006, x167007 => if x7 < (x167007.length : Int) then (if 0 ≤ x7 then (if ((rd_T70 x167007 x7).f0) = 30 then (if ((rd_T70 x167007 x7).f1) < 0 then (some (([] : List Int), 2)) else (if ((rd_T70 x167007 x7).f1) ≥ (x165002.length : Int) then (some (([] : List Int), 2)) else (capstanref11_Whom.l0 k (wrap64 (x7 + 1)) x165000 x165001 x165002 x165003 x167000 x167001 x167002 x167003 x167004 x167005 x167006 x167007))) else (capstanref11_Whom.l0 k (wrap64 (x7 + 1)) x165000 x165001 x165002 x165003 x167000 x167001 x167002 x167003 x167004 x167005 x167006 x167007)) else (none)) else (capstanref11_Whom.l1 k ([] : List Int) 0 x165000 x165001 x165002 x165003 x167000 x167001 x167002 x167003 x167004 x167005 x167006 x167007)
def capstanref11_Whom.l1 : Nat → List Int → Int → List (S86) → List (S86) → List (S52) → Int → List Int → List Int → Int → Bool → Int → Int → Int → List (S70) → Option (List Int × Int)
 | 0, _, _, _, _, _, _, _, _, _, _, _, _, _, _ => none
 | k + 1, x8, x9, x165000, x165001, x165002, x165003, x167000, x167001, x167002, x167003, x167004, x167005, x167006, x167007 => if x9 < (x165002.length : Int) then ((capstanref11_calls.f k x167000 x167001 x167002 x167003 x167004 x167005 x167006 x167007 x9).bind fun t170 => (if t170 = true then (if x8.length < 17592186044416 then (capstanref11_Whom.l1 k (x8 ++ [x9]) (wrap64 (x9 + 1)) x165000 x165001 x165002 x165003 x167000 x167001 x167002 x167003 x167004 x167005 x167006 x167007) else (none)) else (capstanref11_Whom.l1 k x8 (wrap64 (x9 + 1)) x165000 x165001 x165002 x165003 x167000 x167001 x167002 x167003 x167004 x167005 x167006 x167007))) else (some (x8, 0))
end
def capstanref11_Whom.f (k : Nat) (l0_0 : List (S86)) (l0_1 : List (S86)) (l0_2 : List (S52)) (a0_3 : Int) (a1 : Int) : Option (List Int × Int) := if a1 < 0 then (capstanref11_Whom.j0 k a1 true l0_0 l0_1 l0_2 a0_3) else (capstanref11_Whom.j0 k a1 (decide (a1 ≥ (l0_2.length : Int))) l0_0 l0_1 l0_2 a0_3)
theorem capstanref11_Whom.mono_l : ∀ k, (∀ y0 y1 y2 y3 y4 y5, LeO (capstanref11_Whom.j0 k y0 y1 y2 y3 y4 y5) (capstanref11_Whom.j0 (k + 1) y0 y1 y2 y3 y4 y5)) ∧ (∀ y0 y1 y2 y3 y4 y5 y6 y7 y8 y9 y10 y11 y12, LeO (capstanref11_Whom.l0 k y0 y1 y2 y3 y4 y5 y6 y7 y8 y9 y10 y11 y12) (capstanref11_Whom.l0 (k + 1) y0 y1 y2 y3 y4 y5 y6 y7 y8 y9 y10 y11 y12)) ∧ (∀ y0 y1 y2 y3 y4 y5 y6 y7 y8 y9 y10 y11 y12 y13, LeO (capstanref11_Whom.l1 k y0 y1 y2 y3 y4 y5 y6 y7 y8 y9 y10 y11 y12 y13) (capstanref11_Whom.l1 (k + 1) y0 y1 y2 y3 y4 y5 y6 y7 y8 y9 y10 y11 y12 y13))
 | 0 => ⟨fun _ _ _ _ _ _ r h => by simp [capstanref11_Whom.j0] at h, fun _ _ _ _ _ _ _ _ _ _ _ _ _ r h => by simp [capstanref11_Whom.l0] at h, fun _ _ _ _ _ _ _ _ _ _ _ _ _ _ r h => by simp [capstanref11_Whom.l1] at h⟩
 | k + 1 => by
  obtain ⟨ih0, ih1, ih2⟩ := capstanref11_Whom.mono_l k
  refine ⟨?_, ?_, ?_⟩
  ·
   intro y0 y1 y2 y3 y4 y5
   unfold capstanref11_Whom.j0
   repeat' first
   | (with_reducible exact ih0 _ _ _ _ _ _)
   | (with_reducible exact ih1 _ _ _ _ _ _ _ _ _ _ _ _ _)
   | (with_reducible exact ih2 _ _ _ _ _ _ _ _ _ _ _ _ _ _)
   | (with_reducible exact capstanref11_calls.mono _ _ _ _ _ _ _ _ _ _)
   | (with_reducible exact LeO.refl _)
   | (with_reducible exact LeO.none _)
   | (with_reducible refine LeO.ite ?_ ?_)
   | (with_reducible refine LeO.bind ?_ (fun _ => ?_))
   | exact ih0 _ _ _ _ _ _
   | exact ih1 _ _ _ _ _ _ _ _ _ _ _ _ _
   | exact ih2 _ _ _ _ _ _ _ _ _ _ _ _ _ _
   | exact capstanref11_calls.mono _ _ _ _ _ _ _ _ _ _
   | exact LeO.none _
   | refine LeO.ite ?_ ?_
   | refine LeO.bind ?_ (fun _ => ?_)
  ·
   intro y0 y1 y2 y3 y4 y5 y6 y7 y8 y9 y10 y11 y12
   unfold capstanref11_Whom.l0
   repeat' first
   | (with_reducible exact ih0 _ _ _ _ _ _)
   | (with_reducible exact ih1 _ _ _ _ _ _ _ _ _ _ _ _ _)
   | (with_reducible exact ih2 _ _ _ _ _ _ _ _ _ _ _ _ _ _)
   | (with_reducible exact capstanref11_calls.mono _ _ _ _ _ _ _ _ _ _)
   | (with_reducible exact LeO.refl _)
   | (with_reducible exact LeO.none _)
   | (with_reducible refine LeO.ite ?_ ?_)
   | (with_reducible refine LeO.bind ?_ (fun _ => ?_))
   | exact ih0 _ _ _ _ _ _
   | exact ih1 _ _ _ _ _ _ _ _ _ _ _ _ _
   | exact ih2 _ _ _ _ _ _ _ _ _ _ _ _ _ _
   | exact capstanref11_calls.mono _ _ _ _ _ _ _ _ _ _
   | exact LeO.none _
   | refine LeO.ite ?_ ?_
   | refine LeO.bind ?_ (fun _ => ?_)
  ·
   intro y0 y1 y2 y3 y4 y5 y6 y7 y8 y9 y10 y11 y12 y13
   unfold capstanref11_Whom.l1
   repeat' first
   | (with_reducible exact ih0 _ _ _ _ _ _)
   | (with_reducible exact ih1 _ _ _ _ _ _ _ _ _ _ _ _ _)
   | (with_reducible exact ih2 _ _ _ _ _ _ _ _ _ _ _ _ _ _)
   | (with_reducible exact capstanref11_calls.mono _ _ _ _ _ _ _ _ _ _)
   | (with_reducible exact LeO.refl _)
   | (with_reducible exact LeO.none _)
   | (with_reducible refine LeO.ite ?_ ?_)
   | (with_reducible refine LeO.bind ?_ (fun _ => ?_))
   | exact ih0 _ _ _ _ _ _
   | exact ih1 _ _ _ _ _ _ _ _ _ _ _ _ _
   | exact ih2 _ _ _ _ _ _ _ _ _ _ _ _ _ _
   | exact capstanref11_calls.mono _ _ _ _ _ _ _ _ _ _
   | exact LeO.none _
   | refine LeO.ite ?_ ?_
   | refine LeO.bind ?_ (fun _ => ?_)
theorem capstanref11_Whom.mono : ∀ a0 a1 a2 a3 a4 k, LeO (capstanref11_Whom.f k a0 a1 a2 a3 a4) (capstanref11_Whom.f (k + 1) a0 a1 a2 a3 a4) := by
 intro a0 a1 a2 a3 a4 k
 obtain ⟨ih0, ih1, ih2⟩ := capstanref11_Whom.mono_l k
 unfold capstanref11_Whom.f
 repeat' first
   | (with_reducible exact ih0 _ _ _ _ _ _)
   | (with_reducible exact ih1 _ _ _ _ _ _ _ _ _ _ _ _ _)
   | (with_reducible exact ih2 _ _ _ _ _ _ _ _ _ _ _ _ _ _)
   | (with_reducible exact capstanref11_calls.mono _ _ _ _ _ _ _ _ _ _)
   | (with_reducible exact LeO.refl _)
   | (with_reducible exact LeO.none _)
   | (with_reducible refine LeO.ite ?_ ?_)
   | (with_reducible refine LeO.bind ?_ (fun _ => ?_))
   | exact ih0 _ _ _ _ _ _
   | exact ih1 _ _ _ _ _ _ _ _ _ _ _ _ _
   | exact ih2 _ _ _ _ _ _ _ _ _ _ _ _ _ _
   | exact capstanref11_calls.mono _ _ _ _ _ _ _ _ _ _
   | exact LeO.none _
   | refine LeO.ite ?_ ?_
   | refine LeO.bind ?_ (fun _ => ?_)
set_option maxHeartbeats 8000000 in
set_option maxRecDepth 100000 in
theorem capstanref11_Whom.calls (k : Nat) (A0_0 : Option Addr) (c0_0 : Nat) (l0_0 : List (S86)) (A0_1 : Option Addr) (c0_1 : Nat) (l0_1 : List (S86)) (A0_2 : Option Addr) (c0_2 : Nat) (l0_2 : List (S52)) (a0_3 : Int) (a1 : Int) (r1 : List Int) (r2 : Int) (w : World) (hr0_0 : Kd.C k86 w A0_0 l0_0.length l0_0) (hc0_0 : l0_0.length ≤ c0_0) (hr0_1 : Kd.C k86 w A0_1 l0_1.length l0_1) (hc0_1 : l0_1.length ≤ c0_1) (hr0_2 : Kd.C k52 w A0_2 l0_2.length l0_2) (hc0_2 : l0_2.length ≤ c0_2) (h : capstanref11_Whom.f k l0_0 l0_1 l0_2 a0_3 a1 = some (r1, r2)) :
  Calls Try.prog 25 #[.agg #[.slice A0_0 l0_0.length c0_0, .slice A0_1 l0_1.length c0_1, .slice A0_2 l0_2.length c0_2, .int .i64 a0_3], .int .i64 a1] w fun e w' => ∃ v0_ : Value, e = .returned (.tuple #[v0_, .int .i64 r2]) ∧ Kd.R (Kd.int .i64) 3 w' w.heap.size (fun _ => True) v0_ r1 ∧ Below w.heap.size w w' := by
 have hu25 := Try.underlying25
 have hu52 := Try.underlying52
 have HR0_0 := Aside0.mk hr0_0
 have HC0_0 := Aside0.mk hc0_0
 clear hr0_0 hc0_0
 have HR0_1 := Aside0.mk hr0_1
 have HC0_1 := Aside0.mk hc0_1
 clear hr0_1 hc0_1
 have HR0_2 := Aside0.mk hr0_2
 have HC0_2 := Aside0.mk hc0_2
 clear hr0_2 hc0_2
 have HB := Aside0.mk (Below.refl w.heap.size w)
 have H : (if a1 < 0 then (capstanref11_Whom.j0 k a1 true l0_0 l0_1 l0_2 a0_3) else (capstanref11_Whom.j0 k a1 (decide (a1 ≥ (l0_2.length : Int))) l0_0 l0_1 l0_2 a0_3)) = some (r1, r2) := h
 clear h
 have HC3 := Aside0.mk H
 clear H
 go_enter Try.func25, Try.ntmps25
 go_upto_region 1 with (first | ((with_reducible refine gate_dst (N := 2) rfl ?_); (try (refine gate_guard (by rfl) ?_; dsimp only)); refine box_event ?hg (N := 2) ?hd (cs := #[.slice A0_0 l0_0.length c0_0, .slice A0_1 l0_1.length c0_1, .slice A0_2 l0_2.length c0_2, .int .i64 a0_3]) (t := 25) ?hr ?_; (case hd => rfl); (case hg => rfl); (case hr => first | (go_simp; done) | (go_simp; rfl)); intro gb164 hg w4 hbox hb; have n0_ := Aside0.mk (below_step (au1) hb); have n1_ := Aside0.mk (hbox); have n2_ := Aside0.mk ((au37 : w.heap.size ≤ gb164)); have n3_ := Aside0.mk ((au37 : w.heap.size ≤ gb164)); clear HB; have HB := n0_; have BK164 := n1_; have GW164 := n2_; have GE164 := n3_; clear n0_ n1_ n2_ n3_; clear hb hbox hg))
 repeat (go_quiet (first | ((with_reducible refine gate_dst (N := 2) rfl ?_); (try (refine gate_guard (by rfl) ?_; dsimp only)); refine box_event ?hg (N := 2) ?hd (cs := #[.slice A0_0 l0_0.length c0_0, .slice A0_1 l0_1.length c0_1, .slice A0_2 l0_2.length c0_2, .int .i64 a0_3]) (t := 25) ?hr ?_; (case hd => rfl); (case hg => rfl); (case hr => first | (go_simp; done) | (go_simp; rfl)); intro gb164 hg w4 hbox hb; have n0_ := Aside0.mk (below_step (au1) hb); have n1_ := Aside0.mk (hbox); have n2_ := Aside0.mk ((au37 : w.heap.size ≤ gb164)); have n3_ := Aside0.mk ((au37 : w.heap.size ≤ gb164)); clear HB; have HB := n0_; have BK164 := n1_; have GW164 := n2_; have GE164 := n3_; clear n0_ n1_ n2_ n3_; clear hb hbox hg)); go_upto_region 1 with (first | ((with_reducible refine gate_dst (N := 2) rfl ?_); (try (refine gate_guard (by rfl) ?_; dsimp only)); refine box_event ?hg (N := 2) ?hd (cs := #[.slice A0_0 l0_0.length c0_0, .slice A0_1 l0_1.length c0_1, .slice A0_2 l0_2.length c0_2, .int .i64 a0_3]) (t := 25) ?hr ?_; (case hd => rfl); (case hg => rfl); (case hr => first | (go_simp; done) | (go_simp; rfl)); intro gb164 hg w4 hbox hb; have n0_ := Aside0.mk (below_step (au1) hb); have n1_ := Aside0.mk (hbox); have n2_ := Aside0.mk ((au37 : w.heap.size ≤ gb164)); have n3_ := Aside0.mk ((au37 : w.heap.size ≤ gb164)); clear HB; have HB := n0_; have BK164 := n1_; have GW164 := n2_; have GE164 := n3_; clear n0_ n1_ n2_ n3_; clear hb hbox hg)))
 (try simp only [Act.put, List.setIfInBounds_toArray, List.set_cons_zero, List.set_cons_succ])
 go_cut [18] (fun v18 wc => ∃ (kq : Nat) (x18_2 : Bool), v18 = .bool x18_2 ∧ Aside0 (capstanref11_Whom.j0 kq a1 x18_2 l0_0 l0_1 l0_2 a0_3 = some (r1, r2)) ∧ Aside0 (kq ≤ k) ∧ Aside0 (wc.heap[gb164]? = some (.cells #[(.slice A0_0 l0_0.length c0_0), (.slice A0_1 l0_1.length c0_1), (.slice A0_2 l0_2.length c0_2), .int .i64 a0_3] 25 (0, 0))) ∧ Aside0 (Below w.heap.size w wc))
 case first =>
  have H := HC3.out
  clear HC3
  by_cases c5 : a1 < 0
  ·
   rw [if_pos c5] at H
   have c5b0 : decide (a1 < 0) = true := decide_eq_true c5
   clear c5
   (first | rw [c5b0] | (simp only [i64_w, i32_w]; rw [c5b0]) | skip)
   have H' := Aside0.mk H
   clear H
   go_wp2
   repeat (go_quiet (fail); try go_wp2)
   go_meet
   case rel => exact ⟨_, (true), (au18), H', ⟨au104⟩, ⟨au23⟩, ⟨au26⟩⟩
  ·
   rw [if_neg c5] at H
   have c5b0 : decide (a1 < 0) = false := decide_eq_false c5
   clear c5
   (first | rw [c5b0] | (simp only [i64_w, i32_w]; rw [c5b0]) | skip)
   have H' := Aside0.mk H
   clear H
   obtain ⟨hcz6_0, hcz6_1, hcz6_2, hcz6_3, hfz6_0, hfz6_1, hfz6_2, hfz6_3⟩ := blk_all4 BK164.out
   go_wp2
   repeat (go_quiet (fail); try go_wp2)
   go_meet
   case rel => exact ⟨_, (decide (a1 ≥ (l0_2.length : Int))), (au18), H', ⟨au104⟩, ⟨au23⟩, ⟨au26⟩⟩
 case rest =>
  clear HC3
  try clear c2
  try clear p2
  try clear c5
  try clear c5b0
  try clear hcz6_0
  try clear hcz6_1
  try clear hcz6_2
  try clear hcz6_3
  try clear hfz6_0
  try clear hfz6_1
  try clear hfz6_2
  try clear hfz6_3
  obtain ⟨kq, x18_2, rfl, HA, HJ2, BK164, HB⟩ := hcut
  cases kq with
  | zero => exact absurd HA.out (by simp [capstanref11_Whom.j0])
  | succ kj2 =>
   have H := HA.out
   clear HA
   simp only [capstanref11_Whom.j0] at H
   by_cases c7 : x18_2 = true
   ·
    subst c7
    have H1 : (some (([] : List Int), 2)) = some (r1, r2) := by rw [if_pos rfl] at H; exact H
    clear H
    have H := H1
    clear H1
    simp only [Option.some.injEq, Prod.mk.injEq] at H
    obtain ⟨rfl, rfl⟩ := H
    go_wp2
    repeat (go_quiet (fail); try go_wp2)
    go_ret2
    exact ⟨_, au19, au45, au26⟩
   ·
    replace c7 := Bool.eq_false_iff.mpr c7
    subst c7
    have H1 : (if 0 ≤ a1 then (if a1 < (l0_2.length : Int) then (capstanref11_Whom.l0 kj2 0 l0_0 l0_1 l0_2 a0_3 ((rd_T52 l0_2 a1).f0) ((rd_T52 l0_2 a1).f1) ((rd_T52 l0_2 a1).f2) ((rd_T52 l0_2 a1).f3) ((rd_T52 l0_2 a1).f4) ((rd_T52 l0_2 a1).f5) ((rd_T52 l0_2 a1).f6) ((rd_T52 l0_2 a1).f7)) else (none)) else (none)) = some (r1, r2) := by rw [if_neg (show ¬ (false = true) by decide)] at H; exact H
    clear H
    have H := H1
    clear H1
    by_cases c8 : 0 ≤ a1
    ·
     rw [if_pos c8] at H
     have c8b0 : decide (0 ≤ a1) = true := decide_eq_true c8
     clear c8
     by_cases c9 : a1 < (l0_2.length : Int)
     ·
      rw [if_pos c9] at H
      have c9b0 : decide (a1 < (l0_2.length : Int)) = true := decide_eq_true c9
      clear c9
      have H' := Aside0.mk H
      clear H
      obtain ⟨hcz10_0, hcz10_1, hcz10_2, hcz10_3, hfz10_0, hfz10_1, hfz10_2, hfz10_3⟩ := blk_all4 BK164.out
      have p165 : 0 ≤ (a1 : Int) := of_decide_eq_true (au3)
      have q165 : a1 < (l0_2.length : Int) := of_decide_eq_true (au3)
      obtain ⟨ad165, A165_0, c165_0, A165_1, c165_1, A165_7, c165_7, e165, hx165_0, hx165_1, hx165_2, hx165_3, hx165_4, hx165_5, hx165_6, hx165_7, hl165_0, hi165_0, hl165_1, hi165_1, hl165_7, hi165_7⟩ := at_T52 HR0_2.out a1 p165 q165
      cases e165
      replace hx165_0 := (HB.out.cell (World.block_lt_of_cell? w _ hx165_0)).trans hx165_0
      replace hx165_1 := (HB.out.cell (World.block_lt_of_cell? w _ hx165_1)).trans hx165_1
      replace hx165_2 := (HB.out.cell (World.block_lt_of_cell? w _ hx165_2)).trans hx165_2
      replace hx165_3 := (HB.out.cell (World.block_lt_of_cell? w _ hx165_3)).trans hx165_3
      replace hx165_4 := (HB.out.cell (World.block_lt_of_cell? w _ hx165_4)).trans hx165_4
      replace hx165_5 := (HB.out.cell (World.block_lt_of_cell? w _ hx165_5)).trans hx165_5
      replace hx165_6 := (HB.out.cell (World.block_lt_of_cell? w _ hx165_6)).trans hx165_6
      replace hx165_7 := (HB.out.cell (World.block_lt_of_cell? w _ hx165_7)).trans hx165_7
      have HR165_0 := Aside0.mk hi165_0
      have HC165_0 := Aside0.mk hl165_0
      clear hi165_0 hl165_0
      have HR165_1 := Aside0.mk hi165_1
      have HC165_1 := Aside0.mk hl165_1
      clear hi165_1 hl165_1
      have HR165_7 := Aside0.mk hi165_7
      have HC165_7 := Aside0.mk hl165_7
      clear hi165_7 hl165_7
      replace p165 := eq_true p165
      replace q165 := eq_true q165
      go_wp2_with (first | ((with_reducible refine gate_dst (N := 6) rfl ?_); (try (refine gate_guard (by rfl) ?_; dsimp only)); refine box_event ?hg (N := 6) ?hd (cs := #[.slice none 0 0, .slice none 0 0, .int .u8 0, .bool false, .int .i64 0, .int .i64 0, .int .i64 0, .slice none 0 0]) (t := 52) ?hr ?_; (case hd => rfl); (case hg => rfl); (case hr => first | (go_simp; done) | (go_simp; rfl)); intro gb166 hg w11 hbox hb; have n0_ := Aside0.mk (blk_below (g := gb164) (o := .cells #[.slice A0_0 l0_0.length c0_0, .slice A0_1 l0_1.length c0_1, .slice (some ad165) l0_2.length c0_2, .int .i64 a0_3] 25 (0, 0)) (au23) hb); have n1_ := Aside0.mk (below_step (au26) hb); have n2_ := Aside0.mk (hbox); have n3_ := Aside0.mk ((by rw [hg]; exact (below_size (au26)) : w.heap.size ≤ gb166)); have n4_ := Aside0.mk ((by rw [hg]; exact (below_size (au26)) : w.heap.size ≤ gb166)); have n5_ := Aside0.mk ((au90 : gb164 ≠ gb166)); have n6_ := Aside0.mk ((au91 : gb166 ≠ gb164)); clear BK164; clear HB; have BK164 := n0_; have HB := n1_; have BK166 := n2_; have GW166 := n3_; have GE166 := n4_; have NB164_166 := n5_; have NB166_164 := n6_; clear n0_ n1_ n2_ n3_ n4_ n5_ n6_; clear hb hbox hg; have hnb12 := NB166_164.out; have hnc12 := NB164_166.out; obtain ⟨hcz13_0, hcz13_1, hcz13_2, hcz13_3, hcz13_4, hcz13_5, hcz13_6, hcz13_7, hfz13_0, hfz13_1, hfz13_2, hfz13_3, hfz13_4, hfz13_5, hfz13_6, hfz13_7⟩ := blk_all8 BK166.out))
      repeat (go_quiet (first | ((with_reducible refine gate_dst (N := 6) rfl ?_); (try (refine gate_guard (by rfl) ?_; dsimp only)); refine box_event ?hg (N := 6) ?hd (cs := #[.slice none 0 0, .slice none 0 0, .int .u8 0, .bool false, .int .i64 0, .int .i64 0, .int .i64 0, .slice none 0 0]) (t := 52) ?hr ?_; (case hd => rfl); (case hg => rfl); (case hr => first | (go_simp; done) | (go_simp; rfl)); intro gb166 hg w11 hbox hb; have n0_ := Aside0.mk (blk_below (g := gb164) (o := .cells #[.slice A0_0 l0_0.length c0_0, .slice A0_1 l0_1.length c0_1, .slice (some ad165) l0_2.length c0_2, .int .i64 a0_3] 25 (0, 0)) (au23) hb); have n1_ := Aside0.mk (below_step (au26) hb); have n2_ := Aside0.mk (hbox); have n3_ := Aside0.mk ((by rw [hg]; exact (below_size (au26)) : w.heap.size ≤ gb166)); have n4_ := Aside0.mk ((by rw [hg]; exact (below_size (au26)) : w.heap.size ≤ gb166)); have n5_ := Aside0.mk ((au90 : gb164 ≠ gb166)); have n6_ := Aside0.mk ((au91 : gb166 ≠ gb164)); clear BK164; clear HB; have BK164 := n0_; have HB := n1_; have BK166 := n2_; have GW166 := n3_; have GE166 := n4_; have NB164_166 := n5_; have NB166_164 := n6_; clear n0_ n1_ n2_ n3_ n4_ n5_ n6_; clear hb hbox hg; have hnb12 := NB166_164.out; have hnc12 := NB164_166.out; obtain ⟨hcz13_0, hcz13_1, hcz13_2, hcz13_3, hcz13_4, hcz13_5, hcz13_6, hcz13_7, hfz13_0, hfz13_1, hfz13_2, hfz13_3, hfz13_4, hfz13_5, hfz13_6, hfz13_7⟩ := blk_all8 BK166.out)); try go_wp2_with (first | ((with_reducible refine gate_dst (N := 6) rfl ?_); (try (refine gate_guard (by rfl) ?_; dsimp only)); refine box_event ?hg (N := 6) ?hd (cs := #[.slice none 0 0, .slice none 0 0, .int .u8 0, .bool false, .int .i64 0, .int .i64 0, .int .i64 0, .slice none 0 0]) (t := 52) ?hr ?_; (case hd => rfl); (case hg => rfl); (case hr => first | (go_simp; done) | (go_simp; rfl)); intro gb166 hg w11 hbox hb; have n0_ := Aside0.mk (blk_below (g := gb164) (o := .cells #[.slice A0_0 l0_0.length c0_0, .slice A0_1 l0_1.length c0_1, .slice (some ad165) l0_2.length c0_2, .int .i64 a0_3] 25 (0, 0)) (au23) hb); have n1_ := Aside0.mk (below_step (au26) hb); have n2_ := Aside0.mk (hbox); have n3_ := Aside0.mk ((by rw [hg]; exact (below_size (au26)) : w.heap.size ≤ gb166)); have n4_ := Aside0.mk ((by rw [hg]; exact (below_size (au26)) : w.heap.size ≤ gb166)); have n5_ := Aside0.mk ((au90 : gb164 ≠ gb166)); have n6_ := Aside0.mk ((au91 : gb166 ≠ gb164)); clear BK164; clear HB; have BK164 := n0_; have HB := n1_; have BK166 := n2_; have GW166 := n3_; have GE166 := n4_; have NB164_166 := n5_; have NB166_164 := n6_; clear n0_ n1_ n2_ n3_ n4_ n5_ n6_; clear hb hbox hg; have hnb12 := NB166_164.out; have hnc12 := NB164_166.out; obtain ⟨hcz13_0, hcz13_1, hcz13_2, hcz13_3, hcz13_4, hcz13_5, hcz13_6, hcz13_7, hfz13_0, hfz13_1, hfz13_2, hfz13_3, hfz13_4, hfz13_5, hfz13_6, hfz13_7⟩ := blk_all8 BK166.out)))
      go_loopg [7] kj2 (fun kq v7 w' => ∃ (x7_2 : Int), v7 = .int .i64 x7_2 ∧ Aside0 (capstanref11_Whom.l0 kq x7_2 l0_0 l0_1 l0_2 a0_3 ((rd_T52 l0_2 a1).f0) ((rd_T52 l0_2 a1).f1) ((rd_T52 l0_2 a1).f2) ((rd_T52 l0_2 a1).f3) ((rd_T52 l0_2 a1).f4) ((rd_T52 l0_2 a1).f5) ((rd_T52 l0_2 a1).f6) ((rd_T52 l0_2 a1).f7) = some (r1, r2)) ∧ Aside0 (kq ≤ kj2) ∧ Aside0 (w'.heap[gb164]? = some (.cells #[(.slice A0_0 l0_0.length c0_0), (.slice A0_1 l0_1.length c0_1), (.slice (some ad165) l0_2.length c0_2), .int .i64 a0_3] 25 (0, 0))) ∧ Aside0 (w'.heap[gb166]? = some (.cells #[(.slice A165_0 ((rd_T52 l0_2 a1).f0).length c165_0), (.slice A165_1 ((rd_T52 l0_2 a1).f1).length c165_1), .int .u8 ((rd_T52 l0_2 a1).f2), .bool ((rd_T52 l0_2 a1).f3), .int .i64 ((rd_T52 l0_2 a1).f4), .int .i64 ((rd_T52 l0_2 a1).f5), .int .i64 ((rd_T52 l0_2 a1).f6), (.slice A165_7 ((rd_T52 l0_2 a1).f7).length c165_7)] 52 (0, 0))) ∧ Aside0 (Below w.heap.size w w'))
      case atStart => exact ⟨(0), (au18), H', ⟨Nat.le_refl _⟩, ⟨by (with_reducible repeat (first | refine blk_drewN ?_ _ | refine blk_drew ?_ | refine blk_alloc ?_ _)); refine blk_far ?_ NB164_166.out _; (with_reducible repeat (first | refine blk_drewN ?_ _ | refine blk_drew ?_ | refine blk_alloc ?_ _)); refine blk_far ?_ NB164_166.out _; (with_reducible repeat (first | refine blk_drewN ?_ _ | refine blk_drew ?_ | refine blk_alloc ?_ _)); refine blk_far ?_ NB164_166.out _; (with_reducible repeat (first | refine blk_drewN ?_ _ | refine blk_drew ?_ | refine blk_alloc ?_ _)); refine blk_far ?_ NB164_166.out _; (with_reducible repeat (first | refine blk_drewN ?_ _ | refine blk_drew ?_ | refine blk_alloc ?_ _)); refine blk_far ?_ NB164_166.out _; (with_reducible repeat (first | refine blk_drewN ?_ _ | refine blk_drew ?_ | refine blk_alloc ?_ _)); refine blk_far ?_ NB164_166.out _; (with_reducible repeat (first | refine blk_drewN ?_ _ | refine blk_drew ?_ | refine blk_alloc ?_ _)); refine blk_far ?_ NB164_166.out _; (with_reducible repeat (first | refine blk_drewN ?_ _ | refine blk_drew ?_ | refine blk_alloc ?_ _)); refine blk_far ?_ NB164_166.out _; (with_reducible repeat (first | refine blk_drewN ?_ _ | refine blk_drew ?_ | refine blk_alloc ?_ _)); exact BK164.out⟩, ⟨by (with_reducible repeat (first | refine blk_drewN ?_ _ | refine blk_drew ?_ | refine blk_alloc ?_ _)); refine blk_put (cs := #[.slice A165_0 ((rd_T52 l0_2 a1).f0).length c165_0, .slice A165_1 ((rd_T52 l0_2 a1).f1).length c165_1, .int .u8 ((rd_T52 l0_2 a1).f2), .bool ((rd_T52 l0_2 a1).f3), .int .i64 ((rd_T52 l0_2 a1).f4), .int .i64 ((rd_T52 l0_2 a1).f5), .int .i64 ((rd_T52 l0_2 a1).f6), .slice none 0 0]) ?_ 7 _ rfl; (with_reducible repeat (first | refine blk_drewN ?_ _ | refine blk_drew ?_ | refine blk_alloc ?_ _)); refine blk_put (cs := #[.slice A165_0 ((rd_T52 l0_2 a1).f0).length c165_0, .slice A165_1 ((rd_T52 l0_2 a1).f1).length c165_1, .int .u8 ((rd_T52 l0_2 a1).f2), .bool ((rd_T52 l0_2 a1).f3), .int .i64 ((rd_T52 l0_2 a1).f4), .int .i64 ((rd_T52 l0_2 a1).f5), .int .i64 0, .slice none 0 0]) ?_ 6 _ rfl; (with_reducible repeat (first | refine blk_drewN ?_ _ | refine blk_drew ?_ | refine blk_alloc ?_ _)); refine blk_put (cs := #[.slice A165_0 ((rd_T52 l0_2 a1).f0).length c165_0, .slice A165_1 ((rd_T52 l0_2 a1).f1).length c165_1, .int .u8 ((rd_T52 l0_2 a1).f2), .bool ((rd_T52 l0_2 a1).f3), .int .i64 ((rd_T52 l0_2 a1).f4), .int .i64 0, .int .i64 0, .slice none 0 0]) ?_ 5 _ rfl; (with_reducible repeat (first | refine blk_drewN ?_ _ | refine blk_drew ?_ | refine blk_alloc ?_ _)); refine blk_put (cs := #[.slice A165_0 ((rd_T52 l0_2 a1).f0).length c165_0, .slice A165_1 ((rd_T52 l0_2 a1).f1).length c165_1, .int .u8 ((rd_T52 l0_2 a1).f2), .bool ((rd_T52 l0_2 a1).f3), .int .i64 0, .int .i64 0, .int .i64 0, .slice none 0 0]) ?_ 4 _ rfl; (with_reducible repeat (first | refine blk_drewN ?_ _ | refine blk_drew ?_ | refine blk_alloc ?_ _)); refine blk_put (cs := #[.slice A165_0 ((rd_T52 l0_2 a1).f0).length c165_0, .slice A165_1 ((rd_T52 l0_2 a1).f1).length c165_1, .int .u8 ((rd_T52 l0_2 a1).f2), .bool false, .int .i64 0, .int .i64 0, .int .i64 0, .slice none 0 0]) ?_ 3 _ rfl; (with_reducible repeat (first | refine blk_drewN ?_ _ | refine blk_drew ?_ | refine blk_alloc ?_ _)); refine blk_put (cs := #[.slice A165_0 ((rd_T52 l0_2 a1).f0).length c165_0, .slice A165_1 ((rd_T52 l0_2 a1).f1).length c165_1, .int .u8 0, .bool false, .int .i64 0, .int .i64 0, .int .i64 0, .slice none 0 0]) ?_ 2 _ rfl; (with_reducible repeat (first | refine blk_drewN ?_ _ | refine blk_drew ?_ | refine blk_alloc ?_ _)); refine blk_put (cs := #[.slice A165_0 ((rd_T52 l0_2 a1).f0).length c165_0, .slice none 0 0, .int .u8 0, .bool false, .int .i64 0, .int .i64 0, .int .i64 0, .slice none 0 0]) ?_ 1 _ rfl; (with_reducible repeat (first | refine blk_drewN ?_ _ | refine blk_drew ?_ | refine blk_alloc ?_ _)); refine blk_put (cs := #[.slice none 0 0, .slice none 0 0, .int .u8 0, .bool false, .int .i64 0, .int .i64 0, .int .i64 0, .slice none 0 0]) ?_ 0 _ rfl; (with_reducible repeat (first | refine blk_drewN ?_ _ | refine blk_drew ?_ | refine blk_alloc ?_ _)); exact BK166.out⟩, ⟨au10⟩⟩
      case round =>
       clear H'
       try clear c1
       try clear p1
       try clear q1
       try clear hx1
       try clear c2
       try clear p2
       try clear c5
       try clear c5b0
       try clear c7
       try clear c8
       try clear c8b0
       try clear c9
       try clear c9b0
       try clear c12
       try clear hcz10_0
       try clear hcz10_1
       try clear hcz10_2
       try clear hcz10_3
       try clear hcz13_0
       try clear hcz13_1
       try clear hcz13_2
       try clear hcz13_3
       try clear hcz13_4
       try clear hcz13_5
       try clear hcz13_6
       try clear hcz13_7
       try clear hcz6_0
       try clear hcz6_1
       try clear hcz6_2
       try clear hcz6_3
       try clear hfz10_0
       try clear hfz10_1
       try clear hfz10_2
       try clear hfz10_3
       try clear hfz13_0
       try clear hfz13_1
       try clear hfz13_2
       try clear hfz13_3
       try clear hfz13_4
       try clear hfz13_5
       try clear hfz13_6
       try clear hfz13_7
       try clear hfz6_0
       try clear hfz6_1
       try clear hfz6_2
       try clear hfz6_3
       try clear hx165_0
       try clear hx165_1
       try clear hx165_2
       try clear hx165_3
       try clear hx165_4
       try clear hx165_5
       try clear hx165_6
       try clear hx165_7
       try clear p165
       try clear p2
       try clear q165
       obtain ⟨x7_2, rfl, HA, HK2, BK164, BK166, HB⟩ := hrel
       cases gk with
       | zero => exact absurd HA.out (by simp [capstanref11_Whom.l0])
       | succ k2 =>
        have H := HA.out
        clear HA
        simp only [capstanref11_Whom.l0] at H
        by_cases c14 : x7_2 < (((rd_T52 l0_2 a1).f7).length : Int)
        ·
         rw [if_pos c14] at H
         have c14b0 : decide (x7_2 < (((rd_T52 l0_2 a1).f7).length : Int)) = true := decide_eq_true c14
         clear c14
         by_cases c15 : 0 ≤ x7_2
         ·
          rw [if_pos c15] at H
          have c15b0 : decide (0 ≤ x7_2) = true := decide_eq_true c15
          clear c15
          by_cases c16 : ((rd_T70 ((rd_T52 l0_2 a1).f7) x7_2).f0) = 30
          ·
           rw [if_pos c16] at H
           have c16b0 : (((rd_T70 ((rd_T52 l0_2 a1).f7) x7_2).f0) == 30) = true := beq_iff_eq.mpr c16
           have c16b1 : (((rd_T70 ((rd_T52 l0_2 a1).f7) x7_2).f0) != 30) = false := bne_eq_false_iff_eq.mpr c16
           clear c16
           by_cases c17 : ((rd_T70 ((rd_T52 l0_2 a1).f7) x7_2).f1) < 0
           ·
            rw [if_pos c17] at H
            have c17b0 : decide (((rd_T70 ((rd_T52 l0_2 a1).f7) x7_2).f1) < 0) = true := decide_eq_true c17
            clear c17
            simp only [Option.some.injEq, Prod.mk.injEq] at H
            obtain ⟨rfl, rfl⟩ := H
            have hnb18 := NB166_164.out
            have hnc18 := NB164_166.out
            obtain ⟨hcz19_0, hcz19_1, hcz19_2, hcz19_3, hcz19_4, hcz19_5, hcz19_6, hcz19_7, hfz19_0, hfz19_1, hfz19_2, hfz19_3, hfz19_4, hfz19_5, hfz19_6, hfz19_7⟩ := blk_all8 BK166.out
            have p167 : 0 ≤ (x7_2 : Int) := of_decide_eq_true (au3)
            have q167 : x7_2 < (((rd_T52 l0_2 a1).f7).length : Int) := of_decide_eq_true (au3)
            obtain ⟨ad167, e167, hx167_0, hx167_1, hx167_2⟩ := at_T70 HR165_7.out x7_2 p167 q167
            cases e167
            replace hx167_0 := (HB.out.cell (World.block_lt_of_cell? w _ hx167_0)).trans hx167_0
            replace hx167_1 := (HB.out.cell (World.block_lt_of_cell? w _ hx167_1)).trans hx167_1
            replace hx167_2 := (HB.out.cell (World.block_lt_of_cell? w _ hx167_2)).trans hx167_2
            replace p167 := eq_true p167
            replace q167 := eq_true q167
            have p168 : 0 ≤ (x7_2 : Int) := of_decide_eq_true (au3)
            have q168 : x7_2 < (((rd_T52 l0_2 a1).f7).length : Int) := of_decide_eq_true (au3)
            obtain ⟨ad168, e168, hx168_0, hx168_1, hx168_2⟩ := at_T70 HR165_7.out x7_2 p168 q168
            obtain rfl : ad167 = ad168 := (by injection e168)
            replace hx168_0 := (HB.out.cell (World.block_lt_of_cell? w _ hx168_0)).trans hx168_0
            replace hx168_1 := (HB.out.cell (World.block_lt_of_cell? w _ hx168_1)).trans hx168_1
            replace hx168_2 := (HB.out.cell (World.block_lt_of_cell? w _ hx168_2)).trans hx168_2
            replace p168 := eq_true p168
            replace q168 := eq_true q168
            go_wp2
            repeat (go_quiet (fail); try go_wp2)
            go_ret2
            exact ⟨_, au19, au45, au10⟩
           ·
            rw [if_neg c17] at H
            have c17b0 : decide (((rd_T70 ((rd_T52 l0_2 a1).f7) x7_2).f1) < 0) = false := decide_eq_false c17
            clear c17
            by_cases c20 : ((rd_T70 ((rd_T52 l0_2 a1).f7) x7_2).f1) ≥ (l0_2.length : Int)
            ·
             rw [if_pos c20] at H
             have c20b0 : decide ((l0_2.length : Int) ≤ ((rd_T70 ((rd_T52 l0_2 a1).f7) x7_2).f1)) = true := decide_eq_true c20
             clear c20
             simp only [Option.some.injEq, Prod.mk.injEq] at H
             obtain ⟨rfl, rfl⟩ := H
             have hnb21 := NB166_164.out
             have hnc21 := NB164_166.out
             obtain ⟨hcz22_0, hcz22_1, hcz22_2, hcz22_3, hcz22_4, hcz22_5, hcz22_6, hcz22_7, hfz22_0, hfz22_1, hfz22_2, hfz22_3, hfz22_4, hfz22_5, hfz22_6, hfz22_7⟩ := blk_all8 BK166.out
             have p167 : 0 ≤ (x7_2 : Int) := of_decide_eq_true (au3)
             have q167 : x7_2 < (((rd_T52 l0_2 a1).f7).length : Int) := of_decide_eq_true (au3)
             obtain ⟨ad167, e167, hx167_0, hx167_1, hx167_2⟩ := at_T70 HR165_7.out x7_2 p167 q167
             cases e167
             replace hx167_0 := (HB.out.cell (World.block_lt_of_cell? w _ hx167_0)).trans hx167_0
             replace hx167_1 := (HB.out.cell (World.block_lt_of_cell? w _ hx167_1)).trans hx167_1
             replace hx167_2 := (HB.out.cell (World.block_lt_of_cell? w _ hx167_2)).trans hx167_2
             replace p167 := eq_true p167
             replace q167 := eq_true q167
             have p168 : 0 ≤ (x7_2 : Int) := of_decide_eq_true (au3)
             have q168 : x7_2 < (((rd_T52 l0_2 a1).f7).length : Int) := of_decide_eq_true (au3)
             obtain ⟨ad168, e168, hx168_0, hx168_1, hx168_2⟩ := at_T70 HR165_7.out x7_2 p168 q168
             obtain rfl : ad167 = ad168 := (by injection e168)
             replace hx168_0 := (HB.out.cell (World.block_lt_of_cell? w _ hx168_0)).trans hx168_0
             replace hx168_1 := (HB.out.cell (World.block_lt_of_cell? w _ hx168_1)).trans hx168_1
             replace hx168_2 := (HB.out.cell (World.block_lt_of_cell? w _ hx168_2)).trans hx168_2
             replace p168 := eq_true p168
             replace q168 := eq_true q168
             have p169 : 0 ≤ (x7_2 : Int) := of_decide_eq_true (au3)
             have q169 : x7_2 < (((rd_T52 l0_2 a1).f7).length : Int) := of_decide_eq_true (au3)
             obtain ⟨ad169, e169, hx169_0, hx169_1, hx169_2⟩ := at_T70 HR165_7.out x7_2 p169 q169
             obtain rfl : ad167 = ad169 := (by injection e169)
             replace hx169_0 := (HB.out.cell (World.block_lt_of_cell? w _ hx169_0)).trans hx169_0
             replace hx169_1 := (HB.out.cell (World.block_lt_of_cell? w _ hx169_1)).trans hx169_1
             replace hx169_2 := (HB.out.cell (World.block_lt_of_cell? w _ hx169_2)).trans hx169_2
             replace p169 := eq_true p169
             replace q169 := eq_true q169
             obtain ⟨hcz23_0, hcz23_1, hcz23_2, hcz23_3, hfz23_0, hfz23_1, hfz23_2, hfz23_3⟩ := blk_all4 BK164.out
             go_wp2
             repeat (go_quiet (fail); try go_wp2)
             go_ret2
             exact ⟨_, au19, au45, au10⟩
            ·
             rw [if_neg c20] at H
             have c20b0 : decide ((l0_2.length : Int) ≤ ((rd_T70 ((rd_T52 l0_2 a1).f7) x7_2).f1)) = false := decide_eq_false c20
             clear c20
             have H' := Aside0.mk H
             clear H
             have hnb24 := NB166_164.out
             have hnc24 := NB164_166.out
             obtain ⟨hcz25_0, hcz25_1, hcz25_2, hcz25_3, hcz25_4, hcz25_5, hcz25_6, hcz25_7, hfz25_0, hfz25_1, hfz25_2, hfz25_3, hfz25_4, hfz25_5, hfz25_6, hfz25_7⟩ := blk_all8 BK166.out
             have p167 : 0 ≤ (x7_2 : Int) := of_decide_eq_true (au3)
             have q167 : x7_2 < (((rd_T52 l0_2 a1).f7).length : Int) := of_decide_eq_true (au3)
             obtain ⟨ad167, e167, hx167_0, hx167_1, hx167_2⟩ := at_T70 HR165_7.out x7_2 p167 q167
             cases e167
             replace hx167_0 := (HB.out.cell (World.block_lt_of_cell? w _ hx167_0)).trans hx167_0
             replace hx167_1 := (HB.out.cell (World.block_lt_of_cell? w _ hx167_1)).trans hx167_1
             replace hx167_2 := (HB.out.cell (World.block_lt_of_cell? w _ hx167_2)).trans hx167_2
             replace p167 := eq_true p167
             replace q167 := eq_true q167
             have p168 : 0 ≤ (x7_2 : Int) := of_decide_eq_true (au3)
             have q168 : x7_2 < (((rd_T52 l0_2 a1).f7).length : Int) := of_decide_eq_true (au3)
             obtain ⟨ad168, e168, hx168_0, hx168_1, hx168_2⟩ := at_T70 HR165_7.out x7_2 p168 q168
             obtain rfl : ad167 = ad168 := (by injection e168)
             replace hx168_0 := (HB.out.cell (World.block_lt_of_cell? w _ hx168_0)).trans hx168_0
             replace hx168_1 := (HB.out.cell (World.block_lt_of_cell? w _ hx168_1)).trans hx168_1
             replace hx168_2 := (HB.out.cell (World.block_lt_of_cell? w _ hx168_2)).trans hx168_2
             replace p168 := eq_true p168
             replace q168 := eq_true q168
             have p169 : 0 ≤ (x7_2 : Int) := of_decide_eq_true (au3)
             have q169 : x7_2 < (((rd_T52 l0_2 a1).f7).length : Int) := of_decide_eq_true (au3)
             obtain ⟨ad169, e169, hx169_0, hx169_1, hx169_2⟩ := at_T70 HR165_7.out x7_2 p169 q169
             obtain rfl : ad167 = ad169 := (by injection e169)
             replace hx169_0 := (HB.out.cell (World.block_lt_of_cell? w _ hx169_0)).trans hx169_0
             replace hx169_1 := (HB.out.cell (World.block_lt_of_cell? w _ hx169_1)).trans hx169_1
             replace hx169_2 := (HB.out.cell (World.block_lt_of_cell? w _ hx169_2)).trans hx169_2
             replace p169 := eq_true p169
             replace q169 := eq_true q169
             obtain ⟨hcz26_0, hcz26_1, hcz26_2, hcz26_3, hfz26_0, hfz26_1, hfz26_2, hfz26_3⟩ := blk_all4 BK164.out
             go_wp2
             repeat (go_quiet (fail); try go_wp2)
             go_roundg k2
             case measure => have := HJ2.out; have := HK2.out; omega
             case rel => exact ⟨(wrap64 (x7_2 + 1)), (au18), H', ⟨by have := HJ2.out; have := HK2.out; omega⟩, ⟨au23⟩, ⟨au40⟩, ⟨au10⟩⟩
          ·
           rw [if_neg c16] at H
           have c16b0 : (((rd_T70 ((rd_T52 l0_2 a1).f7) x7_2).f0) == 30) = false := beq_eq_false_iff_ne.mpr c16
           have c16b1 : (((rd_T70 ((rd_T52 l0_2 a1).f7) x7_2).f0) != 30) = true := bne_iff_ne.mpr c16
           have H' := Aside0.mk H
           clear H
           have hnb27 := NB166_164.out
           have hnc27 := NB164_166.out
           obtain ⟨hcz28_0, hcz28_1, hcz28_2, hcz28_3, hcz28_4, hcz28_5, hcz28_6, hcz28_7, hfz28_0, hfz28_1, hfz28_2, hfz28_3, hfz28_4, hfz28_5, hfz28_6, hfz28_7⟩ := blk_all8 BK166.out
           have p167 : 0 ≤ (x7_2 : Int) := of_decide_eq_true (au3)
           have q167 : x7_2 < (((rd_T52 l0_2 a1).f7).length : Int) := of_decide_eq_true (au3)
           obtain ⟨ad167, e167, hx167_0, hx167_1, hx167_2⟩ := at_T70 HR165_7.out x7_2 p167 q167
           cases e167
           replace hx167_0 := (HB.out.cell (World.block_lt_of_cell? w _ hx167_0)).trans hx167_0
           replace hx167_1 := (HB.out.cell (World.block_lt_of_cell? w _ hx167_1)).trans hx167_1
           replace hx167_2 := (HB.out.cell (World.block_lt_of_cell? w _ hx167_2)).trans hx167_2
           replace p167 := eq_true p167
           replace q167 := eq_true q167
           go_wp2
           repeat (go_quiet (fail); try go_wp2)
           go_roundg k2
           case measure => have := HJ2.out; have := HK2.out; omega
           case rel => exact ⟨(wrap64 (x7_2 + 1)), (au18), H', ⟨by have := HJ2.out; have := HK2.out; omega⟩, ⟨au23⟩, ⟨au40⟩, ⟨au10⟩⟩
         ·
          rw [if_neg c15] at H
          exact absurd H (by simp)
        ·
         rw [if_neg c14] at H
         have c14b0 : decide (x7_2 < (((rd_T52 l0_2 a1).f7).length : Int)) = false := decide_eq_false c14
         clear c14
         have H' := Aside0.mk H
         clear H
         have hnb29 := NB166_164.out
         have hnc29 := NB164_166.out
         obtain ⟨hcz30_0, hcz30_1, hcz30_2, hcz30_3, hcz30_4, hcz30_5, hcz30_6, hcz30_7, hfz30_0, hfz30_1, hfz30_2, hfz30_3, hfz30_4, hfz30_5, hfz30_6, hfz30_7⟩ := blk_all8 BK166.out
         go_wp2
         repeat (go_quiet (fail); try go_wp2)
         go_loopg [8, 9] k2 (fun kq v8 v9 w' => ∃ (x8_3 : List Int) (x9_3 : Int), v9 = .int .i64 x9_3 ∧ Aside0 (capstanref11_Whom.l1 kq x8_3 x9_3 l0_0 l0_1 l0_2 a0_3 ((rd_T52 l0_2 a1).f0) ((rd_T52 l0_2 a1).f1) ((rd_T52 l0_2 a1).f2) ((rd_T52 l0_2 a1).f3) ((rd_T52 l0_2 a1).f4) ((rd_T52 l0_2 a1).f5) ((rd_T52 l0_2 a1).f6) ((rd_T52 l0_2 a1).f7) = some (r1, r2)) ∧ Aside0 (kq ≤ k2) ∧ Aside0 (Kd.R (Kd.int .i64) 3 w' w.heap.size (fun _ => True) v8 x8_3) ∧ Aside0 (w'.heap[gb164]? = some (.cells #[(.slice A0_0 l0_0.length c0_0), (.slice A0_1 l0_1.length c0_1), (.slice (some ad165) l0_2.length c0_2), .int .i64 a0_3] 25 (0, 0))) ∧ Aside0 (w'.heap[gb166]? = some (.cells #[(.slice A165_0 ((rd_T52 l0_2 a1).f0).length c165_0), (.slice A165_1 ((rd_T52 l0_2 a1).f1).length c165_1), .int .u8 ((rd_T52 l0_2 a1).f2), .bool ((rd_T52 l0_2 a1).f3), .int .i64 ((rd_T52 l0_2 a1).f4), .int .i64 ((rd_T52 l0_2 a1).f5), .int .i64 ((rd_T52 l0_2 a1).f6), (.slice A165_7 ((rd_T52 l0_2 a1).f7).length c165_7)] 52 (0, 0))) ∧ Aside0 (Below w.heap.size w w'))
         case atStart => exact ⟨(([] : List Int)), (0), (au18), H', ⟨Nat.le_refl _⟩, ⟨au45⟩, ⟨au23⟩, ⟨au40⟩, ⟨au10⟩⟩
         case round =>
          clear H'
          try clear c1
          try clear p1
          try clear q1
          try clear hx1
          try clear c2
          try clear p2
          try clear c5
          try clear c5b0
          try clear p6
          try clear c7
          try clear c8
          try clear c8b0
          try clear c9
          try clear c9b0
          try clear c12
          try clear c14
          try clear c14b0
          try clear c15
          try clear c15b0
          try clear c16
          try clear c16b0
          try clear c16b1
          try clear p16
          try clear q16
          try clear hx16
          try clear c17
          try clear c17b0
          try clear c18
          try clear c20
          try clear c20b0
          try clear c21
          try clear c24
          try clear c25
          try clear c27
          try clear c29
          try clear hcz10_0
          try clear hcz10_1
          try clear hcz10_2
          try clear hcz10_3
          try clear hcz13_0
          try clear hcz13_1
          try clear hcz13_2
          try clear hcz13_3
          try clear hcz13_4
          try clear hcz13_5
          try clear hcz13_6
          try clear hcz13_7
          try clear hcz19_0
          try clear hcz19_1
          try clear hcz19_2
          try clear hcz19_3
          try clear hcz19_4
          try clear hcz19_5
          try clear hcz19_6
          try clear hcz19_7
          try clear hcz22_0
          try clear hcz22_1
          try clear hcz22_2
          try clear hcz22_3
          try clear hcz22_4
          try clear hcz22_5
          try clear hcz22_6
          try clear hcz22_7
          try clear hcz23_0
          try clear hcz23_1
          try clear hcz23_2
          try clear hcz23_3
          try clear hcz25_0
          try clear hcz25_1
          try clear hcz25_2
          try clear hcz25_3
          try clear hcz25_4
          try clear hcz25_5
          try clear hcz25_6
          try clear hcz25_7
          try clear hcz26_0
          try clear hcz26_1
          try clear hcz26_2
          try clear hcz26_3
          try clear hcz28_0
          try clear hcz28_1
          try clear hcz28_2
          try clear hcz28_3
          try clear hcz28_4
          try clear hcz28_5
          try clear hcz28_6
          try clear hcz28_7
          try clear hcz30_0
          try clear hcz30_1
          try clear hcz30_2
          try clear hcz30_3
          try clear hcz30_4
          try clear hcz30_5
          try clear hcz30_6
          try clear hcz30_7
          try clear hcz6_0
          try clear hcz6_1
          try clear hcz6_2
          try clear hcz6_3
          try clear hfz10_0
          try clear hfz10_1
          try clear hfz10_2
          try clear hfz10_3
          try clear hfz13_0
          try clear hfz13_1
          try clear hfz13_2
          try clear hfz13_3
          try clear hfz13_4
          try clear hfz13_5
          try clear hfz13_6
          try clear hfz13_7
          try clear hfz19_0
          try clear hfz19_1
          try clear hfz19_2
          try clear hfz19_3
          try clear hfz19_4
          try clear hfz19_5
          try clear hfz19_6
          try clear hfz19_7
          try clear hfz22_0
          try clear hfz22_1
          try clear hfz22_2
          try clear hfz22_3
          try clear hfz22_4
          try clear hfz22_5
          try clear hfz22_6
          try clear hfz22_7
          try clear hfz23_0
          try clear hfz23_1
          try clear hfz23_2
          try clear hfz23_3
          try clear hfz25_0
          try clear hfz25_1
          try clear hfz25_2
          try clear hfz25_3
          try clear hfz25_4
          try clear hfz25_5
          try clear hfz25_6
          try clear hfz25_7
          try clear hfz26_0
          try clear hfz26_1
          try clear hfz26_2
          try clear hfz26_3
          try clear hfz28_0
          try clear hfz28_1
          try clear hfz28_2
          try clear hfz28_3
          try clear hfz28_4
          try clear hfz28_5
          try clear hfz28_6
          try clear hfz28_7
          try clear hfz30_0
          try clear hfz30_1
          try clear hfz30_2
          try clear hfz30_3
          try clear hfz30_4
          try clear hfz30_5
          try clear hfz30_6
          try clear hfz30_7
          try clear hfz6_0
          try clear hfz6_1
          try clear hfz6_2
          try clear hfz6_3
          try clear hx165_0
          try clear hx165_1
          try clear hx165_2
          try clear hx165_3
          try clear hx165_4
          try clear hx165_5
          try clear hx165_6
          try clear hx165_7
          try clear hx167_0
          try clear hx167_1
          try clear hx167_2
          try clear hx168_0
          try clear hx168_1
          try clear hx168_2
          try clear hx169_0
          try clear hx169_1
          try clear hx169_2
          try clear p1
          try clear p165
          try clear p167
          try clear p168
          try clear p169
          try clear p2
          try clear q1
          try clear q165
          try clear q167
          try clear q168
          try clear q169
          obtain ⟨x8_3, x9_3, rfl, HA, HK3, HO_8, BK164, BK166, HB⟩ := hrel
          cases gk with
          | zero => exact absurd HA.out (by simp [capstanref11_Whom.l1])
          | succ k3 =>
           have H := HA.out
           clear HA
           simp only [capstanref11_Whom.l1] at H
           by_cases c31 : x9_3 < (l0_2.length : Int)
           ·
            rw [if_pos c31] at H
            have c31b0 : decide (x9_3 < (l0_2.length : Int)) = true := decide_eq_true c31
            clear c31
            replace H := Option.bind_eq_some_iff.mp H
            obtain ⟨t170, A320, H⟩ := H
            replace H : (if t170 = true then (if x8_3.length < 17592186044416 then (capstanref11_Whom.l1 k3 (x8_3 ++ [x9_3]) (wrap64 (x9_3 + 1)) l0_0 l0_1 l0_2 a0_3 ((rd_T52 l0_2 a1).f0) ((rd_T52 l0_2 a1).f1) ((rd_T52 l0_2 a1).f2) ((rd_T52 l0_2 a1).f3) ((rd_T52 l0_2 a1).f4) ((rd_T52 l0_2 a1).f5) ((rd_T52 l0_2 a1).f6) ((rd_T52 l0_2 a1).f7)) else (none)) else (capstanref11_Whom.l1 k3 x8_3 (wrap64 (x9_3 + 1)) l0_0 l0_1 l0_2 a0_3 ((rd_T52 l0_2 a1).f0) ((rd_T52 l0_2 a1).f1) ((rd_T52 l0_2 a1).f2) ((rd_T52 l0_2 a1).f3) ((rd_T52 l0_2 a1).f4) ((rd_T52 l0_2 a1).f5) ((rd_T52 l0_2 a1).f6) ((rd_T52 l0_2 a1).f7))) = some (r1, r2) := H
            have A32 := Aside0.mk A320
            clear A320
            by_cases c33 : t170 = true
            ·
             subst c33
             have H1 : (if x8_3.length < 17592186044416 then (capstanref11_Whom.l1 k3 (x8_3 ++ [x9_3]) (wrap64 (x9_3 + 1)) l0_0 l0_1 l0_2 a0_3 ((rd_T52 l0_2 a1).f0) ((rd_T52 l0_2 a1).f1) ((rd_T52 l0_2 a1).f2) ((rd_T52 l0_2 a1).f3) ((rd_T52 l0_2 a1).f4) ((rd_T52 l0_2 a1).f5) ((rd_T52 l0_2 a1).f6) ((rd_T52 l0_2 a1).f7)) else (none)) = some (r1, r2) := by rw [if_pos rfl] at H; exact H
             clear H
             have H := H1
             clear H1
             by_cases c34 : x8_3.length < 17592186044416
             ·
              rw [if_pos c34] at H
              have LMc34 := Aside0.mk c34
              clear c34
              obtain ⟨y171, hy171⟩ : ∃ y_ : List Int, y_ = (x8_3 ++ [x9_3]) := ⟨_, rfl⟩
              replace H : (capstanref11_Whom.l1 k3 y171 (wrap64 (x9_3 + 1)) l0_0 l0_1 l0_2 a0_3 ((rd_T52 l0_2 a1).f0) ((rd_T52 l0_2 a1).f1) ((rd_T52 l0_2 a1).f2) ((rd_T52 l0_2 a1).f3) ((rd_T52 l0_2 a1).f4) ((rd_T52 l0_2 a1).f5) ((rd_T52 l0_2 a1).f6) ((rd_T52 l0_2 a1).f7)) = some (r1, r2) := by first | (rw [hy171]; with_reducible exact H) | (have H2_ := (Option.bind_some _ _).symm.trans H; rw [hy171]; with_reducible exact H2_) | (have H2_ := (Option.bind_some _ _).symm.trans H; with_reducible exact H2_) | with_reducible exact H | (rw [hy171]; exact H) | exact H
              have Ny171 := Aside0.mk hy171
              clear hy171
              have H' := Aside0.mk H
              clear H
              have hnb35 := NB164_166.out
              have hnc35 := NB166_164.out
              obtain ⟨hcz36_0, hcz36_1, hcz36_2, hcz36_3, hfz36_0, hfz36_1, hfz36_2, hfz36_3⟩ := blk_all4 BK164.out
              obtain ⟨hcz37_0, hcz37_1, hcz37_2, hcz37_3, hcz37_4, hcz37_5, hcz37_6, hcz37_7, hfz37_0, hfz37_1, hfz37_2, hfz37_3, hfz37_4, hfz37_5, hfz37_6, hfz37_7⟩ := blk_all8 BK166.out
              go_wp2_with (first | ((fail_if_success (have h_ := w38)); go_at_call 52; (with_reducible refine (capstanref11_calls.calls k3 _ _ ((rd_T52 l0_2 a1).f0) _ _ ((rd_T52 l0_2 a1).f1) ((rd_T52 l0_2 a1).f2) ((rd_T52 l0_2 a1).f3) ((rd_T52 l0_2 a1).f4) ((rd_T52 l0_2 a1).f5) ((rd_T52 l0_2 a1).f6) _ _ ((rd_T52 l0_2 a1).f7) x9_3 true _ ?side1 ?side2 ?side3 ?side4 ?side5 ?side6 A32.out).mono ?_); (case side1 => exact au55); (case side2 => exact HC165_0.out); (case side3 => exact au56); (case side4 => exact HC165_1.out); (case side5 => exact au57); (case side6 => exact HC165_7.out); rintro e w38 ⟨rfl, hb⟩; have n0_ := Aside0.mk (Kd.R_below (au8) hb); have n1_ := Aside0.mk (blk_below (g := gb164) (o := .cells #[.slice A0_0 l0_0.length c0_0, .slice A0_1 l0_1.length c0_1, .slice (some ad165) l0_2.length c0_2, .int .i64 a0_3] 25 (0, 0)) (au23) hb); have n2_ := Aside0.mk (blk_below (g := gb166) (o := .cells #[.slice A165_0 ((rd_T52 l0_2 a1).f0).length c165_0, .slice A165_1 ((rd_T52 l0_2 a1).f1).length c165_1, .int .u8 ((rd_T52 l0_2 a1).f2), .bool ((rd_T52 l0_2 a1).f3), .int .i64 ((rd_T52 l0_2 a1).f4), .int .i64 ((rd_T52 l0_2 a1).f5), .int .i64 ((rd_T52 l0_2 a1).f6), .slice A165_7 ((rd_T52 l0_2 a1).f7).length c165_7] 52 (0, 0)) (au40) hb); have n3_ := Aside0.mk (below_step (au10) hb); clear HO_8; clear BK164; clear BK166; clear HB; have HO_8 := n0_; have BK164 := n1_; have BK166 := n2_; have HB := n3_; clear n0_ n1_ n2_ n3_; (try clear hb); (try clear hb2); (try clear hk); (try clear hi)) | ((with_reducible refine gate_builtin (b := .append) (xs := #[.tmp 69, .tmp 71]) rfl ?_); (try (refine gate_guard (by rfl) ?_; dsimp only)); at_builtin; refine Kd.R_append (Kd.int .i64) (w0 := w) w.heap.size rfl (.tmp 69) (.tmp 71) 53 3 (.int .i64 0) 8 rfl Try.underlying53 info3 rfl (by decide) (by omega) u8 x8_3 x9_3 [.int .i64 x9_3] (fun _ => True) (fun _ => False) rfl rfl ?aP (fun _ hk => hk.elim) ?aF ?aO ?aB ?aS ?aL ?_; (case aP => exact rfl); (case aB => exact (au10)); (case aF => exact (fun _ _ => trivial)); (case aO => exact (au8)); (case aS => exact (below_size (au10))); (case aL => have := LMc34.out; omega); intro v172 w39 ho hb hg hat; rw [← Ny171.out] at ho; have n0_ := Aside0.mk (blk_grown (g := gb164) (o := .cells #[.slice A0_0 l0_0.length c0_0, .slice A0_1 l0_1.length c0_1, .slice (some ad165) l0_2.length c0_2, .int .i64 a0_3] 25 (0, 0)) (au23) hg (Kd.R_ne HO_8.out BK164.out (by decide))); have n1_ := Aside0.mk (blk_grown (g := gb166) (o := .cells #[.slice A165_0 ((rd_T52 l0_2 a1).f0).length c165_0, .slice A165_1 ((rd_T52 l0_2 a1).f1).length c165_1, .int .u8 ((rd_T52 l0_2 a1).f2), .bool ((rd_T52 l0_2 a1).f3), .int .i64 ((rd_T52 l0_2 a1).f4), .int .i64 ((rd_T52 l0_2 a1).f5), .int .i64 ((rd_T52 l0_2 a1).f6), .slice A165_7 ((rd_T52 l0_2 a1).f7).length c165_7] 52 (0, 0)) (au40) hg (Kd.R_ne HO_8.out BK166.out (by decide))); have n2_ := Aside0.mk (hb); have n3_ := Aside0.mk (ho); clear BK164; clear BK166; clear HB; clear HO_8; have BK164 := n0_; have BK166 := n1_; have HB := n2_; have HO173 := n3_; clear n0_ n1_ n2_ n3_; clear ho hb hg hat))
              repeat (go_quiet (first | ((fail_if_success (have h_ := w38)); go_at_call 52; (with_reducible refine (capstanref11_calls.calls k3 _ _ ((rd_T52 l0_2 a1).f0) _ _ ((rd_T52 l0_2 a1).f1) ((rd_T52 l0_2 a1).f2) ((rd_T52 l0_2 a1).f3) ((rd_T52 l0_2 a1).f4) ((rd_T52 l0_2 a1).f5) ((rd_T52 l0_2 a1).f6) _ _ ((rd_T52 l0_2 a1).f7) x9_3 true _ ?side1 ?side2 ?side3 ?side4 ?side5 ?side6 A32.out).mono ?_); (case side1 => exact au55); (case side2 => exact HC165_0.out); (case side3 => exact au56); (case side4 => exact HC165_1.out); (case side5 => exact au57); (case side6 => exact HC165_7.out); rintro e w38 ⟨rfl, hb⟩; have n0_ := Aside0.mk (Kd.R_below (au8) hb); have n1_ := Aside0.mk (blk_below (g := gb164) (o := .cells #[.slice A0_0 l0_0.length c0_0, .slice A0_1 l0_1.length c0_1, .slice (some ad165) l0_2.length c0_2, .int .i64 a0_3] 25 (0, 0)) (au23) hb); have n2_ := Aside0.mk (blk_below (g := gb166) (o := .cells #[.slice A165_0 ((rd_T52 l0_2 a1).f0).length c165_0, .slice A165_1 ((rd_T52 l0_2 a1).f1).length c165_1, .int .u8 ((rd_T52 l0_2 a1).f2), .bool ((rd_T52 l0_2 a1).f3), .int .i64 ((rd_T52 l0_2 a1).f4), .int .i64 ((rd_T52 l0_2 a1).f5), .int .i64 ((rd_T52 l0_2 a1).f6), .slice A165_7 ((rd_T52 l0_2 a1).f7).length c165_7] 52 (0, 0)) (au40) hb); have n3_ := Aside0.mk (below_step (au10) hb); clear HO_8; clear BK164; clear BK166; clear HB; have HO_8 := n0_; have BK164 := n1_; have BK166 := n2_; have HB := n3_; clear n0_ n1_ n2_ n3_; (try clear hb); (try clear hb2); (try clear hk); (try clear hi)) | ((with_reducible refine gate_builtin (b := .append) (xs := #[.tmp 69, .tmp 71]) rfl ?_); (try (refine gate_guard (by rfl) ?_; dsimp only)); at_builtin; refine Kd.R_append (Kd.int .i64) (w0 := w) w.heap.size rfl (.tmp 69) (.tmp 71) 53 3 (.int .i64 0) 8 rfl Try.underlying53 info3 rfl (by decide) (by omega) u8 x8_3 x9_3 [.int .i64 x9_3] (fun _ => True) (fun _ => False) rfl rfl ?aP (fun _ hk => hk.elim) ?aF ?aO ?aB ?aS ?aL ?_; (case aP => exact rfl); (case aB => exact (au10)); (case aF => exact (fun _ _ => trivial)); (case aO => exact (au8)); (case aS => exact (below_size (au10))); (case aL => have := LMc34.out; omega); intro v172 w39 ho hb hg hat; rw [← Ny171.out] at ho; have n0_ := Aside0.mk (blk_grown (g := gb164) (o := .cells #[.slice A0_0 l0_0.length c0_0, .slice A0_1 l0_1.length c0_1, .slice (some ad165) l0_2.length c0_2, .int .i64 a0_3] 25 (0, 0)) (au23) hg (Kd.R_ne HO_8.out BK164.out (by decide))); have n1_ := Aside0.mk (blk_grown (g := gb166) (o := .cells #[.slice A165_0 ((rd_T52 l0_2 a1).f0).length c165_0, .slice A165_1 ((rd_T52 l0_2 a1).f1).length c165_1, .int .u8 ((rd_T52 l0_2 a1).f2), .bool ((rd_T52 l0_2 a1).f3), .int .i64 ((rd_T52 l0_2 a1).f4), .int .i64 ((rd_T52 l0_2 a1).f5), .int .i64 ((rd_T52 l0_2 a1).f6), .slice A165_7 ((rd_T52 l0_2 a1).f7).length c165_7] 52 (0, 0)) (au40) hg (Kd.R_ne HO_8.out BK166.out (by decide))); have n2_ := Aside0.mk (hb); have n3_ := Aside0.mk (ho); clear BK164; clear BK166; clear HB; clear HO_8; have BK164 := n0_; have BK166 := n1_; have HB := n2_; have HO173 := n3_; clear n0_ n1_ n2_ n3_; clear ho hb hg hat)); try go_wp2_with (first | ((fail_if_success (have h_ := w38)); go_at_call 52; (with_reducible refine (capstanref11_calls.calls k3 _ _ ((rd_T52 l0_2 a1).f0) _ _ ((rd_T52 l0_2 a1).f1) ((rd_T52 l0_2 a1).f2) ((rd_T52 l0_2 a1).f3) ((rd_T52 l0_2 a1).f4) ((rd_T52 l0_2 a1).f5) ((rd_T52 l0_2 a1).f6) _ _ ((rd_T52 l0_2 a1).f7) x9_3 true _ ?side1 ?side2 ?side3 ?side4 ?side5 ?side6 A32.out).mono ?_); (case side1 => exact au55); (case side2 => exact HC165_0.out); (case side3 => exact au56); (case side4 => exact HC165_1.out); (case side5 => exact au57); (case side6 => exact HC165_7.out); rintro e w38 ⟨rfl, hb⟩; have n0_ := Aside0.mk (Kd.R_below (au8) hb); have n1_ := Aside0.mk (blk_below (g := gb164) (o := .cells #[.slice A0_0 l0_0.length c0_0, .slice A0_1 l0_1.length c0_1, .slice (some ad165) l0_2.length c0_2, .int .i64 a0_3] 25 (0, 0)) (au23) hb); have n2_ := Aside0.mk (blk_below (g := gb166) (o := .cells #[.slice A165_0 ((rd_T52 l0_2 a1).f0).length c165_0, .slice A165_1 ((rd_T52 l0_2 a1).f1).length c165_1, .int .u8 ((rd_T52 l0_2 a1).f2), .bool ((rd_T52 l0_2 a1).f3), .int .i64 ((rd_T52 l0_2 a1).f4), .int .i64 ((rd_T52 l0_2 a1).f5), .int .i64 ((rd_T52 l0_2 a1).f6), .slice A165_7 ((rd_T52 l0_2 a1).f7).length c165_7] 52 (0, 0)) (au40) hb); have n3_ := Aside0.mk (below_step (au10) hb); clear HO_8; clear BK164; clear BK166; clear HB; have HO_8 := n0_; have BK164 := n1_; have BK166 := n2_; have HB := n3_; clear n0_ n1_ n2_ n3_; (try clear hb); (try clear hb2); (try clear hk); (try clear hi)) | ((with_reducible refine gate_builtin (b := .append) (xs := #[.tmp 69, .tmp 71]) rfl ?_); (try (refine gate_guard (by rfl) ?_; dsimp only)); at_builtin; refine Kd.R_append (Kd.int .i64) (w0 := w) w.heap.size rfl (.tmp 69) (.tmp 71) 53 3 (.int .i64 0) 8 rfl Try.underlying53 info3 rfl (by decide) (by omega) u8 x8_3 x9_3 [.int .i64 x9_3] (fun _ => True) (fun _ => False) rfl rfl ?aP (fun _ hk => hk.elim) ?aF ?aO ?aB ?aS ?aL ?_; (case aP => exact rfl); (case aB => exact (au10)); (case aF => exact (fun _ _ => trivial)); (case aO => exact (au8)); (case aS => exact (below_size (au10))); (case aL => have := LMc34.out; omega); intro v172 w39 ho hb hg hat; rw [← Ny171.out] at ho; have n0_ := Aside0.mk (blk_grown (g := gb164) (o := .cells #[.slice A0_0 l0_0.length c0_0, .slice A0_1 l0_1.length c0_1, .slice (some ad165) l0_2.length c0_2, .int .i64 a0_3] 25 (0, 0)) (au23) hg (Kd.R_ne HO_8.out BK164.out (by decide))); have n1_ := Aside0.mk (blk_grown (g := gb166) (o := .cells #[.slice A165_0 ((rd_T52 l0_2 a1).f0).length c165_0, .slice A165_1 ((rd_T52 l0_2 a1).f1).length c165_1, .int .u8 ((rd_T52 l0_2 a1).f2), .bool ((rd_T52 l0_2 a1).f3), .int .i64 ((rd_T52 l0_2 a1).f4), .int .i64 ((rd_T52 l0_2 a1).f5), .int .i64 ((rd_T52 l0_2 a1).f6), .slice A165_7 ((rd_T52 l0_2 a1).f7).length c165_7] 52 (0, 0)) (au40) hg (Kd.R_ne HO_8.out BK166.out (by decide))); have n2_ := Aside0.mk (hb); have n3_ := Aside0.mk (ho); clear BK164; clear BK166; clear HB; clear HO_8; have BK164 := n0_; have BK166 := n1_; have HB := n2_; have HO173 := n3_; clear n0_ n1_ n2_ n3_; clear ho hb hg hat)))
              go_roundg k3
              case measure => have := HJ2.out; have := HK2.out; have := HK3.out; omega
              case rel => exact ⟨(y171), (wrap64 (x9_3 + 1)), (au18), H', ⟨by have := HJ2.out; have := HK2.out; have := HK3.out; omega⟩, ⟨by (with_reducible repeat (first | apply Kd.R_alloc | apply Kd.R_drewN | apply Kd.R_drew)); first | exact HO173.out | exact Kd.R_mono (HO173.out) (fun _ h_ => h_.2)⟩, ⟨au23⟩, ⟨au40⟩, ⟨au10⟩⟩
             ·
              rw [if_neg c34] at H
              exact absurd H (by simp)
            ·
             replace c33 := Bool.eq_false_iff.mpr c33
             subst c33
             have H1 : (capstanref11_Whom.l1 k3 x8_3 (wrap64 (x9_3 + 1)) l0_0 l0_1 l0_2 a0_3 ((rd_T52 l0_2 a1).f0) ((rd_T52 l0_2 a1).f1) ((rd_T52 l0_2 a1).f2) ((rd_T52 l0_2 a1).f3) ((rd_T52 l0_2 a1).f4) ((rd_T52 l0_2 a1).f5) ((rd_T52 l0_2 a1).f6) ((rd_T52 l0_2 a1).f7)) = some (r1, r2) := by rw [if_neg (show ¬ (false = true) by decide)] at H; exact H
             clear H
             have H := H1
             clear H1
             have H' := Aside0.mk H
             clear H
             have hnb40 := NB164_166.out
             have hnc40 := NB166_164.out
             obtain ⟨hcz41_0, hcz41_1, hcz41_2, hcz41_3, hfz41_0, hfz41_1, hfz41_2, hfz41_3⟩ := blk_all4 BK164.out
             obtain ⟨hcz42_0, hcz42_1, hcz42_2, hcz42_3, hcz42_4, hcz42_5, hcz42_6, hcz42_7, hfz42_0, hfz42_1, hfz42_2, hfz42_3, hfz42_4, hfz42_5, hfz42_6, hfz42_7⟩ := blk_all8 BK166.out
             go_wp2_with (first | ((fail_if_success (have h_ := w43)); go_at_call 52; (with_reducible refine (capstanref11_calls.calls k3 _ _ ((rd_T52 l0_2 a1).f0) _ _ ((rd_T52 l0_2 a1).f1) ((rd_T52 l0_2 a1).f2) ((rd_T52 l0_2 a1).f3) ((rd_T52 l0_2 a1).f4) ((rd_T52 l0_2 a1).f5) ((rd_T52 l0_2 a1).f6) _ _ ((rd_T52 l0_2 a1).f7) x9_3 false _ ?side1 ?side2 ?side3 ?side4 ?side5 ?side6 A32.out).mono ?_); (case side1 => exact au55); (case side2 => exact HC165_0.out); (case side3 => exact au56); (case side4 => exact HC165_1.out); (case side5 => exact au57); (case side6 => exact HC165_7.out); rintro e w43 ⟨rfl, hb⟩; have n0_ := Aside0.mk (Kd.R_below (au8) hb); have n1_ := Aside0.mk (blk_below (g := gb164) (o := .cells #[.slice A0_0 l0_0.length c0_0, .slice A0_1 l0_1.length c0_1, .slice (some ad165) l0_2.length c0_2, .int .i64 a0_3] 25 (0, 0)) (au23) hb); have n2_ := Aside0.mk (blk_below (g := gb166) (o := .cells #[.slice A165_0 ((rd_T52 l0_2 a1).f0).length c165_0, .slice A165_1 ((rd_T52 l0_2 a1).f1).length c165_1, .int .u8 ((rd_T52 l0_2 a1).f2), .bool ((rd_T52 l0_2 a1).f3), .int .i64 ((rd_T52 l0_2 a1).f4), .int .i64 ((rd_T52 l0_2 a1).f5), .int .i64 ((rd_T52 l0_2 a1).f6), .slice A165_7 ((rd_T52 l0_2 a1).f7).length c165_7] 52 (0, 0)) (au40) hb); have n3_ := Aside0.mk (below_step (au10) hb); clear HO_8; clear BK164; clear BK166; clear HB; have HO_8 := n0_; have BK164 := n1_; have BK166 := n2_; have HB := n3_; clear n0_ n1_ n2_ n3_; (try clear hb); (try clear hb2); (try clear hk); (try clear hi)))
             repeat (go_quiet (first | ((fail_if_success (have h_ := w43)); go_at_call 52; (with_reducible refine (capstanref11_calls.calls k3 _ _ ((rd_T52 l0_2 a1).f0) _ _ ((rd_T52 l0_2 a1).f1) ((rd_T52 l0_2 a1).f2) ((rd_T52 l0_2 a1).f3) ((rd_T52 l0_2 a1).f4) ((rd_T52 l0_2 a1).f5) ((rd_T52 l0_2 a1).f6) _ _ ((rd_T52 l0_2 a1).f7) x9_3 false _ ?side1 ?side2 ?side3 ?side4 ?side5 ?side6 A32.out).mono ?_); (case side1 => exact au55); (case side2 => exact HC165_0.out); (case side3 => exact au56); (case side4 => exact HC165_1.out); (case side5 => exact au57); (case side6 => exact HC165_7.out); rintro e w43 ⟨rfl, hb⟩; have n0_ := Aside0.mk (Kd.R_below (au8) hb); have n1_ := Aside0.mk (blk_below (g := gb164) (o := .cells #[.slice A0_0 l0_0.length c0_0, .slice A0_1 l0_1.length c0_1, .slice (some ad165) l0_2.length c0_2, .int .i64 a0_3] 25 (0, 0)) (au23) hb); have n2_ := Aside0.mk (blk_below (g := gb166) (o := .cells #[.slice A165_0 ((rd_T52 l0_2 a1).f0).length c165_0, .slice A165_1 ((rd_T52 l0_2 a1).f1).length c165_1, .int .u8 ((rd_T52 l0_2 a1).f2), .bool ((rd_T52 l0_2 a1).f3), .int .i64 ((rd_T52 l0_2 a1).f4), .int .i64 ((rd_T52 l0_2 a1).f5), .int .i64 ((rd_T52 l0_2 a1).f6), .slice A165_7 ((rd_T52 l0_2 a1).f7).length c165_7] 52 (0, 0)) (au40) hb); have n3_ := Aside0.mk (below_step (au10) hb); clear HO_8; clear BK164; clear BK166; clear HB; have HO_8 := n0_; have BK164 := n1_; have BK166 := n2_; have HB := n3_; clear n0_ n1_ n2_ n3_; (try clear hb); (try clear hb2); (try clear hk); (try clear hi))); try go_wp2_with (first | ((fail_if_success (have h_ := w43)); go_at_call 52; (with_reducible refine (capstanref11_calls.calls k3 _ _ ((rd_T52 l0_2 a1).f0) _ _ ((rd_T52 l0_2 a1).f1) ((rd_T52 l0_2 a1).f2) ((rd_T52 l0_2 a1).f3) ((rd_T52 l0_2 a1).f4) ((rd_T52 l0_2 a1).f5) ((rd_T52 l0_2 a1).f6) _ _ ((rd_T52 l0_2 a1).f7) x9_3 false _ ?side1 ?side2 ?side3 ?side4 ?side5 ?side6 A32.out).mono ?_); (case side1 => exact au55); (case side2 => exact HC165_0.out); (case side3 => exact au56); (case side4 => exact HC165_1.out); (case side5 => exact au57); (case side6 => exact HC165_7.out); rintro e w43 ⟨rfl, hb⟩; have n0_ := Aside0.mk (Kd.R_below (au8) hb); have n1_ := Aside0.mk (blk_below (g := gb164) (o := .cells #[.slice A0_0 l0_0.length c0_0, .slice A0_1 l0_1.length c0_1, .slice (some ad165) l0_2.length c0_2, .int .i64 a0_3] 25 (0, 0)) (au23) hb); have n2_ := Aside0.mk (blk_below (g := gb166) (o := .cells #[.slice A165_0 ((rd_T52 l0_2 a1).f0).length c165_0, .slice A165_1 ((rd_T52 l0_2 a1).f1).length c165_1, .int .u8 ((rd_T52 l0_2 a1).f2), .bool ((rd_T52 l0_2 a1).f3), .int .i64 ((rd_T52 l0_2 a1).f4), .int .i64 ((rd_T52 l0_2 a1).f5), .int .i64 ((rd_T52 l0_2 a1).f6), .slice A165_7 ((rd_T52 l0_2 a1).f7).length c165_7] 52 (0, 0)) (au40) hb); have n3_ := Aside0.mk (below_step (au10) hb); clear HO_8; clear BK164; clear BK166; clear HB; have HO_8 := n0_; have BK164 := n1_; have BK166 := n2_; have HB := n3_; clear n0_ n1_ n2_ n3_; (try clear hb); (try clear hb2); (try clear hk); (try clear hi))))
             go_roundg k3
             case measure => have := HJ2.out; have := HK2.out; have := HK3.out; omega
             case rel => exact ⟨(x8_3), (wrap64 (x9_3 + 1)), (au18), H', ⟨by have := HJ2.out; have := HK2.out; have := HK3.out; omega⟩, ⟨au8⟩, ⟨au23⟩, ⟨au40⟩, ⟨au10⟩⟩
           ·
            rw [if_neg c31] at H
            have c31b0 : decide (x9_3 < (l0_2.length : Int)) = false := decide_eq_false c31
            clear c31
            simp only [Option.some.injEq, Prod.mk.injEq] at H
            obtain ⟨rfl, rfl⟩ := H
            have hnb44 := NB164_166.out
            have hnc44 := NB166_164.out
            obtain ⟨hcz45_0, hcz45_1, hcz45_2, hcz45_3, hfz45_0, hfz45_1, hfz45_2, hfz45_3⟩ := blk_all4 BK164.out
            go_wp2
            repeat (go_quiet (fail); try go_wp2)
            go_ret2
            exact ⟨_, au19, au8, au10⟩
     ·
      rw [if_neg c9] at H
      exact absurd H (by simp)
    ·
     rw [if_neg c8] at H
     exact absurd H (by simp)

end Go.Proofs.Ytkmnachdibhdhaa.P
