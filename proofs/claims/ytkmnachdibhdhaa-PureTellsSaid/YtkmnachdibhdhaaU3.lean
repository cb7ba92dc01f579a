/- Contracts of the functions of this seat (each: the call of the function does what the plain Lean function of the same name tells; the conditions stand in each statement). Written by a program of this session and by hand; checked by Lean. -/
import Derived.Test.YtkmnachdibhdhaaU0
namespace Go.Proofs.Ytkmnachdibhdhaa.U
open Go.RowKit Go.Proofs.YtkmnachdibhdhaaW.PrintWords Go.Proofs.YtkmnachdibhdhaaW.PrintLast Go.Proofs.YtkmnachdibhdhaaW.PrintMore
attribute [local go_sem] max2_int min2_int max_two min_two max_three min_three max_four min_four   -- for this text's walks alone
set_option linter.unusedVariables false
set_option linter.unusedSimpArgs false

/-! ### capstanlaw07_Great: function 39 -/
def capstanlaw07_Great.f (l0_0 : List Int) (l0_1 : List Int) (a0_2 : Int) (a0_3 : Bool) (a0_4 : Int) (a0_5 : Int) (a0_6 : Int) (l0_7 : List (S70)) : Option (Bool) := if (l0_0.length : Int) > 100 then (some true) else (some (decide ((l0_1.length : Int) > 100)))
set_option maxHeartbeats 8000000 in
set_option maxRecDepth 100000 in
theorem capstanlaw07_Great.calls (A0_0 : Option Addr) (c0_0 : Nat) (l0_0 : List Int) (A0_1 : Option Addr) (c0_1 : Nat) (l0_1 : List Int) (a0_2 : Int) (a0_3 : Bool) (a0_4 : Int) (a0_5 : Int) (a0_6 : Int) (A0_7 : Option Addr) (c0_7 : Nat) (l0_7 : List (S70)) (r : Bool) (w : World) (hr0_0 : Kd.C (Kd.int .u8) w A0_0 l0_0.length l0_0) (hc0_0 : l0_0.length ≤ c0_0) (hr0_1 : Kd.C (Kd.int .u8) w A0_1 l0_1.length l0_1) (hc0_1 : l0_1.length ≤ c0_1) (hr0_7 : Kd.C k70 w A0_7 l0_7.length l0_7) (hc0_7 : l0_7.length ≤ c0_7) (h : capstanlaw07_Great.f l0_0 l0_1 a0_2 a0_3 a0_4 a0_5 a0_6 l0_7 = some r) :
  Calls Try.prog 39 #[.agg #[.slice A0_0 l0_0.length c0_0, .slice A0_1 l0_1.length c0_1, .int .u8 a0_2, .bool a0_3, .int .i64 a0_4, .int .i64 a0_5, .int .i64 a0_6, .slice A0_7 l0_7.length c0_7]] w fun e w' => e = .returned (.bool r) ∧ Below w.heap.size w w' := by
 have hu52 := Try.underlying52; have HR0_0 := Aside0.mk hr0_0; have HC0_0 := Aside0.mk hc0_0; clear hr0_0 hc0_0; have HR0_1 := Aside0.mk hr0_1; have HC0_1 := Aside0.mk hc0_1; clear hr0_1 hc0_1; have HR0_7 := Aside0.mk hr0_7; have HC0_7 := Aside0.mk hc0_7; clear hr0_7 hc0_7; have HB := Aside0.mk (Below.refl w.heap.size w); have H : (if (l0_0.length : Int) > 100 then (some true) else (some (decide ((l0_1.length : Int) > 100)))) = some r := h; clear h
 by_cases c2 : (l0_0.length : Int) > 100
 ·
  rw [if_pos c2] at H; have c2b0 : decide (100 < (l0_0.length : Int)) = true := decide_eq_true c2; have c2b1 : decide (100 < l0_0.length) = true := decide_eq_true (by omega); clear c2; obtain rfl := Option.some.inj H
  go_enter Try.func39, Try.ntmps39
  go_wp2_with (first | ((with_reducible refine gate_dst (N := 1) rfl ?_); (try (refine gate_guard (by rfl) ?_; dsimp only)); refine box_event ?hg (N := 1) ?hd (cs := #[.slice A0_0 l0_0.length c0_0, .slice A0_1 l0_1.length c0_1, .int .u8 a0_2, .bool a0_3, .int .i64 a0_4, .int .i64 a0_5, .int .i64 a0_6, .slice A0_7 l0_7.length c0_7]) (t := 52) ?hr ?_; (case hd => rfl); (case hg => rfl); (case hr => first | (go_simp; done) | (go_simp; rfl)); intro gb101 hg w3 hbox hb; have n0_ := Aside0.mk (below_step (au1) hb); have n1_ := Aside0.mk (hbox); have n2_ := Aside0.mk ((au28 : w.heap.size ≤ gb101)); have n3_ := Aside0.mk ((au28 : w.heap.size ≤ gb101)); clear HB; have HB := n0_; have BK101 := n1_; have GW101 := n2_; have GE101 := n3_; clear n0_ n1_ n2_ n3_; clear hb hbox hg; obtain ⟨hcz4_0, hcz4_1, hcz4_2, hcz4_3, hcz4_4, hcz4_5, hcz4_6, hcz4_7, hfz4_0, hfz4_1, hfz4_2, hfz4_3, hfz4_4, hfz4_5, hfz4_6, hfz4_7⟩ := blk_all8 BK101.out))
  go_ret; exact ⟨au13, by repeat (first | (with_reducible first | exact HB.out | apply below_alloc | apply pw_below_drewN | apply below_drew1 | refine below_set ?_ GE101.out) | exact HB.out | exact ⟨HB.out.os, HB.out.tape, HB.out.output, HB.out.size, HB.out.block⟩)⟩
 ·
  rw [if_neg c2] at H; have c2b0 : decide (100 < (l0_0.length : Int)) = false := decide_eq_false c2; have c2b1 : decide (100 < l0_0.length) = false := decide_eq_false (by omega); clear c2; obtain rfl := Option.some.inj H
  go_enter Try.func39, Try.ntmps39
  go_wp2_with (first | ((with_reducible refine gate_dst (N := 1) rfl ?_); (try (refine gate_guard (by rfl) ?_; dsimp only)); refine box_event ?hg (N := 1) ?hd (cs := #[.slice A0_0 l0_0.length c0_0, .slice A0_1 l0_1.length c0_1, .int .u8 a0_2, .bool a0_3, .int .i64 a0_4, .int .i64 a0_5, .int .i64 a0_6, .slice A0_7 l0_7.length c0_7]) (t := 52) ?hr ?_; (case hd => rfl); (case hg => rfl); (case hr => first | (go_simp; done) | (go_simp; rfl)); intro gb101 hg w5 hbox hb; have n0_ := Aside0.mk (below_step (au1) hb); have n1_ := Aside0.mk (hbox); have n2_ := Aside0.mk ((au28 : w.heap.size ≤ gb101)); have n3_ := Aside0.mk ((au28 : w.heap.size ≤ gb101)); clear HB; have HB := n0_; have BK101 := n1_; have GW101 := n2_; have GE101 := n3_; clear n0_ n1_ n2_ n3_; clear hb hbox hg; obtain ⟨hcz6_0, hcz6_1, hcz6_2, hcz6_3, hcz6_4, hcz6_5, hcz6_6, hcz6_7, hfz6_0, hfz6_1, hfz6_2, hfz6_3, hfz6_4, hfz6_5, hfz6_6, hfz6_7⟩ := blk_all8 BK101.out))
  go_ret; exact ⟨au13, by repeat (first | (with_reducible first | exact HB.out | apply below_alloc | apply pw_below_drewN | apply below_drew1 | refine below_set ?_ GE101.out) | exact HB.out | exact ⟨HB.out.os, HB.out.tape, HB.out.output, HB.out.size, HB.out.block⟩)⟩

/-! ### capstanlaw08_Great: function 11 -/
mutual
def capstanlaw08_Great.j0 : Nat → Bool → List (S86) → List (S86) → List (S52) → Int → Option (Bool)
 | 0, _, _, _, _, _ => none
 | k + 1, x19, x103000, x103001, x103002, x103003 => if x19 = true then (some true) else (capstanlaw08_Great.l0 k 0 x103000 x103001 x103002 x103003)
def capstanlaw08_Great.l0 : Nat → Int → List (S86) → List (S86) → List (S52) → Int → Option (Bool)
 | 0, _, _, _, _, _ => none
 | k + 1, x3, x103000, x103001, x103002, x103003 => if x3 < (x103002.length : Int) then (if 0 ≤ x3 then ((capstanlaw07_Great.f ((rd_T52 x103002 x3).f0) ((rd_T52 x103002 x3).f1) ((rd_T52 x103002 x3).f2) ((rd_T52 x103002 x3).f3) ((rd_T52 x103002 x3).f4) ((rd_T52 x103002 x3).f5) ((rd_T52 x103002 x3).f6) ((rd_T52 x103002 x3).f7)).bind fun t104 => (if t104 = true then (some true) else (if (((rd_T52 x103002 x3).f7).length : Int) > 300 then (some true) else (capstanlaw08_Great.l0 k (wrap64 (x3 + 1)) x103000 x103001 x103002 x103003)))) else (none)) else (some false)
end
def capstanlaw08_Great.f (k : Nat) (l0_0 : List (S86)) (l0_1 : List (S86)) (l0_2 : List (S52)) (a0_3 : Int) : Option (Bool) := if (l0_0.length : Int) > 100 then (capstanlaw08_Great.j0 k true l0_0 l0_1 l0_2 a0_3) else (if (l0_1.length : Int) > 100 then (capstanlaw08_Great.j0 k true l0_0 l0_1 l0_2 a0_3) else (capstanlaw08_Great.j0 k (decide ((l0_2.length : Int) > 40)) l0_0 l0_1 l0_2 a0_3))
theorem capstanlaw08_Great.mono_l : ∀ k, (∀ y0 y1 y2 y3 y4, LeO (capstanlaw08_Great.j0 k y0 y1 y2 y3 y4) (capstanlaw08_Great.j0 (k + 1) y0 y1 y2 y3 y4)) ∧ (∀ y0 y1 y2 y3 y4, LeO (capstanlaw08_Great.l0 k y0 y1 y2 y3 y4) (capstanlaw08_Great.l0 (k + 1) y0 y1 y2 y3 y4))
 | 0 => ⟨fun _ _ _ _ _ r h => by simp [capstanlaw08_Great.j0] at h, fun _ _ _ _ _ r h => by simp [capstanlaw08_Great.l0] at h⟩
 | k + 1 => by
  obtain ⟨ih0, ih1⟩ := capstanlaw08_Great.mono_l k; refine ⟨?_, ?_⟩
  ·
   intro y0 y1 y2 y3 y4
   unfold capstanlaw08_Great.j0
   repeat' first
   | (with_reducible exact ih0 _ _ _ _ _)
   | (with_reducible exact ih1 _ _ _ _ _)
   | (with_reducible exact LeO.refl _)
   | (with_reducible exact LeO.none _)
   | (with_reducible refine LeO.ite ?_ ?_)
   | (with_reducible refine LeO.bind ?_ (fun _ => ?_))
   | exact ih0 _ _ _ _ _
   | exact ih1 _ _ _ _ _
   | exact LeO.none _
   | refine LeO.ite ?_ ?_
   | refine LeO.bind ?_ (fun _ => ?_)
  ·
   intro y0 y1 y2 y3 y4
   unfold capstanlaw08_Great.l0
   repeat' first
   | (with_reducible exact ih0 _ _ _ _ _)
   | (with_reducible exact ih1 _ _ _ _ _)
   | (with_reducible exact LeO.refl _)
   | (with_reducible exact LeO.none _)
   | (with_reducible refine LeO.ite ?_ ?_)
   | (with_reducible refine LeO.bind ?_ (fun _ => ?_))
   | exact ih0 _ _ _ _ _
   | exact ih1 _ _ _ _ _
   | exact LeO.none _
   | refine LeO.ite ?_ ?_
   | refine LeO.bind ?_ (fun _ => ?_)
theorem capstanlaw08_Great.mono : ∀ a0 a1 a2 a3 k, LeO (capstanlaw08_Great.f k a0 a1 a2 a3) (capstanlaw08_Great.f (k + 1) a0 a1 a2 a3) := by
 intro a0 a1 a2 a3 k; obtain ⟨ih0, ih1⟩ := capstanlaw08_Great.mono_l k
 unfold capstanlaw08_Great.f
 repeat' first
   | (with_reducible exact ih0 _ _ _ _ _)
   | (with_reducible exact ih1 _ _ _ _ _)
   | (with_reducible exact LeO.refl _)
   | (with_reducible exact LeO.none _)
   | (with_reducible refine LeO.ite ?_ ?_)
   | (with_reducible refine LeO.bind ?_ (fun _ => ?_))
   | exact ih0 _ _ _ _ _
   | exact ih1 _ _ _ _ _
   | exact LeO.none _
   | refine LeO.ite ?_ ?_
   | refine LeO.bind ?_ (fun _ => ?_)
set_option maxHeartbeats 8000000 in
set_option maxRecDepth 100000 in
theorem capstanlaw08_Great.calls (k : Nat) (A0_0 : Option Addr) (c0_0 : Nat) (l0_0 : List (S86)) (A0_1 : Option Addr) (c0_1 : Nat) (l0_1 : List (S86)) (A0_2 : Option Addr) (c0_2 : Nat) (l0_2 : List (S52)) (a0_3 : Int) (r : Bool) (w : World) (hr0_0 : Kd.C k86 w A0_0 l0_0.length l0_0) (hc0_0 : l0_0.length ≤ c0_0) (hr0_1 : Kd.C k86 w A0_1 l0_1.length l0_1) (hc0_1 : l0_1.length ≤ c0_1) (hr0_2 : Kd.C k52 w A0_2 l0_2.length l0_2) (hc0_2 : l0_2.length ≤ c0_2) (h : capstanlaw08_Great.f k l0_0 l0_1 l0_2 a0_3 = some r) :
  Calls Try.prog 11 #[.agg #[.slice A0_0 l0_0.length c0_0, .slice A0_1 l0_1.length c0_1, .slice A0_2 l0_2.length c0_2, .int .i64 a0_3]] w fun e w' => e = .returned (.bool r) ∧ Below w.heap.size w w' := by
 have hu25 := Try.underlying25; have hu52 := Try.underlying52; have HR0_0 := Aside0.mk hr0_0; have HC0_0 := Aside0.mk hc0_0; clear hr0_0 hc0_0; have HR0_1 := Aside0.mk hr0_1; have HC0_1 := Aside0.mk hc0_1; clear hr0_1 hc0_1; have HR0_2 := Aside0.mk hr0_2; have HC0_2 := Aside0.mk hc0_2; clear hr0_2 hc0_2; have HB := Aside0.mk (Below.refl w.heap.size w); have H : (if (l0_0.length : Int) > 100 then (capstanlaw08_Great.j0 k true l0_0 l0_1 l0_2 a0_3) else (if (l0_1.length : Int) > 100 then (capstanlaw08_Great.j0 k true l0_0 l0_1 l0_2 a0_3) else (capstanlaw08_Great.j0 k (decide ((l0_2.length : Int) > 40)) l0_0 l0_1 l0_2 a0_3))) = some r := h; clear h; have HC2 := Aside0.mk H; clear H
 go_enter Try.func11, Try.ntmps11
 go_upto_region 1 with (first | ((with_reducible refine gate_dst (N := 1) rfl ?_); (try (refine gate_guard (by rfl) ?_; dsimp only)); refine box_event ?hg (N := 1) ?hd (cs := #[.slice A0_0 l0_0.length c0_0, .slice A0_1 l0_1.length c0_1, .slice A0_2 l0_2.length c0_2, .int .i64 a0_3]) (t := 25) ?hr ?_; (case hd => rfl); (case hg => rfl); (case hr => first | (go_simp; done) | (go_simp; rfl)); intro gb102 hg w3 hbox hb; have n0_ := Aside0.mk (below_step (au1) hb); have n1_ := Aside0.mk (hbox); have n2_ := Aside0.mk ((au28 : w.heap.size ≤ gb102)); have n3_ := Aside0.mk ((au28 : w.heap.size ≤ gb102)); clear HB; have HB := n0_; have BK102 := n1_; have GW102 := n2_; have GE102 := n3_; clear n0_ n1_ n2_ n3_; clear hb hbox hg))
 (try simp only [Act.put, List.setIfInBounds_toArray, List.set_cons_zero, List.set_cons_succ])
 go_cut [19] (fun v19 wc => ∃ (kq : Nat) (x19_1 : Bool), v19 = .bool x19_1 ∧ Aside0 (capstanlaw08_Great.j0 kq x19_1 l0_0 l0_1 l0_2 a0_3 = some r) ∧ Aside0 (kq ≤ k) ∧ Aside0 (wc.heap[gb102]? = some (.cells #[(.slice A0_0 l0_0.length c0_0), (.slice A0_1 l0_1.length c0_1), (.slice A0_2 l0_2.length c0_2), .int .i64 a0_3] 25 (0, 0))) ∧ Aside0 (Below w.heap.size w wc))
 case first =>
  have H := HC2.out; clear HC2
  by_cases c4 : (l0_0.length : Int) > 100
  ·
   rw [if_pos c4] at H; have c4b0 : decide (100 < (l0_0.length : Int)) = true := decide_eq_true c4; have c4b1 : decide (100 < l0_0.length) = true := decide_eq_true (by omega); clear c4
   (first | rw [c4b0] | (simp only [i64_w, i32_w]; rw [c4b0]) | skip)
   have H' := Aside0.mk H; clear H; obtain ⟨hcz5_0, hcz5_1, hcz5_2, hcz5_3, hfz5_0, hfz5_1, hfz5_2, hfz5_3⟩ := blk_all4 BK102.out; go_wp2; go_meet
   case rel => exact ⟨_, (true), (au17), H', ⟨au99⟩, ⟨au54⟩, ⟨au22⟩⟩
  ·
   rw [if_neg c4] at H; have c4b0 : decide (100 < (l0_0.length : Int)) = false := decide_eq_false c4; have c4b1 : decide (100 < l0_0.length) = false := decide_eq_false (by omega); clear c4
   (first | rw [c4b0] | (simp only [i64_w, i32_w]; rw [c4b0]) | skip)
   by_cases c6 : (l0_1.length : Int) > 100
   ·
    rw [if_pos c6] at H; have c6b0 : decide (100 < (l0_1.length : Int)) = true := decide_eq_true c6; have c6b1 : decide (100 < l0_1.length) = true := decide_eq_true (by omega); clear c6; have H' := Aside0.mk H; clear H; obtain ⟨hcz7_0, hcz7_1, hcz7_2, hcz7_3, hfz7_0, hfz7_1, hfz7_2, hfz7_3⟩ := blk_all4 BK102.out; go_wp2; go_meet
    case rel => exact ⟨_, (true), (au17), H', ⟨au99⟩, ⟨au54⟩, ⟨au22⟩⟩
   ·
    rw [if_neg c6] at H; have c6b0 : decide (100 < (l0_1.length : Int)) = false := decide_eq_false c6; have c6b1 : decide (100 < l0_1.length) = false := decide_eq_false (by omega); clear c6; have H' := Aside0.mk H; clear H; obtain ⟨hcz8_0, hcz8_1, hcz8_2, hcz8_3, hfz8_0, hfz8_1, hfz8_2, hfz8_3⟩ := blk_all4 BK102.out; go_wp2; go_meet
    case rel => exact ⟨_, (decide ((l0_2.length : Int) > 40)), (au17), H', ⟨au99⟩, ⟨au54⟩, ⟨au22⟩⟩
 case rest =>
  clear HC2; (try clear c1); (try clear p2); (try clear c4); (try clear c4b0); (try clear c4b1); (try clear c6); (try clear c6b0); (try clear c6b1); (try clear hcz5_0); (try clear hcz5_1); (try clear hcz5_2); (try clear hcz5_3); (try clear hcz7_0); (try clear hcz7_1); (try clear hcz7_2); (try clear hcz7_3); (try clear hcz8_0); (try clear hcz8_1); (try clear hcz8_2); (try clear hcz8_3); (try clear hfz5_0); (try clear hfz5_1); (try clear hfz5_2); (try clear hfz5_3); (try clear hfz7_0); (try clear hfz7_1); (try clear hfz7_2); (try clear hfz7_3); (try clear hfz8_0); (try clear hfz8_1); (try clear hfz8_2); (try clear hfz8_3); obtain ⟨kq, x19_1, rfl, HA, HJ1, BK102, HB⟩ := hcut
  cases kq with
  | zero => exact absurd HA.out (by simp [capstanlaw08_Great.j0])
  | succ kj1 =>
   have H := HA.out; clear HA; simp only [capstanlaw08_Great.j0] at H
   by_cases c9 : x19_1 = true
   ·
    subst c9
    have H1 : (some true) = some r := by rw [if_pos rfl] at H; exact H
    clear H; have H := H1; clear H1; obtain rfl := Option.some.inj H; go_wp2; go_ret; exact ⟨au13, au22⟩
   ·
    replace c9 := Bool.eq_false_iff.mpr c9; subst c9
    have H1 : (capstanlaw08_Great.l0 kj1 0 l0_0 l0_1 l0_2 a0_3) = some r := by rw [if_neg (show ¬ (false = true) by decide)] at H; exact H
    clear H; have H := H1; clear H1; have H' := Aside0.mk H; clear H; go_wp2
    go_loopg [3] kj1 (fun kq v3 w' => ∃ (x3_2 : Int), v3 = .int .i64 x3_2 ∧ Aside0 (capstanlaw08_Great.l0 kq x3_2 l0_0 l0_1 l0_2 a0_3 = some r) ∧ Aside0 (kq ≤ kj1) ∧ Aside0 (w'.heap[gb102]? = some (.cells #[(.slice A0_0 l0_0.length c0_0), (.slice A0_1 l0_1.length c0_1), (.slice A0_2 l0_2.length c0_2), .int .i64 a0_3] 25 (0, 0))) ∧ Aside0 (Below w.heap.size w w'))
    case atStart => exact ⟨(0), (au17), H', ⟨Nat.le_refl _⟩, ⟨au54⟩, ⟨au22⟩⟩
    case round =>
     clear H'; (try clear c1); (try clear p2); (try clear c4); (try clear c4b0); (try clear c4b1); (try clear c6); (try clear c6b0); (try clear c6b1); (try clear c9); (try clear hcz5_0); (try clear hcz5_1); (try clear hcz5_2); (try clear hcz5_3); (try clear hcz7_0); (try clear hcz7_1); (try clear hcz7_2); (try clear hcz7_3); (try clear hcz8_0); (try clear hcz8_1); (try clear hcz8_2); (try clear hcz8_3); (try clear hfz5_0); (try clear hfz5_1); (try clear hfz5_2); (try clear hfz5_3); (try clear hfz7_0); (try clear hfz7_1); (try clear hfz7_2); (try clear hfz7_3); (try clear hfz8_0); (try clear hfz8_1); (try clear hfz8_2); (try clear hfz8_3); (try clear p2); obtain ⟨x3_2, rfl, HA, HK2, BK102, HB⟩ := hrel
     cases gk with
     | zero => exact absurd HA.out (by simp [capstanlaw08_Great.l0])
     | succ k2 =>
      have H := HA.out; clear HA; simp only [capstanlaw08_Great.l0] at H
      by_cases c10 : x3_2 < (l0_2.length : Int)
      rotate_left
      · rw [if_neg c10] at H; have c10b0 : decide (x3_2 < (l0_2.length : Int)) = false := decide_eq_false c10; clear c10; obtain rfl := Option.some.inj H; obtain ⟨hcz23_0, hcz23_1, hcz23_2, hcz23_3, hfz23_0, hfz23_1, hfz23_2, hfz23_3⟩ := blk_all4 BK102.out; go_wp2; go_ret; exact ⟨au13, au22⟩

      rw [if_pos c10] at H; have c10b0 : decide (x3_2 < (l0_2.length : Int)) = true := decide_eq_true c10; clear c10
      by_cases c11 : 0 ≤ x3_2
      rotate_left
      · rw [if_neg c11] at H; exact absurd H (by simp)
      rw [if_pos c11] at H; have c11b0 : decide (0 ≤ x3_2) = true := decide_eq_true c11; clear c11; replace H := Option.bind_eq_some_iff.mp H; obtain ⟨t104, A120, H⟩ := H; replace H : (if t104 = true then (some true) else (if (((rd_T52 l0_2 x3_2).f7).length : Int) > 300 then (some true) else (capstanlaw08_Great.l0 k2 (wrap64 (x3_2 + 1)) l0_0 l0_1 l0_2 a0_3))) = some r := H; have A12 := Aside0.mk A120; clear A120
      by_cases c13 : t104 = true
      ·
       subst c13
       have H1 : (some true) = some r := by rw [if_pos rfl] at H; exact H
       clear H; have H := H1; clear H1; obtain rfl := Option.some.inj H; obtain ⟨hcz14_0, hcz14_1, hcz14_2, hcz14_3, hfz14_0, hfz14_1, hfz14_2, hfz14_3⟩ := blk_all4 BK102.out; have p103 : 0 ≤ (x3_2 : Int) := of_decide_eq_true (au3); have q103 : x3_2 < (l0_2.length : Int) := of_decide_eq_true (au3); obtain ⟨ad103, A103_0, c103_0, A103_1, c103_1, A103_7, c103_7, e103, hx103_0, hx103_1, hx103_2, hx103_3, hx103_4, hx103_5, hx103_6, hx103_7, hl103_0, hi103_0, hl103_1, hi103_1, hl103_7, hi103_7⟩ := at_T52 HR0_2.out x3_2 p103 q103; cases e103; replace hx103_0 := (HB.out.cell (World.block_lt_of_cell? w _ hx103_0)).trans hx103_0; replace hx103_1 := (HB.out.cell (World.block_lt_of_cell? w _ hx103_1)).trans hx103_1; replace hx103_2 := (HB.out.cell (World.block_lt_of_cell? w _ hx103_2)).trans hx103_2; replace hx103_3 := (HB.out.cell (World.block_lt_of_cell? w _ hx103_3)).trans hx103_3; replace hx103_4 := (HB.out.cell (World.block_lt_of_cell? w _ hx103_4)).trans hx103_4; replace hx103_5 := (HB.out.cell (World.block_lt_of_cell? w _ hx103_5)).trans hx103_5; replace hx103_6 := (HB.out.cell (World.block_lt_of_cell? w _ hx103_6)).trans hx103_6; replace hx103_7 := (HB.out.cell (World.block_lt_of_cell? w _ hx103_7)).trans hx103_7; have HR103_0 := Aside0.mk hi103_0; have HC103_0 := Aside0.mk hl103_0; clear hi103_0 hl103_0; have HR103_1 := Aside0.mk hi103_1; have HC103_1 := Aside0.mk hl103_1; clear hi103_1 hl103_1; have HR103_7 := Aside0.mk hi103_7; have HC103_7 := Aside0.mk hl103_7; clear hi103_7 hl103_7; replace p103 := eq_true p103; replace q103 := eq_true q103
       go_wp2_with (first | ((with_reducible refine gate_callee (f := 39) rfl ?_); refine goesL_ (some 32) rfl rfl Try.func39 (by kernel_rfl) rfl #[.agg #[.slice A103_0 ((rd_T52 l0_2 x3_2).f0).length c103_0, .slice A103_1 ((rd_T52 l0_2 x3_2).f1).length c103_1, .int .u8 ((rd_T52 l0_2 x3_2).f2), .bool ((rd_T52 l0_2 x3_2).f3), .int .i64 ((rd_T52 l0_2 x3_2).f4), .int .i64 ((rd_T52 l0_2 x3_2).f5), .int .i64 ((rd_T52 l0_2 x3_2).f6), .slice A103_7 ((rd_T52 l0_2 x3_2).f7).length c103_7]] rfl (au10) ?_; (with_reducible refine (capstanlaw07_Great.calls _ _ ((rd_T52 l0_2 x3_2).f0) _ _ ((rd_T52 l0_2 x3_2).f1) ((rd_T52 l0_2 x3_2).f2) ((rd_T52 l0_2 x3_2).f3) ((rd_T52 l0_2 x3_2).f4) ((rd_T52 l0_2 x3_2).f5) ((rd_T52 l0_2 x3_2).f6) _ _ ((rd_T52 l0_2 x3_2).f7) true _ ?side1 ?side2 ?side3 ?side4 ?side5 ?side6 A12.out).mono ?_); (case side1 => exact au86); (case side2 => exact HC103_0.out); (case side3 => exact au87); (case side4 => exact HC103_1.out); (case side5 => exact au88); (case side6 => exact HC103_7.out); rintro e w15 ⟨rfl, hb⟩; refine ⟨_, rfl, ?_⟩; have n0_ := Aside0.mk (blk_below (g := gb102) (o := .cells #[.slice A0_0 l0_0.length c0_0, .slice A0_1 l0_1.length c0_1, .slice (some ad103) l0_2.length c0_2, .int .i64 a0_3] 25 (0, 0)) (au54) hb); have n1_ := Aside0.mk (below_step (au22) hb); clear BK102; clear HB; have BK102 := n0_; have HB := n1_; clear n0_ n1_; (try clear hb); (try clear hb2); (try clear hk); (try clear hi)))
       go_ret; exact ⟨au13, au22⟩
      ·
       replace c13 := Bool.eq_false_iff.mpr c13; subst c13
       have H1 : (if (((rd_T52 l0_2 x3_2).f7).length : Int) > 300 then (some true) else (capstanlaw08_Great.l0 k2 (wrap64 (x3_2 + 1)) l0_0 l0_1 l0_2 a0_3)) = some r := by rw [if_neg (show ¬ (false = true) by decide)] at H; exact H
       clear H; have H := H1; clear H1
       by_cases c16 : (((rd_T52 l0_2 x3_2).f7).length : Int) > 300
       ·
        rw [if_pos c16] at H; have c16b0 : decide (300 < (((rd_T52 l0_2 x3_2).f7).length : Int)) = true := decide_eq_true c16; have c16b1 : decide (300 < ((rd_T52 l0_2 x3_2).f7).length) = true := decide_eq_true (by omega); clear c16; obtain rfl := Option.some.inj H; obtain ⟨hcz17_0, hcz17_1, hcz17_2, hcz17_3, hfz17_0, hfz17_1, hfz17_2, hfz17_3⟩ := blk_all4 BK102.out; have p103 : 0 ≤ (x3_2 : Int) := of_decide_eq_true (au3); have q103 : x3_2 < (l0_2.length : Int) := of_decide_eq_true (au3); obtain ⟨ad103, A103_0, c103_0, A103_1, c103_1, A103_7, c103_7, e103, hx103_0, hx103_1, hx103_2, hx103_3, hx103_4, hx103_5, hx103_6, hx103_7, hl103_0, hi103_0, hl103_1, hi103_1, hl103_7, hi103_7⟩ := at_T52 HR0_2.out x3_2 p103 q103; cases e103; replace hx103_0 := (HB.out.cell (World.block_lt_of_cell? w _ hx103_0)).trans hx103_0; replace hx103_1 := (HB.out.cell (World.block_lt_of_cell? w _ hx103_1)).trans hx103_1; replace hx103_2 := (HB.out.cell (World.block_lt_of_cell? w _ hx103_2)).trans hx103_2; replace hx103_3 := (HB.out.cell (World.block_lt_of_cell? w _ hx103_3)).trans hx103_3; replace hx103_4 := (HB.out.cell (World.block_lt_of_cell? w _ hx103_4)).trans hx103_4; replace hx103_5 := (HB.out.cell (World.block_lt_of_cell? w _ hx103_5)).trans hx103_5; replace hx103_6 := (HB.out.cell (World.block_lt_of_cell? w _ hx103_6)).trans hx103_6; replace hx103_7 := (HB.out.cell (World.block_lt_of_cell? w _ hx103_7)).trans hx103_7; have HR103_0 := Aside0.mk hi103_0; have HC103_0 := Aside0.mk hl103_0; clear hi103_0 hl103_0; have HR103_1 := Aside0.mk hi103_1
        have HC103_1 := Aside0.mk hl103_1; clear hi103_1 hl103_1; have HR103_7 := Aside0.mk hi103_7; have HC103_7 := Aside0.mk hl103_7; clear hi103_7 hl103_7; replace p103 := eq_true p103; replace q103 := eq_true q103
        go_wp2_with (first | ((with_reducible refine gate_callee (f := 39) rfl ?_); refine goesL_ (some 32) rfl rfl Try.func39 (by kernel_rfl) rfl #[.agg #[.slice A103_0 ((rd_T52 l0_2 x3_2).f0).length c103_0, .slice A103_1 ((rd_T52 l0_2 x3_2).f1).length c103_1, .int .u8 ((rd_T52 l0_2 x3_2).f2), .bool ((rd_T52 l0_2 x3_2).f3), .int .i64 ((rd_T52 l0_2 x3_2).f4), .int .i64 ((rd_T52 l0_2 x3_2).f5), .int .i64 ((rd_T52 l0_2 x3_2).f6), .slice A103_7 ((rd_T52 l0_2 x3_2).f7).length c103_7]] rfl (au10) ?_; (with_reducible refine (capstanlaw07_Great.calls _ _ ((rd_T52 l0_2 x3_2).f0) _ _ ((rd_T52 l0_2 x3_2).f1) ((rd_T52 l0_2 x3_2).f2) ((rd_T52 l0_2 x3_2).f3) ((rd_T52 l0_2 x3_2).f4) ((rd_T52 l0_2 x3_2).f5) ((rd_T52 l0_2 x3_2).f6) _ _ ((rd_T52 l0_2 x3_2).f7) false _ ?side1 ?side2 ?side3 ?side4 ?side5 ?side6 A12.out).mono ?_); (case side1 => exact au86); (case side2 => exact HC103_0.out); (case side3 => exact au87); (case side4 => exact HC103_1.out); (case side5 => exact au88); (case side6 => exact HC103_7.out); rintro e w18 ⟨rfl, hb⟩; refine ⟨_, rfl, ?_⟩; have n0_ := Aside0.mk (blk_below (g := gb102) (o := .cells #[.slice A0_0 l0_0.length c0_0, .slice A0_1 l0_1.length c0_1, .slice (some ad103) l0_2.length c0_2, .int .i64 a0_3] 25 (0, 0)) (au54) hb); have n1_ := Aside0.mk (below_step (au22) hb); clear BK102; clear HB; have BK102 := n0_; have HB := n1_; clear n0_ n1_; (try clear hb); (try clear hb2); (try clear hk); (try clear hi); obtain ⟨hcz19_0, hcz19_1, hcz19_2, hcz19_3, hfz19_0, hfz19_1, hfz19_2, hfz19_3⟩ := blk_all4 BK102.out; have p105 : 0 ≤ (x3_2 : Int) := of_decide_eq_true (au3); have q105 : x3_2 < (l0_2.length : Int) := of_decide_eq_true (au3); obtain ⟨ad105, A105_0, c105_0, A105_1, c105_1, A105_7, c105_7, e105, hx105_0, hx105_1, hx105_2, hx105_3, hx105_4, hx105_5, hx105_6, hx105_7, hl105_0, hi105_0, hl105_1, hi105_1, hl105_7, hi105_7⟩ := at_T52 HR0_2.out x3_2 p105 q105; obtain rfl : ad103 = ad105 := (by injection e105); replace hx105_0 := (HB.out.cell (World.block_lt_of_cell? w _ hx105_0)).trans hx105_0; replace hx105_1 := (HB.out.cell (World.block_lt_of_cell? w _ hx105_1)).trans hx105_1; replace hx105_2 := (HB.out.cell (World.block_lt_of_cell? w _ hx105_2)).trans hx105_2; replace hx105_3 := (HB.out.cell (World.block_lt_of_cell? w _ hx105_3)).trans hx105_3; replace hx105_4 := (HB.out.cell (World.block_lt_of_cell? w _ hx105_4)).trans hx105_4; replace hx105_5 := (HB.out.cell (World.block_lt_of_cell? w _ hx105_5)).trans hx105_5; replace hx105_6 := (HB.out.cell (World.block_lt_of_cell? w _ hx105_6)).trans hx105_6; replace hx105_7 := (HB.out.cell (World.block_lt_of_cell? w _ hx105_7)).trans hx105_7; have HR105_0 := Aside0.mk hi105_0; have HC105_0 := Aside0.mk hl105_0; clear hi105_0 hl105_0; have HR105_1 := Aside0.mk hi105_1; have HC105_1 := Aside0.mk hl105_1; clear hi105_1 hl105_1; have HR105_7 := Aside0.mk hi105_7; have HC105_7 := Aside0.mk hl105_7; clear hi105_7 hl105_7; replace p105 := eq_true p105; replace q105 := eq_true q105))
        go_ret; exact ⟨au13, au22⟩
       ·
        rw [if_neg c16] at H; have c16b0 : decide (300 < (((rd_T52 l0_2 x3_2).f7).length : Int)) = false := decide_eq_false c16; have c16b1 : decide (300 < ((rd_T52 l0_2 x3_2).f7).length) = false := decide_eq_false (by omega); clear c16; have H' := Aside0.mk H; clear H; obtain ⟨hcz20_0, hcz20_1, hcz20_2, hcz20_3, hfz20_0, hfz20_1, hfz20_2, hfz20_3⟩ := blk_all4 BK102.out; have p103 : 0 ≤ (x3_2 : Int) := of_decide_eq_true (au3); have q103 : x3_2 < (l0_2.length : Int) := of_decide_eq_true (au3); obtain ⟨ad103, A103_0, c103_0, A103_1, c103_1, A103_7, c103_7, e103, hx103_0, hx103_1, hx103_2, hx103_3, hx103_4, hx103_5, hx103_6, hx103_7, hl103_0, hi103_0, hl103_1, hi103_1, hl103_7, hi103_7⟩ := at_T52 HR0_2.out x3_2 p103 q103; cases e103; replace hx103_0 := (HB.out.cell (World.block_lt_of_cell? w _ hx103_0)).trans hx103_0; replace hx103_1 := (HB.out.cell (World.block_lt_of_cell? w _ hx103_1)).trans hx103_1; replace hx103_2 := (HB.out.cell (World.block_lt_of_cell? w _ hx103_2)).trans hx103_2; replace hx103_3 := (HB.out.cell (World.block_lt_of_cell? w _ hx103_3)).trans hx103_3; replace hx103_4 := (HB.out.cell (World.block_lt_of_cell? w _ hx103_4)).trans hx103_4; replace hx103_5 := (HB.out.cell (World.block_lt_of_cell? w _ hx103_5)).trans hx103_5; replace hx103_6 := (HB.out.cell (World.block_lt_of_cell? w _ hx103_6)).trans hx103_6; replace hx103_7 := (HB.out.cell (World.block_lt_of_cell? w _ hx103_7)).trans hx103_7; have HR103_0 := Aside0.mk hi103_0; have HC103_0 := Aside0.mk hl103_0; clear hi103_0 hl103_0; have HR103_1 := Aside0.mk hi103_1
        have HC103_1 := Aside0.mk hl103_1; clear hi103_1 hl103_1; have HR103_7 := Aside0.mk hi103_7; have HC103_7 := Aside0.mk hl103_7; clear hi103_7 hl103_7; replace p103 := eq_true p103; replace q103 := eq_true q103
        go_wp2_with (first | ((with_reducible refine gate_callee (f := 39) rfl ?_); refine goesL_ (some 32) rfl rfl Try.func39 (by kernel_rfl) rfl #[.agg #[.slice A103_0 ((rd_T52 l0_2 x3_2).f0).length c103_0, .slice A103_1 ((rd_T52 l0_2 x3_2).f1).length c103_1, .int .u8 ((rd_T52 l0_2 x3_2).f2), .bool ((rd_T52 l0_2 x3_2).f3), .int .i64 ((rd_T52 l0_2 x3_2).f4), .int .i64 ((rd_T52 l0_2 x3_2).f5), .int .i64 ((rd_T52 l0_2 x3_2).f6), .slice A103_7 ((rd_T52 l0_2 x3_2).f7).length c103_7]] rfl (au10) ?_; (with_reducible refine (capstanlaw07_Great.calls _ _ ((rd_T52 l0_2 x3_2).f0) _ _ ((rd_T52 l0_2 x3_2).f1) ((rd_T52 l0_2 x3_2).f2) ((rd_T52 l0_2 x3_2).f3) ((rd_T52 l0_2 x3_2).f4) ((rd_T52 l0_2 x3_2).f5) ((rd_T52 l0_2 x3_2).f6) _ _ ((rd_T52 l0_2 x3_2).f7) false _ ?side1 ?side2 ?side3 ?side4 ?side5 ?side6 A12.out).mono ?_); (case side1 => exact au86); (case side2 => exact HC103_0.out); (case side3 => exact au87); (case side4 => exact HC103_1.out); (case side5 => exact au88); (case side6 => exact HC103_7.out); rintro e w21 ⟨rfl, hb⟩; refine ⟨_, rfl, ?_⟩; have n0_ := Aside0.mk (blk_below (g := gb102) (o := .cells #[.slice A0_0 l0_0.length c0_0, .slice A0_1 l0_1.length c0_1, .slice (some ad103) l0_2.length c0_2, .int .i64 a0_3] 25 (0, 0)) (au54) hb); have n1_ := Aside0.mk (below_step (au22) hb); clear BK102; clear HB; have BK102 := n0_; have HB := n1_; clear n0_ n1_; (try clear hb); (try clear hb2); (try clear hk); (try clear hi); obtain ⟨hcz22_0, hcz22_1, hcz22_2, hcz22_3, hfz22_0, hfz22_1, hfz22_2, hfz22_3⟩ := blk_all4 BK102.out; have p105 : 0 ≤ (x3_2 : Int) := of_decide_eq_true (au3); have q105 : x3_2 < (l0_2.length : Int) := of_decide_eq_true (au3); obtain ⟨ad105, A105_0, c105_0, A105_1, c105_1, A105_7, c105_7, e105, hx105_0, hx105_1, hx105_2, hx105_3, hx105_4, hx105_5, hx105_6, hx105_7, hl105_0, hi105_0, hl105_1, hi105_1, hl105_7, hi105_7⟩ := at_T52 HR0_2.out x3_2 p105 q105; obtain rfl : ad103 = ad105 := (by injection e105); replace hx105_0 := (HB.out.cell (World.block_lt_of_cell? w _ hx105_0)).trans hx105_0; replace hx105_1 := (HB.out.cell (World.block_lt_of_cell? w _ hx105_1)).trans hx105_1; replace hx105_2 := (HB.out.cell (World.block_lt_of_cell? w _ hx105_2)).trans hx105_2; replace hx105_3 := (HB.out.cell (World.block_lt_of_cell? w _ hx105_3)).trans hx105_3; replace hx105_4 := (HB.out.cell (World.block_lt_of_cell? w _ hx105_4)).trans hx105_4; replace hx105_5 := (HB.out.cell (World.block_lt_of_cell? w _ hx105_5)).trans hx105_5; replace hx105_6 := (HB.out.cell (World.block_lt_of_cell? w _ hx105_6)).trans hx105_6; replace hx105_7 := (HB.out.cell (World.block_lt_of_cell? w _ hx105_7)).trans hx105_7; have HR105_0 := Aside0.mk hi105_0; have HC105_0 := Aside0.mk hl105_0; clear hi105_0 hl105_0; have HR105_1 := Aside0.mk hi105_1; have HC105_1 := Aside0.mk hl105_1; clear hi105_1 hl105_1; have HR105_7 := Aside0.mk hi105_7; have HC105_7 := Aside0.mk hl105_7; clear hi105_7 hl105_7; replace p105 := eq_true p105; replace q105 := eq_true q105))
        go_roundg k2
        case measure => have := HJ1.out; have := HK2.out; omega
        case rel => exact ⟨(wrap64 (x3_2 + 1)), (au17), H', ⟨by have := HJ1.out; have := HK2.out; omega⟩, ⟨au54⟩, ⟨au22⟩⟩
/-! ### capstanref03_Copy: function 40 -/
def capstanref03_Copy.f (l0 : List (S86)) : Option ((List (S86))) := if ([] : List (S86)).length + l0.length < 5864062014805 then (some (([] : List (S86)) ++ l0)) else (none)
set_option maxHeartbeats 8000000 in
set_option maxRecDepth 100000 in
theorem capstanref03_Copy.calls (A0 : Option Addr) (c0 : Nat) (l0 : List (S86)) (r : List (S86)) (w : World) (hr0 : Kd.C k86 w A0 l0.length l0) (hc0 : l0.length ≤ c0) (h : capstanref03_Copy.f l0 = some r) :
  Calls Try.prog 40 #[.slice A0 l0.length c0] w fun e w' => ∃ v0_ : Value, e = .returned (v0_) ∧ Kd.R k86 86 w' w.heap.size (fun _ => True) v0_ r ∧ Below w.heap.size w w' := by
 have HR0 := Aside0.mk hr0; have HC0 := Aside0.mk hc0; clear hr0 hc0; have HB := Aside0.mk (Below.refl w.heap.size w); have H : (if ([] : List (S86)).length + l0.length < 5864062014805 then (some (([] : List (S86)) ++ l0)) else (none)) = some r := h; clear h
 by_cases c2 : ([] : List (S86)).length + l0.length < 5864062014805
 rotate_left
 · rw [if_neg c2] at H; exact absurd H (by simp)

 rw [if_pos c2] at H; have LMc2 := Aside0.mk c2; clear c2; obtain ⟨y106, hy106⟩ : ∃ y_ : List (S86), y_ = (([] : List (S86)) ++ l0) := ⟨_, rfl⟩
 replace H : (some y106) = some r := by first | (rw [hy106]; with_reducible exact H) | (have H2_ := (Option.bind_some _ _).symm.trans H; rw [hy106]; with_reducible exact H2_) | (have H2_ := (Option.bind_some _ _).symm.trans H; with_reducible exact H2_) | with_reducible exact H | (rw [hy106]; exact H) | exact H
 have Ny106 := Aside0.mk hy106; clear hy106; obtain rfl := Option.some.inj H
 go_enter Try.func40, Try.ntmps40
 go_wp2_with (first | ((with_reducible refine gate_builtin (b := .append) (xs := #[.tmp 4, .tmp 5]) rfl ?_); at_builtin; refine Kd.R_append_rows k86 (w0 := w) w.heap.size rfl (.tmp 4) (.tmp 5) 22 86 (.agg #[(.int .u8 0), (.int .i64 0), (.int .i64 0)]) 24 rfl Try.underlying22 info86 rfl (by decide) (by omega) (.slice none 0 0) ([] : List (S86)) l0 _ _ _ (fun _ => True) (fun _ => False) rfl rfl ?aO ?aR (fun _ _ h => h) (fun _ h => h.elim) ?aF ?aB ?aS ?aL ?_; (case aR => repeat (first | exact HR0.out | (with_reducible refine Kd.C_alloc ?_ _) | (with_reducible refine Kd.C_drewN ?_ _) | (with_reducible refine Kd.C_drew ?_))); (case aB => exact (au1)); (case aF => exact (fun _ _ => trivial)); (case aO => exact ((Kd.R_nil _ _ _ _ (fun _ => True)))); (case aS => exact (below_size (au1))); (case aL => have := LMc2.out; omega); intro v107 w3 ho hb hg hat; rw [← Ny106.out] at ho; have n0_ := Aside0.mk (hb); have n1_ := Aside0.mk (ho); clear HB; have HB := n0_; have HO108 := n1_; clear n0_ n1_; clear ho hb hg hat))
 go_ret; exact ⟨_, au13, by (with_reducible repeat (first | apply Kd.R_alloc | apply Kd.R_drewN | apply Kd.R_drew)); first | exact HO108.out | exact Kd.R_mono (HO108.out) (fun _ h_ => h_.2), au1⟩
/-! ### capstanref05_Copy: function 41 -/
def capstanref05_Copy.f (l0 : List (S70)) : Option ((List (S70))) := if ([] : List (S70)).length + l0.length < 5864062014805 then (some (([] : List (S70)) ++ l0)) else (none)
set_option maxHeartbeats 8000000 in
set_option maxRecDepth 100000 in
theorem capstanref05_Copy.calls (A0 : Option Addr) (c0 : Nat) (l0 : List (S70)) (r : List (S70)) (w : World) (hr0 : Kd.C k70 w A0 l0.length l0) (hc0 : l0.length ≤ c0) (h : capstanref05_Copy.f l0 = some r) :
  Calls Try.prog 41 #[.slice A0 l0.length c0] w fun e w' => ∃ v0_ : Value, e = .returned (v0_) ∧ Kd.R k70 70 w' w.heap.size (fun _ => True) v0_ r ∧ Below w.heap.size w w' := by
 have HR0 := Aside0.mk hr0; have HC0 := Aside0.mk hc0; clear hr0 hc0; have HB := Aside0.mk (Below.refl w.heap.size w); have H : (if ([] : List (S70)).length + l0.length < 5864062014805 then (some (([] : List (S70)) ++ l0)) else (none)) = some r := h; clear h
 by_cases c2 : ([] : List (S70)).length + l0.length < 5864062014805
 rotate_left
 · rw [if_neg c2] at H; exact absurd H (by simp)

 rw [if_pos c2] at H; have LMc2 := Aside0.mk c2; clear c2; obtain ⟨y109, hy109⟩ : ∃ y_ : List (S70), y_ = (([] : List (S70)) ++ l0) := ⟨_, rfl⟩
 replace H : (some y109) = some r := by first | (rw [hy109]; with_reducible exact H) | (have H2_ := (Option.bind_some _ _).symm.trans H; rw [hy109]; with_reducible exact H2_) | (have H2_ := (Option.bind_some _ _).symm.trans H; with_reducible exact H2_) | with_reducible exact H | (rw [hy109]; exact H) | exact H
 have Ny109 := Aside0.mk hy109; clear hy109; obtain rfl := Option.some.inj H
 go_enter Try.func41, Try.ntmps41
 go_wp2_with (first | ((with_reducible refine gate_builtin (b := .append) (xs := #[.tmp 4, .tmp 5]) rfl ?_); at_builtin; refine Kd.R_append_rows k70 (w0 := w) w.heap.size rfl (.tmp 4) (.tmp 5) 50 70 (.agg #[(.int .u8 0), (.int .i64 0), (.int .i64 0)]) 24 rfl Try.underlying50 info70 rfl (by decide) (by omega) (.slice none 0 0) ([] : List (S70)) l0 _ _ _ (fun _ => True) (fun _ => False) rfl rfl ?aO ?aR (fun _ _ h => h) (fun _ h => h.elim) ?aF ?aB ?aS ?aL ?_; (case aR => repeat (first | exact HR0.out | (with_reducible refine Kd.C_alloc ?_ _) | (with_reducible refine Kd.C_drewN ?_ _) | (with_reducible refine Kd.C_drew ?_))); (case aB => exact (au1)); (case aF => exact (fun _ _ => trivial)); (case aO => exact ((Kd.R_nil _ _ _ _ (fun _ => True)))); (case aS => exact (below_size (au1))); (case aL => have := LMc2.out; omega); intro v110 w3 ho hb hg hat; rw [← Ny109.out] at ho; have n0_ := Aside0.mk (hb); have n1_ := Aside0.mk (ho); clear HB; have HB := n0_; have HO111 := n1_; clear n0_ n1_; clear ho hb hg hat))
 go_ret; exact ⟨_, au13, by (with_reducible repeat (first | apply Kd.R_alloc | apply Kd.R_drewN | apply Kd.R_drew)); first | exact HO111.out | exact Kd.R_mono (HO111.out) (fun _ h_ => h_.2), au1⟩
end Go.Proofs.Ytkmnachdibhdhaa.U
