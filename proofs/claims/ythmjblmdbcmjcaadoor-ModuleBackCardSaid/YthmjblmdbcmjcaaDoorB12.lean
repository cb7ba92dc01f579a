/- Contracts of functions of this seat. -/
import Derived.Test.YthmjblmdbcmjcaaDoorB0
namespace Go.Proofs.YthmjblmdbcmjcaaDoor.B
open Go.RowKit Go.Proofs.YthmjblmdbcmjcaaDoorW.PrintWords Go.Proofs.YthmjblmdbcmjcaaDoorW.PrintLast Go.Proofs.YthmjblmdbcmjcaaDoorW.PrintMore
attribute [local go_sem] max2_int min2_int max_two min_two max_three min_three max_four min_four
set_option linter.unusedVariables false
set_option linter.unusedSimpArgs false

/-! ### capstanlaw07_Great: function 42 -/
def capstanlaw07_Great.f (l0_0 : List Int) (l0_1 : List Int) (a0_2 : Int) (a0_3 : Bool) (a0_4 : Int) (a0_5 : Int) (a0_6 : Int) (l0_7 : List (S75)) : Option (Bool) := if (l0_0.length : Int) > 100 then (some true) else (some (decide ((l0_1.length : Int) > 100)))
set_option maxHeartbeats 8000000 in
set_option maxRecDepth 100000 in
theorem capstanlaw07_Great.calls (A0_0 : Option Addr) (c0_0 : Nat) (l0_0 : List Int) (A0_1 : Option Addr) (c0_1 : Nat) (l0_1 : List Int) (a0_2 : Int) (a0_3 : Bool) (a0_4 : Int) (a0_5 : Int) (a0_6 : Int) (A0_7 : Option Addr) (c0_7 : Nat) (l0_7 : List (S75)) (r : Bool) (w : World) (hr0_0 : Kd.C (Kd.int .u8) w A0_0 l0_0.length l0_0) (hc0_0 : l0_0.length ≤ c0_0) (hr0_1 : Kd.C (Kd.int .u8) w A0_1 l0_1.length l0_1) (hc0_1 : l0_1.length ≤ c0_1) (hr0_7 : Kd.C k75 w A0_7 l0_7.length l0_7) (hc0_7 : l0_7.length ≤ c0_7) (h : capstanlaw07_Great.f l0_0 l0_1 a0_2 a0_3 a0_4 a0_5 a0_6 l0_7 = some r) :
  Calls Tryd.prog 42 #[.agg #[.slice A0_0 l0_0.length c0_0, .slice A0_1 l0_1.length c0_1, .int .u8 a0_2, .bool a0_3, .int .i64 a0_4, .int .i64 a0_5, .int .i64 a0_6, .slice A0_7 l0_7.length c0_7]] w fun e w' => e = .returned (.bool r) ∧ Below w.heap.size w w' := by
 have hu47 := Tryd.underlying47; have HR0_0 := Aside0.mk hr0_0; have HC0_0 := Aside0.mk hc0_0; clear hr0_0 hc0_0; have HR0_1 := Aside0.mk hr0_1; have HC0_1 := Aside0.mk hc0_1; clear hr0_1 hc0_1; have HR0_7 := Aside0.mk hr0_7; have HC0_7 := Aside0.mk hc0_7; clear hr0_7 hc0_7; have HB := Aside0.mk (Below.refl w.heap.size w); have H := h; unfold capstanlaw07_Great.f at H; clear h
 by_cases c2 : (l0_0.length : Int) > 100
 ·
  rw [if_pos c2] at H; have c2b0 : decide (100 < (l0_0.length : Int)) = true := decide_eq_true c2; have c2b1 : decide (100 < l0_0.length) = true := decide_eq_true (by omega); clear c2; obtain rfl := Option.some.inj H
  go_enter Tryd.func42, Tryd.ntmps42
  go_wp2_with (first | ((with_reducible refine gate_dst (N := 1) rfl ?_); (try (refine gate_guard (by rfl) ?_; dsimp only)); refine sq_box (N := 1) (cs := #[.slice A0_0 l0_0.length c0_0, .slice A0_1 l0_1.length c0_1, .int .u8 a0_2, .bool a0_3, .int .i64 a0_4, .int .i64 a0_5, .int .i64 a0_6, .slice A0_7 l0_7.length c0_7]) (t := 47) ?_; intro gb170 hg w3 hbox hb; have n_ := sq_n4 (below_step (au1) hb) hbox ((au25 : w.heap.size ≤ gb170)) ((au25 : w.heap.size ≤ gb170)); clear HB; obtain ⟨HB, BK170, GW170, GE170⟩ := n_; clear hb hbox hg; have hz4 := blk_all8 BK170.out))
  go_ret; exact ⟨au7, by repeat (first | (with_reducible first | exact HB.out | apply below_alloc | apply pw_below_drewN | apply below_drew1 | refine below_set ?_ GE170.out) | exact HB.out | exact ⟨HB.out.os, HB.out.tape, HB.out.output, HB.out.size, HB.out.block⟩)⟩
 ·
  rw [if_neg c2] at H; have c2b0 : decide (100 < (l0_0.length : Int)) = false := decide_eq_false c2; have c2b1 : decide (100 < l0_0.length) = false := decide_eq_false (by omega); clear c2; obtain rfl := Option.some.inj H
  go_enter Tryd.func42, Tryd.ntmps42
  go_wp2_with (first | ((with_reducible refine gate_dst (N := 1) rfl ?_); (try (refine gate_guard (by rfl) ?_; dsimp only)); refine sq_box (N := 1) (cs := #[.slice A0_0 l0_0.length c0_0, .slice A0_1 l0_1.length c0_1, .int .u8 a0_2, .bool a0_3, .int .i64 a0_4, .int .i64 a0_5, .int .i64 a0_6, .slice A0_7 l0_7.length c0_7]) (t := 47) ?_; intro gb170 hg w5 hbox hb; have n_ := sq_n4 (below_step (au1) hb) hbox ((au25 : w.heap.size ≤ gb170)) ((au25 : w.heap.size ≤ gb170)); clear HB; obtain ⟨HB, BK170, GW170, GE170⟩ := n_; clear hb hbox hg; have hz6 := blk_all8 BK170.out))
  go_ret; exact ⟨au7, by repeat (first | (with_reducible first | exact HB.out | apply below_alloc | apply pw_below_drewN | apply below_drew1 | refine below_set ?_ GE170.out) | exact HB.out | exact ⟨HB.out.os, HB.out.tape, HB.out.output, HB.out.size, HB.out.block⟩)⟩

/-! ### capstanlaw08_Great: function 12 -/
mutual
def capstanlaw08_Great.j0 : Nat → Bool → List (S73) → List (S73) → List (S47) → Int → Option (Bool)
 | 0, _, _, _, _, _ => none
 | k + 1, x19, x172000, x172001, x172002, x172003 => if x19 = true then (some true) else (capstanlaw08_Great.l0 k 0 x172000 x172001 x172002 x172003)
def capstanlaw08_Great.l0 : Nat → Int → List (S73) → List (S73) → List (S47) → Int → Option (Bool)
 | 0, _, _, _, _, _ => none
 | k + 1, x3, x172000, x172001, x172002, x172003 => if x3 < (x172002.length : Int) then (if 0 ≤ x3 then ((capstanlaw07_Great.f ((rd_T47 x172002 x3).f0) ((rd_T47 x172002 x3).f1) ((rd_T47 x172002 x3).f2) ((rd_T47 x172002 x3).f3) ((rd_T47 x172002 x3).f4) ((rd_T47 x172002 x3).f5) ((rd_T47 x172002 x3).f6) ((rd_T47 x172002 x3).f7)).bind fun t173 => (if t173 = true then (some true) else (if (((rd_T47 x172002 x3).f7).length : Int) > 300 then (some true) else (capstanlaw08_Great.l0 k (wrap64 (x3 + 1)) x172000 x172001 x172002 x172003)))) else (none)) else (some false)
end
def capstanlaw08_Great.f (k : Nat) (l0_0 : List (S73)) (l0_1 : List (S73)) (l0_2 : List (S47)) (a0_3 : Int) : Option (Bool) := if (l0_0.length : Int) > 100 then (capstanlaw08_Great.j0 k true l0_0 l0_1 l0_2 a0_3) else (if (l0_1.length : Int) > 100 then (capstanlaw08_Great.j0 k true l0_0 l0_1 l0_2 a0_3) else (capstanlaw08_Great.j0 k (decide ((l0_2.length : Int) > 40)) l0_0 l0_1 l0_2 a0_3))
theorem capstanlaw08_Great.mono_l : ∀ k, (∀ y0 y1 y2 y3 y4, LeO (capstanlaw08_Great.j0 k y0 y1 y2 y3 y4) (capstanlaw08_Great.j0 (k + 1) y0 y1 y2 y3 y4)) ∧ (∀ y0 y1 y2 y3 y4, LeO (capstanlaw08_Great.l0 k y0 y1 y2 y3 y4) (capstanlaw08_Great.l0 (k + 1) y0 y1 y2 y3 y4))
 | 0 => ⟨fun _ _ _ _ _ r h => by simp [capstanlaw08_Great.j0] at h, fun _ _ _ _ _ r h => by simp [capstanlaw08_Great.l0] at h⟩
 | k + 1 => by
  obtain ⟨ih0, ih1⟩ := capstanlaw08_Great.mono_l k; refine ⟨?_, ?_⟩
  ·
   intro y0 y1 y2 y3 y4
   unfold capstanlaw08_Great.j0
   repeat' first | (with_reducible first | apply ih0 | apply ih1 | apply LeO.refl | apply LeO.none | refine LeO.ite ?_ ?_ | refine LeO.bind ?_ (fun _ => ?_)) | apply ih0 | apply ih1 | apply LeO.none | refine LeO.ite ?_ ?_ | refine LeO.bind ?_ (fun _ => ?_)
  ·
   intro y0 y1 y2 y3 y4
   unfold capstanlaw08_Great.l0
   repeat' first | (with_reducible first | apply ih0 | apply ih1 | apply LeO.refl | apply LeO.none | refine LeO.ite ?_ ?_ | refine LeO.bind ?_ (fun _ => ?_)) | apply ih0 | apply ih1 | apply LeO.none | refine LeO.ite ?_ ?_ | refine LeO.bind ?_ (fun _ => ?_)
theorem capstanlaw08_Great.mono : ∀ a0 a1 a2 a3 k, LeO (capstanlaw08_Great.f k a0 a1 a2 a3) (capstanlaw08_Great.f (k + 1) a0 a1 a2 a3) := by
 intro a0 a1 a2 a3 k; obtain ⟨ih0, ih1⟩ := capstanlaw08_Great.mono_l k
 unfold capstanlaw08_Great.f
 repeat' first | (with_reducible first | apply ih0 | apply ih1 | apply LeO.refl | apply LeO.none | refine LeO.ite ?_ ?_ | refine LeO.bind ?_ (fun _ => ?_)) | apply ih0 | apply ih1 | apply LeO.none | refine LeO.ite ?_ ?_ | refine LeO.bind ?_ (fun _ => ?_)
set_option maxHeartbeats 8000000 in
set_option maxRecDepth 100000 in
theorem capstanlaw08_Great.calls (k : Nat) (A0_0 : Option Addr) (c0_0 : Nat) (l0_0 : List (S73)) (A0_1 : Option Addr) (c0_1 : Nat) (l0_1 : List (S73)) (A0_2 : Option Addr) (c0_2 : Nat) (l0_2 : List (S47)) (a0_3 : Int) (r : Bool) (w : World) (hr0_0 : Kd.C k73 w A0_0 l0_0.length l0_0) (hc0_0 : l0_0.length ≤ c0_0) (hr0_1 : Kd.C k73 w A0_1 l0_1.length l0_1) (hc0_1 : l0_1.length ≤ c0_1) (hr0_2 : Kd.C k47 w A0_2 l0_2.length l0_2) (hc0_2 : l0_2.length ≤ c0_2) (h : capstanlaw08_Great.f k l0_0 l0_1 l0_2 a0_3 = some r) :
  Calls Tryd.prog 12 #[.agg #[.slice A0_0 l0_0.length c0_0, .slice A0_1 l0_1.length c0_1, .slice A0_2 l0_2.length c0_2, .int .i64 a0_3]] w fun e w' => e = .returned (.bool r) ∧ Below w.heap.size w w' := by
 have hu26 := Tryd.underlying26; have hu47 := Tryd.underlying47; have HR0_0 := Aside0.mk hr0_0; have HC0_0 := Aside0.mk hc0_0; clear hr0_0 hc0_0; have HR0_1 := Aside0.mk hr0_1; have HC0_1 := Aside0.mk hc0_1; clear hr0_1 hc0_1; have HR0_2 := Aside0.mk hr0_2; have HC0_2 := Aside0.mk hc0_2; clear hr0_2 hc0_2; have HB := Aside0.mk (Below.refl w.heap.size w); have H := h; unfold capstanlaw08_Great.f at H; clear h; have HC2 := Aside0.mk H; clear H
 go_enter Tryd.func12, Tryd.ntmps12
 go_upto_region 1 with (first | ((with_reducible refine gate_dst (N := 1) rfl ?_); (try (refine gate_guard (by rfl) ?_; dsimp only)); refine sq_box (N := 1) (cs := #[.slice A0_0 l0_0.length c0_0, .slice A0_1 l0_1.length c0_1, .slice A0_2 l0_2.length c0_2, .int .i64 a0_3]) (t := 26) ?_; intro gb171 hg w3 hbox hb; have n_ := sq_n4 (below_step (au1) hb) hbox ((au25 : w.heap.size ≤ gb171)) ((au25 : w.heap.size ≤ gb171)); clear HB; obtain ⟨HB, BK171, GW171, GE171⟩ := n_; clear hb hbox hg))
 (try simp only [Act.put, List.setIfInBounds_toArray, List.set_cons_zero, List.set_cons_succ])
 go_cut [19] (fun v19 wc => ∃ (kq : Nat) (x19_1 : Bool), v19 = .bool x19_1 ∧ Aside0 (capstanlaw08_Great.j0 kq x19_1 l0_0 l0_1 l0_2 a0_3 = some r) ∧ Aside0 (kq ≤ k) ∧ Aside0 (wc.heap[gb171]? = some (.cells #[(.slice A0_0 l0_0.length c0_0), (.slice A0_1 l0_1.length c0_1), (.slice A0_2 l0_2.length c0_2), .int .i64 a0_3] 26 (0, 0))) ∧ Aside0 (Below w.heap.size w wc))
 case first =>
  have H := HC2.out; clear HC2
  by_cases c4 : (l0_0.length : Int) > 100
  ·
   rw [if_pos c4] at H; have c4b0 : decide (100 < (l0_0.length : Int)) = true := decide_eq_true c4; have c4b1 : decide (100 < l0_0.length) = true := decide_eq_true (by omega); clear c4
   (first | rw [c4b0] | (simp only [i64_w, i32_w]; rw [c4b0]) | skip)
   have H' := Aside0.mk H; clear H; have hz5 := blk_all4 BK171.out; go_wp2; go_meet
   case rel => exact ⟨_, (true), (au16), H', ⟨au117⟩, ⟨au110⟩, ⟨au34⟩⟩
  ·
   rw [if_neg c4] at H; have c4b0 : decide (100 < (l0_0.length : Int)) = false := decide_eq_false c4; have c4b1 : decide (100 < l0_0.length) = false := decide_eq_false (by omega); clear c4
   (first | rw [c4b0] | (simp only [i64_w, i32_w]; rw [c4b0]) | skip)
   by_cases c6 : (l0_1.length : Int) > 100
   ·
    rw [if_pos c6] at H; have c6b0 : decide (100 < (l0_1.length : Int)) = true := decide_eq_true c6; have c6b1 : decide (100 < l0_1.length) = true := decide_eq_true (by omega); clear c6; have H' := Aside0.mk H; clear H; have hz7 := blk_all4 BK171.out; go_wp2; go_meet
    case rel => exact ⟨_, (true), (au16), H', ⟨au117⟩, ⟨au110⟩, ⟨au34⟩⟩
   ·
    rw [if_neg c6] at H; have c6b0 : decide (100 < (l0_1.length : Int)) = false := decide_eq_false c6; have c6b1 : decide (100 < l0_1.length) = false := decide_eq_false (by omega); clear c6; have H' := Aside0.mk H; clear H; have hz8 := blk_all4 BK171.out; go_wp2; go_meet
    case rel => exact ⟨_, (decide ((l0_2.length : Int) > 40)), (au16), H', ⟨au117⟩, ⟨au110⟩, ⟨au34⟩⟩
 case rest =>
  clear HC2; obtain ⟨kq, x19_1, rfl, HA, HJ1, BK171, HB⟩ := hcut
  cases kq with
  | zero => exact absurd HA.out (by simp [capstanlaw08_Great.j0])
  | succ kj1 =>
   have H := HA.out; clear HA; simp only [capstanlaw08_Great.j0] at H
   by_cases c9 : x19_1 = true
   ·
    subst c9
    rw [if_pos rfl] at H; obtain rfl := Option.some.inj H; go_wp2; go_ret; exact ⟨au7, au34⟩
   ·
    replace c9 := Bool.eq_false_iff.mpr c9; subst c9
    rw [sq_f] at H; have H' := Aside0.mk H; clear H; go_wp2
    go_loopg [3] kj1 (fun kq v3 w' => ∃ (x3_2 : Int), v3 = .int .i64 x3_2 ∧ Aside0 (capstanlaw08_Great.l0 kq x3_2 l0_0 l0_1 l0_2 a0_3 = some r) ∧ Aside0 (kq ≤ kj1) ∧ Aside0 (w'.heap[gb171]? = some (.cells #[(.slice A0_0 l0_0.length c0_0), (.slice A0_1 l0_1.length c0_1), (.slice A0_2 l0_2.length c0_2), .int .i64 a0_3] 26 (0, 0))) ∧ Aside0 (Below w.heap.size w w'))
    case atStart => exact ⟨(0), (au16), H', ⟨Nat.le_refl _⟩, ⟨au110⟩, ⟨au34⟩⟩
    case round =>
     clear H'; (try clear c1); (try clear p2); (try clear c4); (try clear c4b0); (try clear c4b1); (try clear c6); (try clear c6b0); (try clear c6b1); (try clear c9); (try clear hz5); (try clear hz7); (try clear hz8); (try clear hz5); (try clear hz7); (try clear hz8); (try clear p2); obtain ⟨x3_2, rfl, HA, HK2, BK171, HB⟩ := hrel
     cases gk with
     | zero => exact absurd HA.out (by simp [capstanlaw08_Great.l0])
     | succ k2 =>
      have H := HA.out; clear HA; simp only [capstanlaw08_Great.l0] at H
      by_cases c10 : x3_2 < (l0_2.length : Int)
      rotate_left
      · rw [if_neg c10] at H; have c10b0 : decide (x3_2 < (l0_2.length : Int)) = false := decide_eq_false c10; clear c10; obtain rfl := Option.some.inj H; have hz23 := blk_all4 BK171.out; go_wp2; go_ret; exact ⟨au7, au34⟩

      rw [if_pos c10] at H; have c10b0 : decide (x3_2 < (l0_2.length : Int)) = true := decide_eq_true c10; clear c10
      by_cases c11 : 0 ≤ x3_2
      rotate_left
      · rw [if_neg c11] at H; exact absurd H (by simp)
      rw [if_pos c11] at H; have c11b0 : decide (0 ≤ x3_2) = true := decide_eq_true c11; clear c11; obtain ⟨t173, A12, H⟩ := sq_bind H
      by_cases c13 : t173 = true
      ·
       subst c13
       rw [if_pos rfl] at H; obtain rfl := Option.some.inj H; have hz14 := blk_all4 BK171.out; have p172 : 0 ≤ (x3_2 : Int) := of_decide_eq_true (au9); have q172 : x3_2 < (l0_2.length : Int) := of_decide_eq_true (au9); obtain ⟨ad172, A172_0, c172_0, A172_1, c172_1, A172_7, c172_7, e172, hx172_0, hx172_1, hx172_2, hx172_3, hx172_4, hx172_5, hx172_6, hx172_7, hl172_0, hi172_0, hl172_1, hi172_1, hl172_7, hi172_7⟩ := at_T47 HR0_2.out x3_2 p172 q172; cases e172; replace hx172_0 := sq_c HB hx172_0; replace hx172_1 := sq_c HB hx172_1; replace hx172_2 := sq_c HB hx172_2; replace hx172_3 := sq_c HB hx172_3; replace hx172_4 := sq_c HB hx172_4; replace hx172_5 := sq_c HB hx172_5; replace hx172_6 := sq_c HB hx172_6; replace hx172_7 := sq_c HB hx172_7; have HR172_0 := Aside0.mk hi172_0; have HC172_0 := Aside0.mk hl172_0; clear hi172_0 hl172_0; have HR172_1 := Aside0.mk hi172_1; have HC172_1 := Aside0.mk hl172_1; clear hi172_1 hl172_1; have HR172_7 := Aside0.mk hi172_7; have HC172_7 := Aside0.mk hl172_7; clear hi172_7 hl172_7; replace p172 := eq_true p172; replace q172 := eq_true q172
       go_wp2_with (first | ((with_reducible refine gate_callee (f := 42) rfl ?_); refine goesL_ (some 32) rfl rfl Tryd.func42 (by kernel_rfl) rfl #[.agg #[.slice A172_0 ((rd_T47 l0_2 x3_2).f0).length c172_0, .slice A172_1 ((rd_T47 l0_2 x3_2).f1).length c172_1, .int .u8 ((rd_T47 l0_2 x3_2).f2), .bool ((rd_T47 l0_2 x3_2).f3), .int .i64 ((rd_T47 l0_2 x3_2).f4), .int .i64 ((rd_T47 l0_2 x3_2).f5), .int .i64 ((rd_T47 l0_2 x3_2).f6), .slice A172_7 ((rd_T47 l0_2 x3_2).f7).length c172_7]] rfl (au2) ?_; (with_reducible refine (capstanlaw07_Great.calls _ _ ((rd_T47 l0_2 x3_2).f0) _ _ ((rd_T47 l0_2 x3_2).f1) ((rd_T47 l0_2 x3_2).f2) ((rd_T47 l0_2 x3_2).f3) ((rd_T47 l0_2 x3_2).f4) ((rd_T47 l0_2 x3_2).f5) ((rd_T47 l0_2 x3_2).f6) _ _ ((rd_T47 l0_2 x3_2).f7) true _ ?side1 ?side2 ?side3 ?side4 ?side5 ?side6 A12.out).mono ?_); (case side1 => exact au165); (case side2 => exact HC172_0.out); (case side3 => exact au166); (case side4 => exact HC172_1.out); (case side5 => exact au167); (case side6 => exact HC172_7.out); rintro e w15 ⟨rfl, hb⟩; refine ⟨_, rfl, ?_⟩; have n_ := sq_n2 (blk_below (au110) hb) (below_step (au34) hb); clear BK171 HB; obtain ⟨BK171, HB⟩ := n_; (try clear hb)))
       go_ret; exact ⟨au7, au34⟩
      ·
       replace c13 := Bool.eq_false_iff.mpr c13; subst c13
       rw [sq_f] at H
       by_cases c16 : (((rd_T47 l0_2 x3_2).f7).length : Int) > 300
       ·
        rw [if_pos c16] at H; have c16b0 : decide (300 < (((rd_T47 l0_2 x3_2).f7).length : Int)) = true := decide_eq_true c16; have c16b1 : decide (300 < ((rd_T47 l0_2 x3_2).f7).length) = true := decide_eq_true (by omega); clear c16; obtain rfl := Option.some.inj H; have hz17 := blk_all4 BK171.out; have p172 : 0 ≤ (x3_2 : Int) := of_decide_eq_true (au9); have q172 : x3_2 < (l0_2.length : Int) := of_decide_eq_true (au9); obtain ⟨ad172, A172_0, c172_0, A172_1, c172_1, A172_7, c172_7, e172, hx172_0, hx172_1, hx172_2, hx172_3, hx172_4, hx172_5, hx172_6, hx172_7, hl172_0, hi172_0, hl172_1, hi172_1, hl172_7, hi172_7⟩ := at_T47 HR0_2.out x3_2 p172 q172; cases e172; replace hx172_0 := sq_c HB hx172_0; replace hx172_1 := sq_c HB hx172_1; replace hx172_2 := sq_c HB hx172_2; replace hx172_3 := sq_c HB hx172_3; replace hx172_4 := sq_c HB hx172_4; replace hx172_5 := sq_c HB hx172_5; replace hx172_6 := sq_c HB hx172_6; replace hx172_7 := sq_c HB hx172_7; have HR172_0 := Aside0.mk hi172_0; have HC172_0 := Aside0.mk hl172_0; clear hi172_0 hl172_0; have HR172_1 := Aside0.mk hi172_1
        have HC172_1 := Aside0.mk hl172_1; clear hi172_1 hl172_1; have HR172_7 := Aside0.mk hi172_7; have HC172_7 := Aside0.mk hl172_7; clear hi172_7 hl172_7; replace p172 := eq_true p172; replace q172 := eq_true q172
        go_wp2_with (first | ((with_reducible refine gate_callee (f := 42) rfl ?_); refine goesL_ (some 32) rfl rfl Tryd.func42 (by kernel_rfl) rfl #[.agg #[.slice A172_0 ((rd_T47 l0_2 x3_2).f0).length c172_0, .slice A172_1 ((rd_T47 l0_2 x3_2).f1).length c172_1, .int .u8 ((rd_T47 l0_2 x3_2).f2), .bool ((rd_T47 l0_2 x3_2).f3), .int .i64 ((rd_T47 l0_2 x3_2).f4), .int .i64 ((rd_T47 l0_2 x3_2).f5), .int .i64 ((rd_T47 l0_2 x3_2).f6), .slice A172_7 ((rd_T47 l0_2 x3_2).f7).length c172_7]] rfl (au2) ?_; (with_reducible refine (capstanlaw07_Great.calls _ _ ((rd_T47 l0_2 x3_2).f0) _ _ ((rd_T47 l0_2 x3_2).f1) ((rd_T47 l0_2 x3_2).f2) ((rd_T47 l0_2 x3_2).f3) ((rd_T47 l0_2 x3_2).f4) ((rd_T47 l0_2 x3_2).f5) ((rd_T47 l0_2 x3_2).f6) _ _ ((rd_T47 l0_2 x3_2).f7) false _ ?side1 ?side2 ?side3 ?side4 ?side5 ?side6 A12.out).mono ?_); (case side1 => exact au165); (case side2 => exact HC172_0.out); (case side3 => exact au166); (case side4 => exact HC172_1.out); (case side5 => exact au167); (case side6 => exact HC172_7.out); rintro e w18 ⟨rfl, hb⟩; refine ⟨_, rfl, ?_⟩; have n_ := sq_n2 (blk_below (au110) hb) (below_step (au34) hb); clear BK171 HB; obtain ⟨BK171, HB⟩ := n_; (try clear hb); have hz19 := blk_all4 BK171.out; have p174 : 0 ≤ (x3_2 : Int) := of_decide_eq_true (au9); have q174 : x3_2 < (l0_2.length : Int) := of_decide_eq_true (au9); obtain ⟨ad174, A174_0, c174_0, A174_1, c174_1, A174_7, c174_7, e174, hx174_0, hx174_1, hx174_2, hx174_3, hx174_4, hx174_5, hx174_6, hx174_7, hl174_0, hi174_0, hl174_1, hi174_1, hl174_7, hi174_7⟩ := at_T47 HR0_2.out x3_2 p174 q174; obtain rfl : ad172 = ad174 := (by injection e174); replace hx174_0 := sq_c HB hx174_0; replace hx174_1 := sq_c HB hx174_1; replace hx174_2 := sq_c HB hx174_2; replace hx174_3 := sq_c HB hx174_3; replace hx174_4 := sq_c HB hx174_4; replace hx174_5 := sq_c HB hx174_5; replace hx174_6 := sq_c HB hx174_6; replace hx174_7 := sq_c HB hx174_7; have HR174_0 := Aside0.mk hi174_0; have HC174_0 := Aside0.mk hl174_0; clear hi174_0 hl174_0; have HR174_1 := Aside0.mk hi174_1; have HC174_1 := Aside0.mk hl174_1; clear hi174_1 hl174_1; have HR174_7 := Aside0.mk hi174_7; have HC174_7 := Aside0.mk hl174_7; clear hi174_7 hl174_7; replace p174 := eq_true p174; replace q174 := eq_true q174))
        go_ret; exact ⟨au7, au34⟩
       ·
        rw [if_neg c16] at H; have c16b0 : decide (300 < (((rd_T47 l0_2 x3_2).f7).length : Int)) = false := decide_eq_false c16; have c16b1 : decide (300 < ((rd_T47 l0_2 x3_2).f7).length) = false := decide_eq_false (by omega); clear c16; have H' := Aside0.mk H; clear H; have hz20 := blk_all4 BK171.out; have p172 : 0 ≤ (x3_2 : Int) := of_decide_eq_true (au9); have q172 : x3_2 < (l0_2.length : Int) := of_decide_eq_true (au9); obtain ⟨ad172, A172_0, c172_0, A172_1, c172_1, A172_7, c172_7, e172, hx172_0, hx172_1, hx172_2, hx172_3, hx172_4, hx172_5, hx172_6, hx172_7, hl172_0, hi172_0, hl172_1, hi172_1, hl172_7, hi172_7⟩ := at_T47 HR0_2.out x3_2 p172 q172; cases e172; replace hx172_0 := sq_c HB hx172_0; replace hx172_1 := sq_c HB hx172_1; replace hx172_2 := sq_c HB hx172_2; replace hx172_3 := sq_c HB hx172_3; replace hx172_4 := sq_c HB hx172_4; replace hx172_5 := sq_c HB hx172_5; replace hx172_6 := sq_c HB hx172_6; replace hx172_7 := sq_c HB hx172_7; have HR172_0 := Aside0.mk hi172_0; have HC172_0 := Aside0.mk hl172_0; clear hi172_0 hl172_0; have HR172_1 := Aside0.mk hi172_1
        have HC172_1 := Aside0.mk hl172_1; clear hi172_1 hl172_1; have HR172_7 := Aside0.mk hi172_7; have HC172_7 := Aside0.mk hl172_7; clear hi172_7 hl172_7; replace p172 := eq_true p172; replace q172 := eq_true q172
        go_wp2_with (first | ((with_reducible refine gate_callee (f := 42) rfl ?_); refine goesL_ (some 32) rfl rfl Tryd.func42 (by kernel_rfl) rfl #[.agg #[.slice A172_0 ((rd_T47 l0_2 x3_2).f0).length c172_0, .slice A172_1 ((rd_T47 l0_2 x3_2).f1).length c172_1, .int .u8 ((rd_T47 l0_2 x3_2).f2), .bool ((rd_T47 l0_2 x3_2).f3), .int .i64 ((rd_T47 l0_2 x3_2).f4), .int .i64 ((rd_T47 l0_2 x3_2).f5), .int .i64 ((rd_T47 l0_2 x3_2).f6), .slice A172_7 ((rd_T47 l0_2 x3_2).f7).length c172_7]] rfl (au2) ?_; (with_reducible refine (capstanlaw07_Great.calls _ _ ((rd_T47 l0_2 x3_2).f0) _ _ ((rd_T47 l0_2 x3_2).f1) ((rd_T47 l0_2 x3_2).f2) ((rd_T47 l0_2 x3_2).f3) ((rd_T47 l0_2 x3_2).f4) ((rd_T47 l0_2 x3_2).f5) ((rd_T47 l0_2 x3_2).f6) _ _ ((rd_T47 l0_2 x3_2).f7) false _ ?side1 ?side2 ?side3 ?side4 ?side5 ?side6 A12.out).mono ?_); (case side1 => exact au165); (case side2 => exact HC172_0.out); (case side3 => exact au166); (case side4 => exact HC172_1.out); (case side5 => exact au167); (case side6 => exact HC172_7.out); rintro e w21 ⟨rfl, hb⟩; refine ⟨_, rfl, ?_⟩; have n_ := sq_n2 (blk_below (au110) hb) (below_step (au34) hb); clear BK171 HB; obtain ⟨BK171, HB⟩ := n_; (try clear hb); have hz22 := blk_all4 BK171.out; have p174 : 0 ≤ (x3_2 : Int) := of_decide_eq_true (au9); have q174 : x3_2 < (l0_2.length : Int) := of_decide_eq_true (au9); obtain ⟨ad174, A174_0, c174_0, A174_1, c174_1, A174_7, c174_7, e174, hx174_0, hx174_1, hx174_2, hx174_3, hx174_4, hx174_5, hx174_6, hx174_7, hl174_0, hi174_0, hl174_1, hi174_1, hl174_7, hi174_7⟩ := at_T47 HR0_2.out x3_2 p174 q174; obtain rfl : ad172 = ad174 := (by injection e174); replace hx174_0 := sq_c HB hx174_0; replace hx174_1 := sq_c HB hx174_1; replace hx174_2 := sq_c HB hx174_2; replace hx174_3 := sq_c HB hx174_3; replace hx174_4 := sq_c HB hx174_4; replace hx174_5 := sq_c HB hx174_5; replace hx174_6 := sq_c HB hx174_6; replace hx174_7 := sq_c HB hx174_7; have HR174_0 := Aside0.mk hi174_0; have HC174_0 := Aside0.mk hl174_0; clear hi174_0 hl174_0; have HR174_1 := Aside0.mk hi174_1; have HC174_1 := Aside0.mk hl174_1; clear hi174_1 hl174_1; have HR174_7 := Aside0.mk hi174_7; have HC174_7 := Aside0.mk hl174_7; clear hi174_7 hl174_7; replace p174 := eq_true p174; replace q174 := eq_true q174))
        go_roundg k2
        case measure => have := HJ1.out; have := HK2.out; omega
        case rel => exact ⟨(wrap64 (x3_2 + 1)), (au16), H', ⟨by have := HJ1.out; have := HK2.out; omega⟩, ⟨au110⟩, ⟨au34⟩⟩
end Go.Proofs.YthmjblmdbcmjcaaDoor.B
