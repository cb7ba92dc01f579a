/- Contracts of functions of this seat. -/
import Derived.Test.YthmjblmdbcmjcaaDoorP0
namespace Go.Proofs.YthmjblmdbcmjcaaDoor.P
open Go.RowKit Go.Proofs.YthmjblmdbcmjcaaDoorW.PrintWords Go.Proofs.YthmjblmdbcmjcaaDoorW.PrintLast Go.Proofs.YthmjblmdbcmjcaaDoorW.PrintMore
attribute [local go_sem] max2_int min2_int max_two min_two max_three min_three max_four min_four
set_option linter.unusedVariables false
set_option linter.unusedSimpArgs false

/-! ### capstanlaw07_Great: function 42 -/
def capstanlaw07_Great.f (l0_0 : List Int) (l0_1 : List Int) (a0_2 : Int) (a0_3 : Bool) (a0_4 : Int) (a0_5 : Int) (a0_6 : Int) (l0_7 : List (S75)) : Option (Bool) := if (l0_0.length : Int) > 100 then (some true) else (some (decide ((l0_1.length : Int) > 100)))
set_option maxHeartbeats 8000000 in
set_option maxRecDepth 100000 in
theorem capstanlaw07_Great.calls (A0_0 : Option Addr) (c0_0 : Nat) (l0_0 : List Int) (A0_1 : Option Addr) (c0_1 : Nat) (l0_1 : List Int) (a0_2 : Int) (a0_3 : Bool) (a0_4 : Int) (a0_5 : Int) (a0_6 : Int) (A0_7 : Option Addr) (c0_7 : Nat) (l0_7 : List (S75)) (r : Bool) (w : World) (hr0_0 : Kd.C (Kd.int .u8) w A0_0 l0_0.length l0_0) (hc0_0 : l0_0.length ≤ c0_0) (hr0_1 : Kd.C (Kd.int .u8) w A0_1 l0_1.length l0_1) (hc0_1 : l0_1.length ≤ c0_1) (hr0_7 : Kd.C k75 w A0_7 l0_7.length l0_7) (hc0_7 : l0_7.length ≤ c0_7) (h : capstanlaw07_Great.f l0_0 l0_1 a0_2 a0_3 a0_4 a0_5 a0_6 l0_7 = some r) :
  Calls Tryd.prog 42 #[.agg #[.slice A0_0 l0_0.length c0_0, .slice A0_1 l0_1.length c0_1, .int .u8 a0_2, .bool a0_3, .int .i64 a0_4, .int .i64 a0_5, .int .i64 a0_6, .slice A0_7 l0_7.length c0_7]] w fun e w' => e = .returned (.bool r) ∧ Below w.heap.size w w' := by
 have hu47 := Tryd.underlying47; have HR0_0 := Aside0.mk hr0_0; have HC0_0 := Aside0.mk hc0_0; clear hr0_0 hc0_0; have HR0_1 := Aside0.mk hr0_1; have HC0_1 := Aside0.mk hc0_1; clear hr0_1 hc0_1; have HR0_7 := Aside0.mk hr0_7; have HC0_7 := Aside0.mk hc0_7; clear hr0_7 hc0_7; have HB := Aside0.mk (Below.refl w.heap.size w); have H := h; unfold capstanlaw07_Great.f at H; clear h
 by_cases c2 : (l0_0.length : Int) > 100
 ·
  rw [if_pos c2] at H; have c2b0 : decide (100 < (l0_0.length : Int)) = true := decide_eq_true c2; have c2b1 : decide (100 < l0_0.length) = true := decide_eq_true (by omega); clear c2; obtain rfl := Option.some.inj H
  go_enter Tryd.func42, Tryd.ntmps42
  go_wp2_with (first | ((with_reducible refine gate_dst (N := 1) rfl ?_); (try (refine gate_guard (by rfl) ?_; dsimp only)); refine sq_box (N := 1) (cs := #[.slice A0_0 l0_0.length c0_0, .slice A0_1 l0_1.length c0_1, .int .u8 a0_2, .bool a0_3, .int .i64 a0_4, .int .i64 a0_5, .int .i64 a0_6, .slice A0_7 l0_7.length c0_7]) (t := 47) ?_; intro gb121 hg w3 hbox hb; have n_ := sq_n4 (below_step (au1) hb) hbox ((au26 : w.heap.size ≤ gb121)) ((au26 : w.heap.size ≤ gb121)); clear HB; obtain ⟨HB, BK121, GW121, GE121⟩ := n_; clear hb hbox hg; have hz4 := blk_all8 BK121.out))
  go_ret; exact ⟨au4, by repeat (first | (with_reducible first | exact HB.out | apply below_alloc | apply pw_below_drewN | apply below_drew1 | refine below_set ?_ GE121.out) | exact HB.out | exact ⟨HB.out.os, HB.out.tape, HB.out.output, HB.out.size, HB.out.block⟩)⟩
 ·
  rw [if_neg c2] at H; have c2b0 : decide (100 < (l0_0.length : Int)) = false := decide_eq_false c2; have c2b1 : decide (100 < l0_0.length) = false := decide_eq_false (by omega); clear c2; obtain rfl := Option.some.inj H
  go_enter Tryd.func42, Tryd.ntmps42
  go_wp2_with (first | ((with_reducible refine gate_dst (N := 1) rfl ?_); (try (refine gate_guard (by rfl) ?_; dsimp only)); refine sq_box (N := 1) (cs := #[.slice A0_0 l0_0.length c0_0, .slice A0_1 l0_1.length c0_1, .int .u8 a0_2, .bool a0_3, .int .i64 a0_4, .int .i64 a0_5, .int .i64 a0_6, .slice A0_7 l0_7.length c0_7]) (t := 47) ?_; intro gb121 hg w5 hbox hb; have n_ := sq_n4 (below_step (au1) hb) hbox ((au26 : w.heap.size ≤ gb121)) ((au26 : w.heap.size ≤ gb121)); clear HB; obtain ⟨HB, BK121, GW121, GE121⟩ := n_; clear hb hbox hg; have hz6 := blk_all8 BK121.out))
  go_ret; exact ⟨au4, by repeat (first | (with_reducible first | exact HB.out | apply below_alloc | apply pw_below_drewN | apply below_drew1 | refine below_set ?_ GE121.out) | exact HB.out | exact ⟨HB.out.os, HB.out.tape, HB.out.output, HB.out.size, HB.out.block⟩)⟩

/-! ### capstanlaw08_Great: function 12 -/
mutual
def capstanlaw08_Great.j0 : Nat → Bool → List (S73) → List (S73) → List (S47) → Int → Option (Bool)
 | 0, _, _, _, _, _ => none
 | k + 1, x19, x123000, x123001, x123002, x123003 => if x19 = true then (some true) else (capstanlaw08_Great.l0 k 0 x123000 x123001 x123002 x123003)
def capstanlaw08_Great.l0 : Nat → Int → List (S73) → List (S73) → List (S47) → Int → Option (Bool)
 | 0, _, _, _, _, _ => none
 | k + 1, x3, x123000, x123001, x123002, x123003 => if x3 < (x123002.length : Int) then (if 0 ≤ x3 then ((capstanlaw07_Great.f ((rd_T47 x123002 x3).f0) ((rd_T47 x123002 x3).f1) ((rd_T47 x123002 x3).f2) ((rd_T47 x123002 x3).f3) ((rd_T47 x123002 x3).f4) ((rd_T47 x123002 x3).f5) ((rd_T47 x123002 x3).f6) ((rd_T47 x123002 x3).f7)).bind fun t124 => (if t124 = true then (some true) else (if (((rd_T47 x123002 x3).f7).length : Int) > 300 then (some true) else (capstanlaw08_Great.l0 k (wrap64 (x3 + 1)) x123000 x123001 x123002 x123003)))) else (none)) else (some false)
end
def capstanlaw08_Great.f (k : Nat) (l0_0 : List (S73)) (l0_1 : List (S73)) (l0_2 : List (S47)) (a0_3 : Int) : Option (Bool) := if (l0_0.length : Int) > 100 then (capstanlaw08_Great.j0 k true l0_0 l0_1 l0_2 a0_3) else (if (l0_1.length : Int) > 100 then (capstanlaw08_Great.j0 k true l0_0 l0_1 l0_2 a0_3) else (capstanlaw08_Great.j0 k (decide ((l0_2.length : Int) > 40)) l0_0 l0_1 l0_2 a0_3))
theorem capstanlaw08_Great.mono_l : ∀ k, (∀ y0 y1 y2 y3 y4, LeO (capstanlaw08_Great.j0 k y0 y1 y2 y3 y4) (capstanlaw08_Great.j0 (k + 1) y0 y1 y2 y3 y4)) ∧ (∀ y0 y1 y2 y3 y4, LeO (capstanlaw08_Great.l0 k y0 y1 y2 y3 y4) (capstanlaw08_Great.l0 (k + 1) y0 y1 y2 y3 y4))
 | 0 => ⟨fun _ _ _ _ _ r h => by simp [capstanlaw08_Great.j0] at h, fun _ _ _ _ _ r h => by simp [capstanlaw08_Great.l0] at h⟩
 | k + 1 => by
  obtain ⟨ih0, ih1⟩ := capstanlaw08_Great.mono_l k; refine ⟨?_, ?_⟩
  ·
   intro y0 y1 y2 y3 y4
   unfold capstanlaw08_Great.j0
   repeat' first | (with_reducible first | apply ih0 | apply ih1 | apply LeO.refl | apply LeO.none | refine LeO.ite ?_ ?_ | refine LeO.bind ?_ (fun _ => ?_)) | apply ih0 | apply ih1 | apply LeO.none | refine LeO.ite ?_ ?_ | refine LeO.bind ?_ (fun _ => ?_)
  ·
   intro y0 y1 y2 y3 y4
   unfold capstanlaw08_Great.l0
   repeat' first | (with_reducible first | apply ih0 | apply ih1 | apply LeO.refl | apply LeO.none | refine LeO.ite ?_ ?_ | refine LeO.bind ?_ (fun _ => ?_)) | apply ih0 | apply ih1 | apply LeO.none | refine LeO.ite ?_ ?_ | refine LeO.bind ?_ (fun _ => ?_)
theorem capstanlaw08_Great.mono : ∀ a0 a1 a2 a3 k, LeO (capstanlaw08_Great.f k a0 a1 a2 a3) (capstanlaw08_Great.f (k + 1) a0 a1 a2 a3) := by
 intro a0 a1 a2 a3 k; obtain ⟨ih0, ih1⟩ := capstanlaw08_Great.mono_l k
 unfold capstanlaw08_Great.f
 repeat' first | (with_reducible first | apply ih0 | apply ih1 | apply LeO.refl | apply LeO.none | refine LeO.ite ?_ ?_ | refine LeO.bind ?_ (fun _ => ?_)) | apply ih0 | apply ih1 | apply LeO.none | refine LeO.ite ?_ ?_ | refine LeO.bind ?_ (fun _ => ?_)
set_option maxHeartbeats 8000000 in
set_option maxRecDepth 100000 in
theorem capstanlaw08_Great.calls (k : Nat) (A0_0 : Option Addr) (c0_0 : Nat) (l0_0 : List (S73)) (A0_1 : Option Addr) (c0_1 : Nat) (l0_1 : List (S73)) (A0_2 : Option Addr) (c0_2 : Nat) (l0_2 : List (S47)) (a0_3 : Int) (r : Bool) (w : World) (hr0_0 : Kd.C k73 w A0_0 l0_0.length l0_0) (hc0_0 : l0_0.length ≤ c0_0) (hr0_1 : Kd.C k73 w A0_1 l0_1.length l0_1) (hc0_1 : l0_1.length ≤ c0_1) (hr0_2 : Kd.C k47 w A0_2 l0_2.length l0_2) (hc0_2 : l0_2.length ≤ c0_2) (h : capstanlaw08_Great.f k l0_0 l0_1 l0_2 a0_3 = some r) :
  Calls Tryd.prog 12 #[.agg #[.slice A0_0 l0_0.length c0_0, .slice A0_1 l0_1.length c0_1, .slice A0_2 l0_2.length c0_2, .int .i64 a0_3]] w fun e w' => e = .returned (.bool r) ∧ Below w.heap.size w w' := by
 have hu26 := Tryd.underlying26; have hu47 := Tryd.underlying47; have HR0_0 := Aside0.mk hr0_0; have HC0_0 := Aside0.mk hc0_0; clear hr0_0 hc0_0; have HR0_1 := Aside0.mk hr0_1; have HC0_1 := Aside0.mk hc0_1; clear hr0_1 hc0_1; have HR0_2 := Aside0.mk hr0_2; have HC0_2 := Aside0.mk hc0_2; clear hr0_2 hc0_2; have HB := Aside0.mk (Below.refl w.heap.size w); have H := h; unfold capstanlaw08_Great.f at H; clear h; have HC2 := Aside0.mk H; clear H
 go_enter Tryd.func12, Tryd.ntmps12
 go_upto_region 1 with (first | ((with_reducible refine gate_dst (N := 1) rfl ?_); (try (refine gate_guard (by rfl) ?_; dsimp only)); refine sq_box (N := 1) (cs := #[.slice A0_0 l0_0.length c0_0, .slice A0_1 l0_1.length c0_1, .slice A0_2 l0_2.length c0_2, .int .i64 a0_3]) (t := 26) ?_; intro gb122 hg w3 hbox hb; have n_ := sq_n4 (below_step (au1) hb) hbox ((au26 : w.heap.size ≤ gb122)) ((au26 : w.heap.size ≤ gb122)); clear HB; obtain ⟨HB, BK122, GW122, GE122⟩ := n_; clear hb hbox hg))
 (try simp only [Act.put, List.setIfInBounds_toArray, List.set_cons_zero, List.set_cons_succ])
 go_cut [19] (fun v19 wc => ∃ (kq : Nat) (x19_1 : Bool), v19 = .bool x19_1 ∧ Aside0 (capstanlaw08_Great.j0 kq x19_1 l0_0 l0_1 l0_2 a0_3 = some r) ∧ Aside0 (kq ≤ k) ∧ Aside0 (wc.heap[gb122]? = some (.cells #[(.slice A0_0 l0_0.length c0_0), (.slice A0_1 l0_1.length c0_1), (.slice A0_2 l0_2.length c0_2), .int .i64 a0_3] 26 (0, 0))) ∧ Aside0 (Below w.heap.size w wc))
 case first =>
  have H := HC2.out; clear HC2
  by_cases c4 : (l0_0.length : Int) > 100
  ·
   rw [if_pos c4] at H; have c4b0 : decide (100 < (l0_0.length : Int)) = true := decide_eq_true c4; have c4b1 : decide (100 < l0_0.length) = true := decide_eq_true (by omega); clear c4
   (first | rw [c4b0] | (simp only [i64_w, i32_w]; rw [c4b0]) | skip)
   have H' := Aside0.mk H; clear H; have hz5 := blk_all4 BK122.out; go_wp2; go_meet
   case rel => exact ⟨_, (true), (au11), H', ⟨au95⟩, ⟨au115⟩, ⟨au43⟩⟩
  ·
   rw [if_neg c4] at H; have c4b0 : decide (100 < (l0_0.length : Int)) = false := decide_eq_false c4; have c4b1 : decide (100 < l0_0.length) = false := decide_eq_false (by omega); clear c4
   (first | rw [c4b0] | (simp only [i64_w, i32_w]; rw [c4b0]) | skip)
   by_cases c6 : (l0_1.length : Int) > 100
   ·
    rw [if_pos c6] at H; have c6b0 : decide (100 < (l0_1.length : Int)) = true := decide_eq_true c6; have c6b1 : decide (100 < l0_1.length) = true := decide_eq_true (by omega); clear c6; have H' := Aside0.mk H; clear H; have hz7 := blk_all4 BK122.out; go_wp2; go_meet
    case rel => exact ⟨_, (true), (au11), H', ⟨au95⟩, ⟨au115⟩, ⟨au43⟩⟩
   ·
    rw [if_neg c6] at H; have c6b0 : decide (100 < (l0_1.length : Int)) = false := decide_eq_false c6; have c6b1 : decide (100 < l0_1.length) = false := decide_eq_false (by omega); clear c6; have H' := Aside0.mk H; clear H; have hz8 := blk_all4 BK122.out; go_wp2; go_meet
    case rel => exact ⟨_, (decide ((l0_2.length : Int) > 40)), (au11), H', ⟨au95⟩, ⟨au115⟩, ⟨au43⟩⟩
 case rest =>
  clear HC2; obtain ⟨kq, x19_1, rfl, HA, HJ1, BK122, HB⟩ := hcut
  cases kq with
  | zero => exact absurd HA.out (by simp [capstanlaw08_Great.j0])
  | succ kj1 =>
   have H := HA.out; clear HA; simp only [capstanlaw08_Great.j0] at H
   by_cases c9 : x19_1 = true
   ·
    subst c9
    rw [if_pos rfl] at H; obtain rfl := Option.some.inj H; go_wp2; go_ret; exact ⟨au4, au43⟩
   ·
    replace c9 := Bool.eq_false_iff.mpr c9; subst c9
    rw [sq_f] at H; have H' := Aside0.mk H; clear H; go_wp2
    go_loopg [3] kj1 (fun kq v3 w' => ∃ (x3_2 : Int), v3 = .int .i64 x3_2 ∧ Aside0 (capstanlaw08_Great.l0 kq x3_2 l0_0 l0_1 l0_2 a0_3 = some r) ∧ Aside0 (kq ≤ kj1) ∧ Aside0 (w'.heap[gb122]? = some (.cells #[(.slice A0_0 l0_0.length c0_0), (.slice A0_1 l0_1.length c0_1), (.slice A0_2 l0_2.length c0_2), .int .i64 a0_3] 26 (0, 0))) ∧ Aside0 (Below w.heap.size w w'))
    case atStart => exact ⟨(0), (au11), H', ⟨Nat.le_refl _⟩, ⟨au115⟩, ⟨au43⟩⟩
    case round =>
     clear H'; (try clear c1); (try clear p2); (try clear c4); (try clear c4b0); (try clear c4b1); (try clear c6); (try clear c6b0); (try clear c6b1); (try clear c9); (try clear hz5); (try clear hz7); (try clear hz8); (try clear hz5); (try clear hz7); (try clear hz8); (try clear p2); obtain ⟨x3_2, rfl, HA, HK2, BK122, HB⟩ := hrel
     cases gk with
     | zero => exact absurd HA.out (by simp [capstanlaw08_Great.l0])
     | succ k2 =>
      have H := HA.out; clear HA; simp only [capstanlaw08_Great.l0] at H
      by_cases c10 : x3_2 < (l0_2.length : Int)
      rotate_left
      · rw [if_neg c10] at H; have c10b0 : decide (x3_2 < (l0_2.length : Int)) = false := decide_eq_false c10; clear c10; obtain rfl := Option.some.inj H; have hz23 := blk_all4 BK122.out; go_wp2; go_ret; exact ⟨au4, au43⟩

      rw [if_pos c10] at H; have c10b0 : decide (x3_2 < (l0_2.length : Int)) = true := decide_eq_true c10; clear c10
      by_cases c11 : 0 ≤ x3_2
      rotate_left
      · rw [if_neg c11] at H; exact absurd H (by simp)
      rw [if_pos c11] at H; have c11b0 : decide (0 ≤ x3_2) = true := decide_eq_true c11; clear c11; obtain ⟨t124, A12, H⟩ := sq_bind H
      by_cases c13 : t124 = true
      ·
       subst c13
       rw [if_pos rfl] at H; obtain rfl := Option.some.inj H; have hz14 := blk_all4 BK122.out; have p123 : 0 ≤ (x3_2 : Int) := of_decide_eq_true (au9); have q123 : x3_2 < (l0_2.length : Int) := of_decide_eq_true (au9); obtain ⟨ad123, A123_0, c123_0, A123_1, c123_1, A123_7, c123_7, e123, hx123_0, hx123_1, hx123_2, hx123_3, hx123_4, hx123_5, hx123_6, hx123_7, hl123_0, hi123_0, hl123_1, hi123_1, hl123_7, hi123_7⟩ := at_T47 HR0_2.out x3_2 p123 q123; cases e123; replace hx123_0 := sq_c HB hx123_0; replace hx123_1 := sq_c HB hx123_1; replace hx123_2 := sq_c HB hx123_2; replace hx123_3 := sq_c HB hx123_3; replace hx123_4 := sq_c HB hx123_4; replace hx123_5 := sq_c HB hx123_5; replace hx123_6 := sq_c HB hx123_6; replace hx123_7 := sq_c HB hx123_7; have HR123_0 := Aside0.mk hi123_0; have HC123_0 := Aside0.mk hl123_0; clear hi123_0 hl123_0; have HR123_1 := Aside0.mk hi123_1; have HC123_1 := Aside0.mk hl123_1; clear hi123_1 hl123_1; have HR123_7 := Aside0.mk hi123_7; have HC123_7 := Aside0.mk hl123_7; clear hi123_7 hl123_7; replace p123 := eq_true p123; replace q123 := eq_true q123
       go_wp2_with (first | ((with_reducible refine gate_callee (f := 42) rfl ?_); refine goesL_ (some 32) rfl rfl Tryd.func42 (by kernel_rfl) rfl #[.agg #[.slice A123_0 ((rd_T47 l0_2 x3_2).f0).length c123_0, .slice A123_1 ((rd_T47 l0_2 x3_2).f1).length c123_1, .int .u8 ((rd_T47 l0_2 x3_2).f2), .bool ((rd_T47 l0_2 x3_2).f3), .int .i64 ((rd_T47 l0_2 x3_2).f4), .int .i64 ((rd_T47 l0_2 x3_2).f5), .int .i64 ((rd_T47 l0_2 x3_2).f6), .slice A123_7 ((rd_T47 l0_2 x3_2).f7).length c123_7]] rfl (au2) ?_; (with_reducible refine (capstanlaw07_Great.calls _ _ ((rd_T47 l0_2 x3_2).f0) _ _ ((rd_T47 l0_2 x3_2).f1) ((rd_T47 l0_2 x3_2).f2) ((rd_T47 l0_2 x3_2).f3) ((rd_T47 l0_2 x3_2).f4) ((rd_T47 l0_2 x3_2).f5) ((rd_T47 l0_2 x3_2).f6) _ _ ((rd_T47 l0_2 x3_2).f7) true _ ?side1 ?side2 ?side3 ?side4 ?side5 ?side6 A12.out).mono ?_); (case side1 => exact au182); (case side2 => exact HC123_0.out); (case side3 => exact au183); (case side4 => exact HC123_1.out); (case side5 => exact au184); (case side6 => exact HC123_7.out); rintro e w15 ⟨rfl, hb⟩; refine ⟨_, rfl, ?_⟩; have n_ := sq_n2 (blk_below (au115) hb) (below_step (au43) hb); clear BK122 HB; obtain ⟨BK122, HB⟩ := n_; (try clear hb)))
       go_ret; exact ⟨au4, au43⟩
      ·
       replace c13 := Bool.eq_false_iff.mpr c13; subst c13
       rw [sq_f] at H
       by_cases c16 : (((rd_T47 l0_2 x3_2).f7).length : Int) > 300
       ·
        rw [if_pos c16] at H; have c16b0 : decide (300 < (((rd_T47 l0_2 x3_2).f7).length : Int)) = true := decide_eq_true c16; have c16b1 : decide (300 < ((rd_T47 l0_2 x3_2).f7).length) = true := decide_eq_true (by omega); clear c16; obtain rfl := Option.some.inj H; have hz17 := blk_all4 BK122.out; have p123 : 0 ≤ (x3_2 : Int) := of_decide_eq_true (au9); have q123 : x3_2 < (l0_2.length : Int) := of_decide_eq_true (au9); obtain ⟨ad123, A123_0, c123_0, A123_1, c123_1, A123_7, c123_7, e123, hx123_0, hx123_1, hx123_2, hx123_3, hx123_4, hx123_5, hx123_6, hx123_7, hl123_0, hi123_0, hl123_1, hi123_1, hl123_7, hi123_7⟩ := at_T47 HR0_2.out x3_2 p123 q123; cases e123; replace hx123_0 := sq_c HB hx123_0; replace hx123_1 := sq_c HB hx123_1; replace hx123_2 := sq_c HB hx123_2; replace hx123_3 := sq_c HB hx123_3; replace hx123_4 := sq_c HB hx123_4; replace hx123_5 := sq_c HB hx123_5; replace hx123_6 := sq_c HB hx123_6; replace hx123_7 := sq_c HB hx123_7; have HR123_0 := Aside0.mk hi123_0; have HC123_0 := Aside0.mk hl123_0; clear hi123_0 hl123_0; have HR123_1 := Aside0.mk hi123_1
        have HC123_1 := Aside0.mk hl123_1; clear hi123_1 hl123_1; have HR123_7 := Aside0.mk hi123_7; have HC123_7 := Aside0.mk hl123_7; clear hi123_7 hl123_7; replace p123 := eq_true p123; replace q123 := eq_true q123
        go_wp2_with (first | ((with_reducible refine gate_callee (f := 42) rfl ?_); refine goesL_ (some 32) rfl rfl Tryd.func42 (by kernel_rfl) rfl #[.agg #[.slice A123_0 ((rd_T47 l0_2 x3_2).f0).length c123_0, .slice A123_1 ((rd_T47 l0_2 x3_2).f1).length c123_1, .int .u8 ((rd_T47 l0_2 x3_2).f2), .bool ((rd_T47 l0_2 x3_2).f3), .int .i64 ((rd_T47 l0_2 x3_2).f4), .int .i64 ((rd_T47 l0_2 x3_2).f5), .int .i64 ((rd_T47 l0_2 x3_2).f6), .slice A123_7 ((rd_T47 l0_2 x3_2).f7).length c123_7]] rfl (au2) ?_; (with_reducible refine (capstanlaw07_Great.calls _ _ ((rd_T47 l0_2 x3_2).f0) _ _ ((rd_T47 l0_2 x3_2).f1) ((rd_T47 l0_2 x3_2).f2) ((rd_T47 l0_2 x3_2).f3) ((rd_T47 l0_2 x3_2).f4) ((rd_T47 l0_2 x3_2).f5) ((rd_T47 l0_2 x3_2).f6) _ _ ((rd_T47 l0_2 x3_2).f7) false _ ?side1 ?side2 ?side3 ?side4 ?side5 ?side6 A12.out).mono ?_); (case side1 => exact au182); (case side2 => exact HC123_0.out); (case side3 => exact au183); (case side4 => exact HC123_1.out); (case side5 => exact au184); (case side6 => exact HC123_7.out); rintro e w18 ⟨rfl, hb⟩; refine ⟨_, rfl, ?_⟩; have n_ := sq_n2 (blk_below (au115) hb) (below_step (au43) hb); clear BK122 HB; obtain ⟨BK122, HB⟩ := n_; (try clear hb); have hz19 := blk_all4 BK122.out; have p125 : 0 ≤ (x3_2 : Int) := of_decide_eq_true (au9); have q125 : x3_2 < (l0_2.length : Int) := of_decide_eq_true (au9); obtain ⟨ad125, A125_0, c125_0, A125_1, c125_1, A125_7, c125_7, e125, hx125_0, hx125_1, hx125_2, hx125_3, hx125_4, hx125_5, hx125_6, hx125_7, hl125_0, hi125_0, hl125_1, hi125_1, hl125_7, hi125_7⟩ := at_T47 HR0_2.out x3_2 p125 q125; obtain rfl : ad123 = ad125 := (by injection e125); replace hx125_0 := sq_c HB hx125_0; replace hx125_1 := sq_c HB hx125_1; replace hx125_2 := sq_c HB hx125_2; replace hx125_3 := sq_c HB hx125_3; replace hx125_4 := sq_c HB hx125_4; replace hx125_5 := sq_c HB hx125_5; replace hx125_6 := sq_c HB hx125_6; replace hx125_7 := sq_c HB hx125_7; have HR125_0 := Aside0.mk hi125_0; have HC125_0 := Aside0.mk hl125_0; clear hi125_0 hl125_0; have HR125_1 := Aside0.mk hi125_1; have HC125_1 := Aside0.mk hl125_1; clear hi125_1 hl125_1; have HR125_7 := Aside0.mk hi125_7; have HC125_7 := Aside0.mk hl125_7; clear hi125_7 hl125_7; replace p125 := eq_true p125; replace q125 := eq_true q125))
        go_ret; exact ⟨au4, au43⟩
       ·
        rw [if_neg c16] at H; have c16b0 : decide (300 < (((rd_T47 l0_2 x3_2).f7).length : Int)) = false := decide_eq_false c16; have c16b1 : decide (300 < ((rd_T47 l0_2 x3_2).f7).length) = false := decide_eq_false (by omega); clear c16; have H' := Aside0.mk H; clear H; have hz20 := blk_all4 BK122.out; have p123 : 0 ≤ (x3_2 : Int) := of_decide_eq_true (au9); have q123 : x3_2 < (l0_2.length : Int) := of_decide_eq_true (au9); obtain ⟨ad123, A123_0, c123_0, A123_1, c123_1, A123_7, c123_7, e123, hx123_0, hx123_1, hx123_2, hx123_3, hx123_4, hx123_5, hx123_6, hx123_7, hl123_0, hi123_0, hl123_1, hi123_1, hl123_7, hi123_7⟩ := at_T47 HR0_2.out x3_2 p123 q123; cases e123; replace hx123_0 := sq_c HB hx123_0; replace hx123_1 := sq_c HB hx123_1; replace hx123_2 := sq_c HB hx123_2; replace hx123_3 := sq_c HB hx123_3; replace hx123_4 := sq_c HB hx123_4; replace hx123_5 := sq_c HB hx123_5; replace hx123_6 := sq_c HB hx123_6; replace hx123_7 := sq_c HB hx123_7; have HR123_0 := Aside0.mk hi123_0; have HC123_0 := Aside0.mk hl123_0; clear hi123_0 hl123_0; have HR123_1 := Aside0.mk hi123_1
        have HC123_1 := Aside0.mk hl123_1; clear hi123_1 hl123_1; have HR123_7 := Aside0.mk hi123_7; have HC123_7 := Aside0.mk hl123_7; clear hi123_7 hl123_7; replace p123 := eq_true p123; replace q123 := eq_true q123
        go_wp2_with (first | ((with_reducible refine gate_callee (f := 42) rfl ?_); refine goesL_ (some 32) rfl rfl Tryd.func42 (by kernel_rfl) rfl #[.agg #[.slice A123_0 ((rd_T47 l0_2 x3_2).f0).length c123_0, .slice A123_1 ((rd_T47 l0_2 x3_2).f1).length c123_1, .int .u8 ((rd_T47 l0_2 x3_2).f2), .bool ((rd_T47 l0_2 x3_2).f3), .int .i64 ((rd_T47 l0_2 x3_2).f4), .int .i64 ((rd_T47 l0_2 x3_2).f5), .int .i64 ((rd_T47 l0_2 x3_2).f6), .slice A123_7 ((rd_T47 l0_2 x3_2).f7).length c123_7]] rfl (au2) ?_; (with_reducible refine (capstanlaw07_Great.calls _ _ ((rd_T47 l0_2 x3_2).f0) _ _ ((rd_T47 l0_2 x3_2).f1) ((rd_T47 l0_2 x3_2).f2) ((rd_T47 l0_2 x3_2).f3) ((rd_T47 l0_2 x3_2).f4) ((rd_T47 l0_2 x3_2).f5) ((rd_T47 l0_2 x3_2).f6) _ _ ((rd_T47 l0_2 x3_2).f7) false _ ?side1 ?side2 ?side3 ?side4 ?side5 ?side6 A12.out).mono ?_); (case side1 => exact au182); (case side2 => exact HC123_0.out); (case side3 => exact au183); (case side4 => exact HC123_1.out); (case side5 => exact au184); (case side6 => exact HC123_7.out); rintro e w21 ⟨rfl, hb⟩; refine ⟨_, rfl, ?_⟩; have n_ := sq_n2 (blk_below (au115) hb) (below_step (au43) hb); clear BK122 HB; obtain ⟨BK122, HB⟩ := n_; (try clear hb); have hz22 := blk_all4 BK122.out; have p125 : 0 ≤ (x3_2 : Int) := of_decide_eq_true (au9); have q125 : x3_2 < (l0_2.length : Int) := of_decide_eq_true (au9); obtain ⟨ad125, A125_0, c125_0, A125_1, c125_1, A125_7, c125_7, e125, hx125_0, hx125_1, hx125_2, hx125_3, hx125_4, hx125_5, hx125_6, hx125_7, hl125_0, hi125_0, hl125_1, hi125_1, hl125_7, hi125_7⟩ := at_T47 HR0_2.out x3_2 p125 q125; obtain rfl : ad123 = ad125 := (by injection e125); replace hx125_0 := sq_c HB hx125_0; replace hx125_1 := sq_c HB hx125_1; replace hx125_2 := sq_c HB hx125_2; replace hx125_3 := sq_c HB hx125_3; replace hx125_4 := sq_c HB hx125_4; replace hx125_5 := sq_c HB hx125_5; replace hx125_6 := sq_c HB hx125_6; replace hx125_7 := sq_c HB hx125_7; have HR125_0 := Aside0.mk hi125_0; have HC125_0 := Aside0.mk hl125_0; clear hi125_0 hl125_0; have HR125_1 := Aside0.mk hi125_1; have HC125_1 := Aside0.mk hl125_1; clear hi125_1 hl125_1; have HR125_7 := Aside0.mk hi125_7; have HC125_7 := Aside0.mk hl125_7; clear hi125_7 hl125_7; replace p125 := eq_true p125; replace q125 := eq_true q125))
        go_roundg k2
        case measure => have := HJ1.out; have := HK2.out; omega
        case rel => exact ⟨(wrap64 (x3_2 + 1)), (au11), H', ⟨by have := HJ1.out; have := HK2.out; omega⟩, ⟨au115⟩, ⟨au43⟩⟩
/-! ### capstanref03_Copy: function 43 -/
def capstanref03_Copy.f (l0 : List (S73)) : Option ((List (S73))) := if ([] : List (S73)).length + l0.length < 5864062014805 then (some (([] : List (S73)) ++ l0)) else (none)
set_option maxHeartbeats 8000000 in
set_option maxRecDepth 100000 in
theorem capstanref03_Copy.calls (A0 : Option Addr) (c0 : Nat) (l0 : List (S73)) (r : List (S73)) (w : World) (hr0 : Kd.C k73 w A0 l0.length l0) (hc0 : l0.length ≤ c0) (h : capstanref03_Copy.f l0 = some r) :
  Calls Tryd.prog 43 #[.slice A0 l0.length c0] w fun e w' => ∃ v0_ : Value, e = .returned (v0_) ∧ Kd.R k73 73 w' w.heap.size (fun _ => True) v0_ r ∧ Below w.heap.size w w' := by
 have HR0 := Aside0.mk hr0; have HC0 := Aside0.mk hc0; clear hr0 hc0; have HB := Aside0.mk (Below.refl w.heap.size w); have H := h; unfold capstanref03_Copy.f at H; clear h
 by_cases c2 : ([] : List (S73)).length + l0.length < 5864062014805
 rotate_left
 · rw [if_neg c2] at H; exact absurd H (by simp)

 rw [if_pos c2] at H; have LMc2 := Aside0.mk c2; clear c2; obtain ⟨y126, hy126⟩ : ∃ y_ : List (S73), y_ = (([] : List (S73)) ++ l0) := ⟨_, rfl⟩
 replace H : (some y126) = some r := by first | (rw [hy126]; with_reducible exact H) | (have H2_ := (Option.bind_some _ _).symm.trans H; rw [hy126]; with_reducible exact H2_) | (have H2_ := (Option.bind_some _ _).symm.trans H; with_reducible exact H2_) | with_reducible exact H | (rw [hy126]; exact H) | exact H
 have Ny126 := Aside0.mk hy126; clear hy126; obtain rfl := Option.some.inj H
 go_enter Tryd.func43, Tryd.ntmps43
 go_wp2_with (first | ((with_reducible refine gate_builtin (b := .append) (xs := #[.tmp 4, .tmp 5]) rfl ?_); at_builtin; refine Kd.R_append_rows k73 (w0 := w) w.heap.size rfl (.tmp 4) (.tmp 5) 23 73 (.agg #[(.int .u8 0), (.int .i64 0), (.int .i64 0)]) 24 rfl Tryd.underlying23 info73 rfl (by decide) (by omega) (.slice none 0 0) ([] : List (S73)) l0 _ _ _ (fun _ => True) (fun _ => False) rfl rfl ?aO ?aR (fun _ _ h => h) (fun _ h => h.elim) ?aF ?aB ?aS ?aL ?_; (case aR => repeat (first | exact HR0.out | (with_reducible refine Kd.C_alloc ?_ _) | (with_reducible refine Kd.C_drewN ?_ _) | (with_reducible refine Kd.C_drew ?_))); (case aB => exact (au1)); (case aF => exact (fun _ _ => trivial)); (case aO => exact ((Kd.R_nil _ _ _ _ (fun _ => True)))); (case aS => exact (below_size (au1))); (case aL => have := LMc2.out; omega); intro v127 w3 ho hb hg hat; rw [← Ny126.out] at ho; have n_ := sq_n2 hb ho; clear HB; obtain ⟨HB, HO128⟩ := n_; clear ho hb hg hat))
 go_ret; exact ⟨_, au4, by (with_reducible repeat (first | apply Kd.R_alloc | apply Kd.R_drewN | apply Kd.R_drew)); first | exact HO128.out | exact Kd.R_mono (HO128.out) (fun _ h_ => h_.2), au1⟩
/-! ### capstanref05_Copy: function 44 -/
def capstanref05_Copy.f (l0 : List (S75)) : Option ((List (S75))) := if ([] : List (S75)).length + l0.length < 5864062014805 then (some (([] : List (S75)) ++ l0)) else (none)
set_option maxHeartbeats 8000000 in
set_option maxRecDepth 100000 in
theorem capstanref05_Copy.calls (A0 : Option Addr) (c0 : Nat) (l0 : List (S75)) (r : List (S75)) (w : World) (hr0 : Kd.C k75 w A0 l0.length l0) (hc0 : l0.length ≤ c0) (h : capstanref05_Copy.f l0 = some r) :
  Calls Tryd.prog 44 #[.slice A0 l0.length c0] w fun e w' => ∃ v0_ : Value, e = .returned (v0_) ∧ Kd.R k75 75 w' w.heap.size (fun _ => True) v0_ r ∧ Below w.heap.size w w' := by
 have HR0 := Aside0.mk hr0; have HC0 := Aside0.mk hc0; clear hr0 hc0; have HB := Aside0.mk (Below.refl w.heap.size w); have H := h; unfold capstanref05_Copy.f at H; clear h
 by_cases c2 : ([] : List (S75)).length + l0.length < 5864062014805
 rotate_left
 · rw [if_neg c2] at H; exact absurd H (by simp)

 rw [if_pos c2] at H; have LMc2 := Aside0.mk c2; clear c2; obtain ⟨y129, hy129⟩ : ∃ y_ : List (S75), y_ = (([] : List (S75)) ++ l0) := ⟨_, rfl⟩
 replace H : (some y129) = some r := by first | (rw [hy129]; with_reducible exact H) | (have H2_ := (Option.bind_some _ _).symm.trans H; rw [hy129]; with_reducible exact H2_) | (have H2_ := (Option.bind_some _ _).symm.trans H; with_reducible exact H2_) | with_reducible exact H | (rw [hy129]; exact H) | exact H
 have Ny129 := Aside0.mk hy129; clear hy129; obtain rfl := Option.some.inj H
 go_enter Tryd.func44, Tryd.ntmps44
 go_wp2_with (first | ((with_reducible refine gate_builtin (b := .append) (xs := #[.tmp 4, .tmp 5]) rfl ?_); at_builtin; refine Kd.R_append_rows k75 (w0 := w) w.heap.size rfl (.tmp 4) (.tmp 5) 45 75 (.agg #[(.int .u8 0), (.int .i64 0), (.int .i64 0)]) 24 rfl Tryd.underlying45 info75 rfl (by decide) (by omega) (.slice none 0 0) ([] : List (S75)) l0 _ _ _ (fun _ => True) (fun _ => False) rfl rfl ?aO ?aR (fun _ _ h => h) (fun _ h => h.elim) ?aF ?aB ?aS ?aL ?_; (case aR => repeat (first | exact HR0.out | (with_reducible refine Kd.C_alloc ?_ _) | (with_reducible refine Kd.C_drewN ?_ _) | (with_reducible refine Kd.C_drew ?_))); (case aB => exact (au1)); (case aF => exact (fun _ _ => trivial)); (case aO => exact ((Kd.R_nil _ _ _ _ (fun _ => True)))); (case aS => exact (below_size (au1))); (case aL => have := LMc2.out; omega); intro v130 w3 ho hb hg hat; rw [← Ny129.out] at ho; have n_ := sq_n2 hb ho; clear HB; obtain ⟨HB, HO131⟩ := n_; clear ho hb hg hat))
 go_ret; exact ⟨_, au4, by (with_reducible repeat (first | apply Kd.R_alloc | apply Kd.R_drewN | apply Kd.R_drew)); first | exact HO131.out | exact Kd.R_mono (HO131.out) (fun _ h_ => h_.2), au1⟩
end Go.Proofs.YthmjblmdbcmjcaaDoor.P
