/- Contracts of functions of this seat. -/
import Derived.Test.YthmjblmdbcmjcaaDoorP0
import Derived.Test.YthmjblmdbcmjcaaDoorP9
namespace Go.Proofs.YthmjblmdbcmjcaaDoor.P
open Go.RowKit Go.Proofs.YthmjblmdbcmjcaaDoorW.PrintWords Go.Proofs.YthmjblmdbcmjcaaDoorW.PrintLast Go.Proofs.YthmjblmdbcmjcaaDoorW.PrintMore
attribute [local go_sem] max2_int min2_int max_two min_two max_three min_three max_four min_four
set_option linter.unusedVariables false
set_option linter.unusedSimpArgs false

/-! ### capstanref07_May: function 81 -/
def capstanref07_May.j0 : Nat → Bool → List Int → List Int → Int → Bool → Int → Int → Int → List (S75) → Option (Bool)
 | 0, _, _, _, _, _, _, _, _, _ => none
 | k + 1, x28, x219000, x219001, x219002, x219003, x219004, x219005, x219006, x219007 => if x28 = true then (some false) else (if x219002 = 1 then (if x219004 ≥ 0 then (if x219004 ≤ 1048576 then (if x219005 ≥ 0 then (if x219005 ≤ 256 then (if x219006 ≥ 0 then (some (decide (x219006 ≤ 1024))) else (some false)) else (some false)) else (some false)) else (some false)) else (some false)) else (if x219002 = 2 then (if x219004 ≥ 0 then (if x219004 ≤ 1048576 then (if x219005 ≥ 0 then (if x219005 ≤ 256 then (if x219006 ≥ 0 then (some (decide (x219006 ≤ 1024))) else (some false)) else (some false)) else (some false)) else (some false)) else (some false)) else (some false)))
def capstanref07_May.f (k : Nat) (l0_0 : List Int) (l0_1 : List Int) (a0_2 : Int) (a0_3 : Bool) (a0_4 : Int) (a0_5 : Int) (a0_6 : Int) (l0_7 : List (S75)) : Option (Bool) := if (l0_0.length : Int) > 4 then (capstanref07_May.j0 k true l0_0 l0_1 a0_2 a0_3 a0_4 a0_5 a0_6 l0_7) else (if (l0_1.length : Int) > (wrap64 (16 - (l0_0.length : Int))) then (capstanref07_May.j0 k true l0_0 l0_1 a0_2 a0_3 a0_4 a0_5 a0_6 l0_7) else ((capstanref07_kinds.f k l0_0).bind fun t219 => (if t219 = true then ((capstanref07_kinds.f k l0_1).bind fun t220 => (capstanref07_May.j0 k (!t220) l0_0 l0_1 a0_2 a0_3 a0_4 a0_5 a0_6 l0_7)) else (capstanref07_May.j0 k true l0_0 l0_1 a0_2 a0_3 a0_4 a0_5 a0_6 l0_7))))
theorem capstanref07_May.mono_l : ∀ k, (∀ y0 y1 y2 y3 y4 y5 y6 y7 y8, LeO (capstanref07_May.j0 k y0 y1 y2 y3 y4 y5 y6 y7 y8) (capstanref07_May.j0 (k + 1) y0 y1 y2 y3 y4 y5 y6 y7 y8))
 | 0 => fun _ _ _ _ _ _ _ _ _ r h => by simp [capstanref07_May.j0] at h
 | k + 1 => by
  have ih0 := capstanref07_May.mono_l k
  ·
   intro y0 y1 y2 y3 y4 y5 y6 y7 y8
   unfold capstanref07_May.j0
   repeat' first | (with_reducible first | apply ih0 | apply capstanref07_kinds.mono | apply LeO.refl | apply LeO.none | refine LeO.ite ?_ ?_ | refine LeO.bind ?_ (fun _ => ?_)) | apply ih0 | apply capstanref07_kinds.mono | apply LeO.none | refine LeO.ite ?_ ?_ | refine LeO.bind ?_ (fun _ => ?_)
theorem capstanref07_May.mono : ∀ a0 a1 a2 a3 a4 a5 a6 a7 k, LeO (capstanref07_May.f k a0 a1 a2 a3 a4 a5 a6 a7) (capstanref07_May.f (k + 1) a0 a1 a2 a3 a4 a5 a6 a7) := by
 intro a0 a1 a2 a3 a4 a5 a6 a7 k; have ih0 := capstanref07_May.mono_l k
 unfold capstanref07_May.f
 repeat' first | (with_reducible first | apply ih0 | apply capstanref07_kinds.mono | apply LeO.refl | apply LeO.none | refine LeO.ite ?_ ?_ | refine LeO.bind ?_ (fun _ => ?_)) | apply ih0 | apply capstanref07_kinds.mono | apply LeO.none | refine LeO.ite ?_ ?_ | refine LeO.bind ?_ (fun _ => ?_)
set_option maxHeartbeats 8000000 in
set_option maxRecDepth 100000 in
theorem capstanref07_May.calls (k : Nat) (A0_0 : Option Addr) (c0_0 : Nat) (l0_0 : List Int) (A0_1 : Option Addr) (c0_1 : Nat) (l0_1 : List Int) (a0_2 : Int) (a0_3 : Bool) (a0_4 : Int) (a0_5 : Int) (a0_6 : Int) (A0_7 : Option Addr) (c0_7 : Nat) (l0_7 : List (S75)) (r : Bool) (w : World) (hr0_0 : Kd.C (Kd.int .u8) w A0_0 l0_0.length l0_0) (hc0_0 : l0_0.length ≤ c0_0) (hr0_1 : Kd.C (Kd.int .u8) w A0_1 l0_1.length l0_1) (hc0_1 : l0_1.length ≤ c0_1) (hr0_7 : Kd.C k75 w A0_7 l0_7.length l0_7) (hc0_7 : l0_7.length ≤ c0_7) (h : capstanref07_May.f k l0_0 l0_1 a0_2 a0_3 a0_4 a0_5 a0_6 l0_7 = some r) :
  Calls Tryd.prog 81 #[.agg #[.slice A0_0 l0_0.length c0_0, .slice A0_1 l0_1.length c0_1, .int .u8 a0_2, .bool a0_3, .int .i64 a0_4, .int .i64 a0_5, .int .i64 a0_6, .slice A0_7 l0_7.length c0_7]] w fun e w' => e = .returned (.bool r) ∧ Below w.heap.size w w' := by
 have hu47 := Tryd.underlying47; have HR0_0 := Aside0.mk hr0_0; have HC0_0 := Aside0.mk hc0_0; clear hr0_0 hc0_0; have HR0_1 := Aside0.mk hr0_1; have HC0_1 := Aside0.mk hc0_1; clear hr0_1 hc0_1; have HR0_7 := Aside0.mk hr0_7; have HC0_7 := Aside0.mk hc0_7; clear hr0_7 hc0_7; have HB := Aside0.mk (Below.refl w.heap.size w); have H := h; unfold capstanref07_May.f at H; clear h; have HC2 := Aside0.mk H; clear H
 go_enter Tryd.func81, Tryd.ntmps81
 go_upto_region 1 with (first | ((with_reducible refine gate_dst (N := 1) rfl ?_); (try (refine gate_guard (by rfl) ?_; dsimp only)); refine sq_box (N := 1) (cs := #[.slice A0_0 l0_0.length c0_0, .slice A0_1 l0_1.length c0_1, .int .u8 a0_2, .bool a0_3, .int .i64 a0_4, .int .i64 a0_5, .int .i64 a0_6, .slice A0_7 l0_7.length c0_7]) (t := 47) ?_; intro gb218 hg w3 hbox hb; have n_ := sq_n4 (below_step (au1) hb) hbox ((au26 : w.heap.size ≤ gb218)) ((au26 : w.heap.size ≤ gb218)); clear HB; obtain ⟨HB, BK218, GW218, GE218⟩ := n_; clear hb hbox hg))
 (try simp only [Act.put, List.setIfInBounds_toArray, List.set_cons_zero, List.set_cons_succ])
 go_cut [28] (fun v28 wc => ∃ (kq : Nat) (x28_1 : Bool), v28 = .bool x28_1 ∧ Aside0 (capstanref07_May.j0 kq x28_1 l0_0 l0_1 a0_2 a0_3 a0_4 a0_5 a0_6 l0_7 = some r) ∧ Aside0 (kq ≤ k) ∧ Aside0 (wc.heap[gb218]? = some (.cells #[(.slice A0_0 l0_0.length c0_0), (.slice A0_1 l0_1.length c0_1), .int .u8 a0_2, .bool a0_3, .int .i64 a0_4, .int .i64 a0_5, .int .i64 a0_6, (.slice A0_7 l0_7.length c0_7)] 47 (0, 0))) ∧ Aside0 (Below w.heap.size w wc))
 case first =>
  have H := HC2.out; clear HC2
  by_cases c4 : (l0_0.length : Int) > 4
  ·
   rw [if_pos c4] at H; have c4b0 : decide (4 < (l0_0.length : Int)) = true := decide_eq_true c4; have c4b1 : decide (4 < l0_0.length) = true := decide_eq_true (by omega); clear c4
   (first | rw [c4b0] | (simp only [i64_w, i32_w]; rw [c4b0]) | skip)
   have H' := Aside0.mk H; clear H; have hz5 := blk_all8 BK218.out; go_wp2; go_meet
   case rel => exact ⟨_, (true), (au11), H', ⟨au95⟩, ⟨au191⟩, ⟨au24⟩⟩
  ·
   rw [if_neg c4] at H; have c4b0 : decide (4 < (l0_0.length : Int)) = false := decide_eq_false c4; have c4b1 : decide (4 < l0_0.length) = false := decide_eq_false (by omega); clear c4
   (first | rw [c4b0] | (simp only [i64_w, i32_w]; rw [c4b0]) | skip)
   by_cases c6 : (l0_1.length : Int) > (wrap64 (16 - (l0_0.length : Int)))
   ·
    rw [if_pos c6] at H; have c6b0 : decide ((wrap64 (16 - (l0_0.length : Int))) < (l0_1.length : Int)) = true := decide_eq_true c6; clear c6; have H' := Aside0.mk H; clear H; have hz7 := blk_all8 BK218.out; go_wp2; go_meet
    case rel => exact ⟨_, (true), (au11), H', ⟨au95⟩, ⟨au191⟩, ⟨au24⟩⟩
   ·
    rw [if_neg c6] at H; have c6b0 : decide ((wrap64 (16 - (l0_0.length : Int))) < (l0_1.length : Int)) = false := decide_eq_false c6; clear c6; obtain ⟨t219, A8, H⟩ := sq_bind H
    by_cases c9 : t219 = true
    rotate_left
    ·
     replace c9 := Bool.eq_false_iff.mpr c9; subst c9
     rw [sq_f] at H; have H' := Aside0.mk H; clear H; have hz12 := blk_all8 BK218.out
     go_wp2_with (first | (go_at_call 101; (with_reducible refine (capstanref07_kinds.calls k _ _ l0_0 false _ ?side1 ?side2 A8.out).mono ?_); (case side1 => exact au12); (case side2 => exact HC0_0.out); rintro e w' ⟨rfl, ⟨nd, rfl⟩⟩))
     go_meet
     case rel => exact ⟨_, (true), (au11), H', ⟨au95⟩, ⟨au191⟩, ⟨au24⟩⟩
    subst c9
    rw [if_pos rfl] at H; obtain ⟨t220, A10, H⟩ := sq_bind H; have H' := Aside0.mk H; clear H; have hz11 := blk_all8 BK218.out
    go_wp2_with (first | (go_at_call 101; (with_reducible refine (capstanref07_kinds.calls k _ _ l0_0 true _ ?side1 ?side2 A8.out).mono ?_); (case side1 => exact au12); (case side2 => exact HC0_0.out); rintro e w' ⟨rfl, ⟨nd, rfl⟩⟩) | (go_at_call 101; (with_reducible refine (capstanref07_kinds.calls k _ _ l0_1 t220 _ ?side1 ?side2 A10.out).mono ?_); (case side1 => repeat (first | exact (Kd.C_below HR0_1.out (au24)) | (with_reducible refine Kd.C_alloc ?_ _) | (with_reducible refine Kd.C_drewN ?_ _) | (with_reducible refine Kd.C_drew ?_))); (case side2 => exact HC0_1.out); rintro e w' ⟨rfl, ⟨nd, rfl⟩⟩))
    go_meet
    case rel => exact ⟨_, (!t220), (au11), H', ⟨au95⟩, ⟨au191⟩, ⟨au24⟩⟩
 case rest =>
  clear HC2; obtain ⟨kq, x28_1, rfl, HA, HJ1, BK218, HB⟩ := hcut
  cases kq with
  | zero => exact absurd HA.out (by simp [capstanref07_May.j0])
  | succ kj1 =>
   have H := HA.out; clear HA; simp only [capstanref07_May.j0] at H
   by_cases c13 : x28_1 = true
   ·
    subst c13
    rw [if_pos rfl] at H; obtain rfl := Option.some.inj H; go_wp2; go_ret; exact ⟨au4, au24⟩
   ·
    replace c13 := Bool.eq_false_iff.mpr c13; subst c13
    rw [sq_f] at H
    by_cases c14 : a0_2 = 1
    ·
     rw [if_pos c14] at H; have c14b0 := beq_iff_eq.mpr c14; have c14b1 := bne_eq_false_iff_eq.mpr c14; clear c14
     by_cases c15 : a0_4 ≥ 0
     rotate_left
     · rw [if_neg c15] at H; have c15b0 : decide (0 ≤ a0_4) = false := decide_eq_false c15; clear c15; obtain rfl := Option.some.inj H; have hz25 := blk_all8 BK218.out; go_wp2; go_ret; exact ⟨au4, au24⟩
     rw [if_pos c15] at H; have c15b0 : decide (0 ≤ a0_4) = true := decide_eq_true c15; clear c15
     by_cases c16 : a0_4 ≤ 1048576
     rotate_left
     · rw [if_neg c16] at H; have c16b0 : decide (a0_4 ≤ 1048576) = false := decide_eq_false c16; clear c16; obtain rfl := Option.some.inj H; have hz24 := blk_all8 BK218.out; go_wp2; go_ret; exact ⟨au4, au24⟩
     rw [if_pos c16] at H; have c16b0 : decide (a0_4 ≤ 1048576) = true := decide_eq_true c16; clear c16
     by_cases c17 : a0_5 ≥ 0
     rotate_left
     · rw [if_neg c17] at H; have c17b0 : decide (0 ≤ a0_5) = false := decide_eq_false c17; clear c17; obtain rfl := Option.some.inj H; have hz23 := blk_all8 BK218.out; go_wp2; go_ret; exact ⟨au4, au24⟩
     rw [if_pos c17] at H; have c17b0 : decide (0 ≤ a0_5) = true := decide_eq_true c17; clear c17
     by_cases c18 : a0_5 ≤ 256
     rotate_left
     · rw [if_neg c18] at H; have c18b0 : decide (a0_5 ≤ 256) = false := decide_eq_false c18; clear c18; obtain rfl := Option.some.inj H; have hz22 := blk_all8 BK218.out; go_wp2; go_ret; exact ⟨au4, au24⟩
     rw [if_pos c18] at H; have c18b0 : decide (a0_5 ≤ 256) = true := decide_eq_true c18; clear c18
     by_cases c19 : a0_6 ≥ 0
     · rw [if_pos c19] at H; have c19b0 : decide (0 ≤ a0_6) = true := decide_eq_true c19; clear c19; obtain rfl := Option.some.inj H; have hz20 := blk_all8 BK218.out; go_wp2; go_ret; exact ⟨au4, au24⟩
     · rw [if_neg c19] at H; have c19b0 : decide (0 ≤ a0_6) = false := decide_eq_false c19; clear c19; obtain rfl := Option.some.inj H; have hz21 := blk_all8 BK218.out; go_wp2; go_ret; exact ⟨au4, au24⟩
    ·
     rw [if_neg c14] at H; have c14b0 := beq_eq_false_iff_ne.mpr c14; have c14b1 := bne_iff_ne.mpr c14
     by_cases c26 : a0_2 = 2
     rotate_left
     · rw [if_neg c26] at H; have c26b0 := beq_eq_false_iff_ne.mpr c26; have c26b1 := bne_iff_ne.mpr c26; obtain rfl := Option.some.inj H; have hz38 := blk_all8 BK218.out; go_wp2; go_ret; exact ⟨au4, au24⟩

     rw [if_pos c26] at H; have c26b0 := beq_iff_eq.mpr c26; have c26b1 := bne_eq_false_iff_eq.mpr c26; clear c26
     by_cases c27 : a0_4 ≥ 0
     rotate_left
     · rw [if_neg c27] at H; have c27b0 : decide (0 ≤ a0_4) = false := decide_eq_false c27; clear c27; obtain rfl := Option.some.inj H; have hz37 := blk_all8 BK218.out; go_wp2; go_ret; exact ⟨au4, au24⟩
     rw [if_pos c27] at H; have c27b0 : decide (0 ≤ a0_4) = true := decide_eq_true c27; clear c27
     by_cases c28 : a0_4 ≤ 1048576
     rotate_left
     · rw [if_neg c28] at H; have c28b0 : decide (a0_4 ≤ 1048576) = false := decide_eq_false c28; clear c28; obtain rfl := Option.some.inj H; have hz36 := blk_all8 BK218.out; go_wp2; go_ret; exact ⟨au4, au24⟩
     rw [if_pos c28] at H; have c28b0 : decide (a0_4 ≤ 1048576) = true := decide_eq_true c28; clear c28
     by_cases c29 : a0_5 ≥ 0
     rotate_left
     · rw [if_neg c29] at H; have c29b0 : decide (0 ≤ a0_5) = false := decide_eq_false c29; clear c29; obtain rfl := Option.some.inj H; have hz35 := blk_all8 BK218.out; go_wp2; go_ret; exact ⟨au4, au24⟩
     rw [if_pos c29] at H; have c29b0 : decide (0 ≤ a0_5) = true := decide_eq_true c29; clear c29
     by_cases c30 : a0_5 ≤ 256
     rotate_left
     · rw [if_neg c30] at H; have c30b0 : decide (a0_5 ≤ 256) = false := decide_eq_false c30; clear c30; obtain rfl := Option.some.inj H; have hz34 := blk_all8 BK218.out; go_wp2; go_ret; exact ⟨au4, au24⟩
     rw [if_pos c30] at H; have c30b0 : decide (a0_5 ≤ 256) = true := decide_eq_true c30; clear c30
     by_cases c31 : a0_6 ≥ 0
     · rw [if_pos c31] at H; have c31b0 : decide (0 ≤ a0_6) = true := decide_eq_true c31; clear c31; obtain rfl := Option.some.inj H; have hz32 := blk_all8 BK218.out; go_wp2; go_ret; exact ⟨au4, au24⟩
     · rw [if_neg c31] at H; have c31b0 : decide (0 ≤ a0_6) = false := decide_eq_false c31; clear c31; obtain rfl := Option.some.inj H; have hz33 := blk_all8 BK218.out; go_wp2; go_ret; exact ⟨au4, au24⟩
end Go.Proofs.YthmjblmdbcmjcaaDoor.P
