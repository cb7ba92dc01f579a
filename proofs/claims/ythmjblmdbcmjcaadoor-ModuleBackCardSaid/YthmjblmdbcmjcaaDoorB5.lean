/- Contracts of functions of this seat. -/
import Derived.Test.YthmjblmdbcmjcaaDoorB0
import Derived.Test.YthmjblmdbcmjcaaDoorB4
namespace Go.Proofs.YthmjblmdbcmjcaaDoor.B
open Go.RowKit Go.Proofs.YthmjblmdbcmjcaaDoorW.PrintWords Go.Proofs.YthmjblmdbcmjcaaDoorW.PrintLast Go.Proofs.YthmjblmdbcmjcaaDoorW.PrintMore
attribute [local go_sem] max2_int min2_int max_two min_two max_three min_three max_four min_four
set_option linter.unusedVariables false
set_option linter.unusedSimpArgs false

/-! ### value_Read: function 75 -/
def value_Read.j0 : Nat → List Int → Int → Int → Bool → Option (Int × Int × Int × Int × Int)
 | 0, _, _, _, _ => none
 | k + 1, x0, x1, x7, x38 => if x38 = true then (some (0, 0, 0, 0, 30)) else (if 0 ≤ x7 then (if x7 < (gl0.length : Int) then (if (wrap64 (x1 + (rd gl0 x7))) > (x0.length : Int) then (some (0, 0, 0, 0, 10)) else (if ((x7) % 256) = 1 then ((octet_GetSigned.f k x0 x1).bind fun bt110 => ((value_Int.f bt110.1).bind fun bt113 => (some (bt113.1, bt113.2.1, bt113.2.2, wrap64 (x1 + (rd gl0 x7)), 0)))) else ((octet_Get.f k x0 x1 3).bind fun bt116 => ((octet_Get.f k x0 bt116.2.1 3).bind fun bt119 => ((value_Pair.f (wrap64 (bt116.1 - 1048576)) (wrap64 (bt119.1 - 1048576))).bind fun bt122 => (if bt122.2.2.2 = true then (some (bt122.1, bt122.2.1, bt122.2.2.1, wrap64 (x1 + (rd gl0 x7)), 0)) else (some (0, 0, 0, 0, 30)))))))) else (none)) else (none))
def value_Read.f (k : Nat) (l0 : List Int) (a1 : Int) : Option (Int × Int × Int × Int × Int) := (octet_Get.f k l0 a1 1).bind fun bt105 => (if bt105.2.2 = 0 then (if bt105.1 ≥ 3 then (value_Read.j0 k l0 bt105.2.1 bt105.1 true) else (if 0 ≤ bt105.1 then (if bt105.1 < (gl0.length : Int) then (value_Read.j0 k l0 bt105.2.1 bt105.1 ((rd gl0 bt105.1) == 0)) else (none)) else (none))) else (some (0, 0, 0, 0, bt105.2.2)))
theorem value_Read.mono_l : ∀ k, (∀ y0 y1 y2 y3, LeO (value_Read.j0 k y0 y1 y2 y3) (value_Read.j0 (k + 1) y0 y1 y2 y3))
 | 0 => fun _ _ _ _ r h => by simp [value_Read.j0] at h
 | k + 1 => by
  have ih0 := value_Read.mono_l k
  ·
   intro y0 y1 y2 y3
   unfold value_Read.j0
   repeat' first | (with_reducible first | apply ih0 | apply octet_Get.mono | apply octet_GetSigned.mono | apply LeO.refl | apply LeO.none | refine LeO.ite ?_ ?_ | refine LeO.bind ?_ (fun _ => ?_)) | apply ih0 | apply octet_Get.mono | apply octet_GetSigned.mono | apply LeO.none | refine LeO.ite ?_ ?_ | refine LeO.bind ?_ (fun _ => ?_)
theorem value_Read.mono : ∀ a0 a1 k, LeO (value_Read.f k a0 a1) (value_Read.f (k + 1) a0 a1) := by
 intro a0 a1 k; have ih0 := value_Read.mono_l k
 unfold value_Read.f
 repeat' first | (with_reducible first | apply ih0 | apply octet_Get.mono | apply octet_GetSigned.mono | apply LeO.refl | apply LeO.none | refine LeO.ite ?_ ?_ | refine LeO.bind ?_ (fun _ => ?_)) | apply ih0 | apply octet_Get.mono | apply octet_GetSigned.mono | apply LeO.none | refine LeO.ite ?_ ?_ | refine LeO.bind ?_ (fun _ => ?_)
set_option maxHeartbeats 8000000 in
set_option maxRecDepth 100000 in
theorem value_Read.calls (k : Nat) (A0 : Option Addr) (c0 : Nat) (l0 : List Int) (a1 : Int) (r1 : Int) (r2 : Int) (r3 : Int) (r4 : Int) (r5 : Int) (w : World) (hG : Gl w) (hr0 : Kd.C (Kd.int .u8) w A0 l0.length l0) (hc0 : l0.length ≤ c0) (h : value_Read.f k l0 a1 = some (r1, r2, r3, r4, r5)) :
  Calls Tryd.prog 75 #[.slice A0 l0.length c0, .int .i64 a1] w fun e w' => e = .returned (.tuple #[.agg #[.int .u8 r1, .int .i64 r2, .int .i64 r3], .int .i64 r4, .int .i64 r5]) ∧ Below w.heap.size w w' := by
 have hu73 := Tryd.underlying73; have HG := Aside0.mk hG; clear hG; have HRG0 := Aside0.mk HG.out.g0
 have hal0 : Tryd.prog.arrayLen 128 = 3 := by kernel_rfl
 have HR0 := Aside0.mk hr0; have HC0 := Aside0.mk hc0; clear hr0 hc0; have HB := Aside0.mk (Below.refl w.heap.size w); have H := h; unfold value_Read.f at H; clear h; obtain ⟨⟨t105, t106, t107⟩, A3, H⟩ := sq_bind H; dsimp only at H
 by_cases c4 : t107 = 0
 rotate_left
 ·
  rw [if_neg c4] at H; have c4b0 := beq_eq_false_iff_ne.mpr c4; have c4b1 := bne_iff_ne.mpr c4; simp only [Option.some.injEq, Prod.mk.injEq] at H; obtain ⟨rfl, rfl, rfl, rfl, rfl⟩ := H
  go_enter Tryd.func75, Tryd.ntmps75
  go_wp2_with (first | ((with_reducible refine gate_dst (N := 4) rfl ?_); refine sq_box (N := 4) (cs := #[.int .u8 0, .int .i64 0, .int .i64 0]) (t := 73) ?_; intro gb104 hg w41 hbox hb; have n_ := sq_n4 (below_step (au1) hb) hbox ((au25 : w.heap.size ≤ gb104)) ((au25 : w.heap.size ≤ gb104)); clear HB; obtain ⟨HB, BK104, GW104, GE104⟩ := n_; clear hb hbox hg) | ((with_reducible refine gate_callee (f := 30) rfl ?_); refine goesL_ (some 23) rfl rfl Tryd.func30 (by kernel_rfl) rfl #[.slice A0 l0.length c0, .int .i64 a1, .int .i64 1] rfl (au2) ?_; (with_reducible refine (octet_Get.calls k _ _ l0 a1 1 t105 t106 t107 _ ?side1 ?side2 A3.out).mono ?_); (case side1 => exact au73); (case side2 => exact HC0.out); rintro e w42 ⟨rfl, hb⟩; refine ⟨_, rfl, ?_⟩; have n_ := sq_n2 (blk_below (g := gb104) (o := .cells #[.int .u8 0, .int .i64 0, .int .i64 0] 73 (0, 0)) (au46) hb) (below_step (au14) hb); clear BK104 HB; obtain ⟨BK104, HB⟩ := n_; (try clear hb); have hz43 := blk_all3 BK104.out))
  refine bodyPost_ret (results_ctt rfl _ _ gb104 73 #[.int .u8 0, .int .i64 0, .int .i64 0] (0, 0) _ rfl (au76) Tryd.underlying73 rfl (by kernel_rfl)) rfl ?_; exact ⟨au7, au14⟩

 rw [if_pos c4] at H; have c4b0 := beq_iff_eq.mpr c4; have c4b1 := bne_eq_false_iff_eq.mpr c4; clear c4; have HC5 := Aside0.mk H; clear H
 go_enter Tryd.func75, Tryd.ntmps75
 go_upto_region 4 with (first | ((with_reducible refine gate_dst (N := 4) rfl ?_); refine sq_box (N := 4) (cs := #[.int .u8 0, .int .i64 0, .int .i64 0]) (t := 73) ?_; intro gb104 hg w6 hbox hb; have n_ := sq_n4 (below_step (au1) hb) hbox ((au25 : w.heap.size ≤ gb104)) ((au25 : w.heap.size ≤ gb104)); clear HB; obtain ⟨HB, BK104, GW104, GE104⟩ := n_; clear hb hbox hg) | ((with_reducible refine gate_callee (f := 30) rfl ?_); refine goesL_ (some 23) rfl rfl Tryd.func30 (by kernel_rfl) rfl #[.slice A0 l0.length c0, .int .i64 a1, .int .i64 1] rfl (au2) ?_; (with_reducible refine (octet_Get.calls k _ _ l0 a1 1 t105 t106 t107 _ ?side1 ?side2 A3.out).mono ?_); (case side1 => exact au73); (case side2 => exact HC0.out); rintro e w7 ⟨rfl, hb⟩; refine ⟨_, rfl, ?_⟩; have n_ := sq_n2 (blk_below (g := gb104) (o := .cells #[.int .u8 0, .int .i64 0, .int .i64 0] 73 (0, 0)) (au46) hb) (below_step (au14) hb); clear BK104 HB; obtain ⟨BK104, HB⟩ := n_; (try clear hb)))
 (try simp only [Act.put, List.setIfInBounds_toArray, List.set_cons_zero, List.set_cons_succ])
 go_cut [38] (fun v38 wc => ∃ (kq : Nat) (x38_4 : Bool), v38 = .bool x38_4 ∧ Aside0 (value_Read.j0 kq l0 t106 t105 x38_4 = some (r1, r2, r3, r4, r5)) ∧ Aside0 (kq ≤ k) ∧ Aside0 (wc.heap[gb104]? = some (.cells #[.int .u8 0, .int .i64 0, .int .i64 0] 73 (0, 0))) ∧ Aside0 (Below w.heap.size w wc))
 case first =>
  have H := HC5.out; clear HC5
  by_cases c8 : t105 ≥ 3
  ·
   rw [if_pos c8] at H; have c8b0 : decide (3 ≤ t105) = true := decide_eq_true c8; clear c8
   (first | rw [c8b0] | (simp only [i64_w, i32_w]; rw [c8b0]) | skip)
   have H' := Aside0.mk H; clear H; go_wp2; go_meet
   case rel => exact ⟨_, (true), (au16), H', ⟨au117⟩, ⟨au46⟩, ⟨au14⟩⟩
  ·
   rw [if_neg c8] at H; have c8b0 : decide (3 ≤ t105) = false := decide_eq_false c8; clear c8
   (first | rw [c8b0] | (simp only [i64_w, i32_w]; rw [c8b0]) | skip)
   by_cases c9 : 0 ≤ t105
   rotate_left
   · rw [if_neg c9] at H; exact absurd H (by simp)
   rw [if_pos c9] at H; have c9b0 : decide (0 ≤ t105) = true := decide_eq_true c9; clear c9
   by_cases c10 : t105 < (gl0.length : Int)
   rotate_left
   · rw [if_neg c10] at H; exact absurd H (by simp)
   rw [if_pos c10] at H; have c10b0 : decide (t105 < (gl0.length : Int)) = true := decide_eq_true c10; clear c10; have H' := Aside0.mk H; clear H; have p108 : 0 ≤ (t105 : Int) := of_decide_eq_true (au9); have q108 : t105 < (gl0.length : Int) := of_decide_eq_true (au9); have qn108 : ((t105 : Int) < 3) = True := eq_true (by have e_ : gl0.length = 3 := rfl; have h_ := q108; rw [e_] at h_; omega); obtain ⟨ad108, e108, hx108_0⟩ := Kd.at_int HRG0.out t105 p108 q108; obtain rfl : (⟨0, 0, none⟩ : Addr) = ad108 := (by injection e108)
   (first | simp only [add_plain] at hx108_0 | simp only [add_at] at hx108_0 | simp only [Addr.add, Nat.zero_add] at hx108_0 | skip)
   replace hx108_0 := sq_c HB hx108_0; replace p108 := eq_true p108; replace q108 := eq_true q108; go_wp2; go_meet
   case rel => exact ⟨_, (((rd gl0 t105) == 0)), (au16), H', ⟨au117⟩, ⟨au46⟩, ⟨au14⟩⟩
 case rest =>
  clear HC5; (try clear c4); (try clear c4b0); (try clear c4b1); obtain ⟨kq, x38_4, rfl, HA, HJ4, BK104, HB⟩ := hcut
  cases kq with
  | zero => exact absurd HA.out (by simp [value_Read.j0])
  | succ kj4 =>
   have H := HA.out; clear HA; simp only [value_Read.j0] at H
   by_cases c11 : x38_4 = true
   ·
    subst c11
    rw [if_pos rfl] at H; simp only [Option.some.injEq, Prod.mk.injEq] at H; obtain ⟨rfl, rfl, rfl, rfl, rfl⟩ := H; have hz12 := blk_all3 BK104.out; go_wp2; refine bodyPost_ret (results_ctt rfl _ _ gb104 73 #[.int .u8 0, .int .i64 0, .int .i64 0] (0, 0) _ rfl (au76) Tryd.underlying73 rfl (by kernel_rfl)) rfl ?_; exact ⟨au7, au14⟩
   ·
    replace c11 := Bool.eq_false_iff.mpr c11; subst c11
    rw [sq_f] at H
    by_cases c13 : 0 ≤ t105
    rotate_left
    · rw [if_neg c13] at H; exact absurd H (by simp)
    rw [if_pos c13] at H; have c13b0 : decide (0 ≤ t105) = true := decide_eq_true c13; clear c13
    by_cases c14 : t105 < (gl0.length : Int)
    rotate_left
    · rw [if_neg c14] at H; exact absurd H (by simp)
    rw [if_pos c14] at H; have c14b0 : decide (t105 < (gl0.length : Int)) = true := decide_eq_true c14; clear c14
    by_cases c15 : (wrap64 (t106 + (rd gl0 t105))) > (l0.length : Int)
    ·
     rw [if_pos c15] at H; have c15b0 : decide ((l0.length : Int) < (wrap64 (t106 + (rd gl0 t105)))) = true := decide_eq_true c15; clear c15; simp only [Option.some.injEq, Prod.mk.injEq] at H; obtain ⟨rfl, rfl, rfl, rfl, rfl⟩ := H; have p109 : 0 ≤ (t105 : Int) := of_decide_eq_true (au9); have q109 : t105 < (gl0.length : Int) := of_decide_eq_true (au9); have qn109 : ((t105 : Int) < 3) = True := eq_true (by have e_ : gl0.length = 3 := rfl; have h_ := q109; rw [e_] at h_; omega); obtain ⟨ad109, e109, hx109_0⟩ := Kd.at_int HRG0.out t105 p109 q109; obtain rfl : (⟨0, 0, none⟩ : Addr) = ad109 := (by injection e109)
     (first | simp only [add_plain] at hx109_0 | simp only [add_at] at hx109_0 | simp only [Addr.add, Nat.zero_add] at hx109_0 | skip)
     replace hx109_0 := sq_c HB hx109_0; replace p109 := eq_true p109; replace q109 := eq_true q109; have hz16 := blk_all3 BK104.out; go_wp2; refine bodyPost_ret (results_ctt rfl _ _ gb104 73 #[.int .u8 0, .int .i64 0, .int .i64 0] (0, 0) _ rfl (au76) Tryd.underlying73 rfl (by kernel_rfl)) rfl ?_; exact ⟨au7, au14⟩
    ·
     rw [if_neg c15] at H; have c15b0 : decide ((l0.length : Int) < (wrap64 (t106 + (rd gl0 t105)))) = false := decide_eq_false c15; clear c15
     by_cases c17 : ((t105) % 256) = 1
     ·
      rw [if_pos c17] at H; have c17b0 := beq_iff_eq.mpr c17; have c17b1 := bne_eq_false_iff_eq.mpr c17; clear c17; obtain ⟨⟨t110, t111, t112⟩, A18, H⟩ := sq_bind H; dsimp only at H; obtain ⟨⟨t113, t114, t115⟩, A19, H⟩ := sq_bind H; dsimp only at H; simp only [Option.some.injEq, Prod.mk.injEq] at H; obtain ⟨rfl, rfl, rfl, rfl, rfl⟩ := H; have p109 : 0 ≤ (t105 : Int) := of_decide_eq_true (au9); have q109 : t105 < (gl0.length : Int) := of_decide_eq_true (au9); have qn109 : ((t105 : Int) < 3) = True := eq_true (by have e_ : gl0.length = 3 := rfl; have h_ := q109; rw [e_] at h_; omega); obtain ⟨ad109, e109, hx109_0⟩ := Kd.at_int HRG0.out t105 p109 q109; obtain rfl : (⟨0, 0, none⟩ : Addr) = ad109 := (by injection e109)
      (first | simp only [add_plain] at hx109_0 | simp only [add_at] at hx109_0 | simp only [Addr.add, Nat.zero_add] at hx109_0 | skip)
      replace hx109_0 := sq_c HB hx109_0; replace p109 := eq_true p109; replace q109 := eq_true q109
      go_wp2_with (first | ((with_reducible refine gate_callee (f := 103) rfl ?_); refine goesL_ (some 56) rfl rfl Tryd.func103 (by kernel_rfl) rfl #[.slice A0 l0.length c0, .int .i64 t106] rfl (au2) ?_; (with_reducible refine (octet_GetSigned.calls kj4 _ _ l0 t106 t110 t111 t112 _ ?side1 ?side2 A18.out).mono ?_); (case side1 => exact au73); (case side2 => exact HC0.out); rintro e w' ⟨rfl, ⟨nd, rfl⟩⟩; refine ⟨_, rfl, ?_⟩; (try (rw [drewN_self wc]; generalize hq_ : World.drewN wc _ = wc; have n0_ : Aside0 (wc.heap[gb104]? = some (.cells #[.int .u8 0, .int .i64 0, .int .i64 0] 73 (0, 0))) := ⟨by rw [← hq_]; exact (au46)⟩; have n1_ : Aside0 (Below w.heap.size w wc) := ⟨by rw [← hq_]; exact (au14)⟩; clear BK104 HB hq_; have BK104 := n0_; have HB := n1_; clear n0_ n1_)); (try obtain ⟨hcu20_0, hcu20_1, hcu20_2, hfu20_0, hfu20_1, hfu20_2⟩ := blk_all3 BK104.out)) | ((with_reducible refine gate_callee (f := 89) rfl ?_); refine goesL_ (some 61) rfl rfl Tryd.func89 (by kernel_rfl) rfl #[.int .i64 t110] rfl (au2) ?_; (with_reducible refine (value_Int.calls t110 t113 t114 t115 _ A19.out).mono ?_); rintro e w21 ⟨rfl, hb⟩; refine ⟨_, rfl, ?_⟩; have n_ := sq_n2 (blk_below (g := gb104) (o := .cells #[.int .u8 0, .int .i64 0, .int .i64 0] 73 (0, 0)) (au46) hb) (below_step (au14) hb); clear BK104 HB; obtain ⟨BK104, HB⟩ := n_; (try clear hb); have hz22 := blk_all3 BK104.out))
      refine bodyPost_ret (results_ctt rfl _ _ gb104 73 #[.int .u8 t113, .int .i64 t114, .int .i64 t115] (0, 0) _ rfl (by (with_reducible repeat (first | refine blk_drewN ?_ _ | refine blk_drew ?_ | refine blk_alloc ?_ _)); refine blk_put (cs := #[.int .u8 t113, .int .i64 t114, .int .i64 0]) ?_ 2 _ rfl; (with_reducible repeat (first | refine blk_drewN ?_ _ | refine blk_drew ?_ | refine blk_alloc ?_ _)); refine blk_put (cs := #[.int .u8 t113, .int .i64 0, .int .i64 0]) ?_ 1 _ rfl; (with_reducible repeat (first | refine blk_drewN ?_ _ | refine blk_drew ?_ | refine blk_alloc ?_ _)); refine blk_put (cs := #[.int .u8 0, .int .i64 0, .int .i64 0]) ?_ 0 _ rfl; (with_reducible repeat (first | refine blk_drewN ?_ _ | refine blk_drew ?_ | refine blk_alloc ?_ _)); exact BK104.out) Tryd.underlying73 rfl (by kernel_rfl)) rfl ?_; exact ⟨au7, au14⟩
     ·
      rw [if_neg c17] at H; have c17b0 := beq_eq_false_iff_ne.mpr c17; have c17b1 := bne_iff_ne.mpr c17; obtain ⟨⟨t116, t117, t118⟩, A23, H⟩ := sq_bind H; dsimp only at H; obtain ⟨⟨t119, t120, t121⟩, A24, H⟩ := sq_bind H; dsimp only at H; obtain ⟨⟨t122, t123, t124, t125⟩, A25, H⟩ := sq_bind H; dsimp only at H
      by_cases c26 : t125 = true
      ·
       subst c26
       rw [if_pos rfl] at H; simp only [Option.some.injEq, Prod.mk.injEq] at H; obtain ⟨rfl, rfl, rfl, rfl, rfl⟩ := H; have p109 : 0 ≤ (t105 : Int) := of_decide_eq_true (au9); have q109 : t105 < (gl0.length : Int) := of_decide_eq_true (au9); have qn109 : ((t105 : Int) < 3) = True := eq_true (by have e_ : gl0.length = 3 := rfl; have h_ := q109; rw [e_] at h_; omega); obtain ⟨ad109, e109, hx109_0⟩ := Kd.at_int HRG0.out t105 p109 q109; obtain rfl : (⟨0, 0, none⟩ : Addr) = ad109 := (by injection e109)
       (first | simp only [add_plain] at hx109_0 | simp only [add_at] at hx109_0 | simp only [Addr.add, Nat.zero_add] at hx109_0 | skip)
       replace hx109_0 := sq_c HB hx109_0; replace p109 := eq_true p109; replace q109 := eq_true q109
       go_wp2_with (first | ((with_reducible refine gate_callee (f := 30) rfl ?_); refine goesL_ (some 66) rfl rfl Tryd.func30 (by kernel_rfl) rfl #[.slice A0 l0.length c0, .int .i64 t106, .int .i64 3] rfl (au2) ?_; (with_reducible refine (octet_Get.calls kj4 _ _ l0 t106 3 t116 t117 t118 _ ?side1 ?side2 A23.out).mono ?_); (case side1 => exact au73); (case side2 => exact HC0.out); rintro e w27 ⟨rfl, hb⟩; refine ⟨_, rfl, ?_⟩; have n_ := sq_n2 (blk_below (g := gb104) (o := .cells #[.int .u8 0, .int .i64 0, .int .i64 0] 73 (0, 0)) (au46) hb) (below_step (au14) hb); clear BK104 HB; obtain ⟨BK104, HB⟩ := n_; (try clear hb)) | ((with_reducible refine gate_callee (f := 30) rfl ?_); refine goesL_ (some 73) rfl rfl Tryd.func30 (by kernel_rfl) rfl #[.slice A0 l0.length c0, .int .i64 t117, .int .i64 3] rfl (au2) ?_; (with_reducible refine (octet_Get.calls kj4 _ _ l0 t117 3 t119 t120 t121 _ ?side1 ?side2 A24.out).mono ?_); (case side1 => exact au73); (case side2 => exact HC0.out); rintro e w28 ⟨rfl, hb⟩; refine ⟨_, rfl, ?_⟩; have n_ := sq_n2 (blk_below (g := gb104) (o := .cells #[.int .u8 0, .int .i64 0, .int .i64 0] 73 (0, 0)) (au46) hb) (below_step (au14) hb); clear BK104 HB; obtain ⟨BK104, HB⟩ := n_; (try clear hb)) | ((with_reducible refine gate_callee (f := 88) rfl ?_); refine goesL_ (some 82) rfl rfl Tryd.func88 (by kernel_rfl) rfl #[.int .i64 (wrap64 (t116 - 1048576)), .int .i64 (wrap64 (t119 - 1048576))] rfl (au2) ?_; (with_reducible refine (value_Pair.calls (wrap64 (t116 - 1048576)) (wrap64 (t119 - 1048576)) t122 t123 t124 true _ A25.out).mono ?_); rintro e w29 ⟨rfl, hb⟩; refine ⟨_, rfl, ?_⟩; have n_ := sq_n2 (blk_below (g := gb104) (o := .cells #[.int .u8 0, .int .i64 0, .int .i64 0] 73 (0, 0)) (au46) hb) (below_step (au14) hb); clear BK104 HB; obtain ⟨BK104, HB⟩ := n_; (try clear hb)) | ((with_reducible refine gate_dst (N := 18) rfl ?_); refine sq_box (N := 18) (cs := #[.int .u8 0, .int .i64 0, .int .i64 0]) (t := 73) ?_; intro gb126 hg w30 hbox hb; have n_ := sq_n7 (blk_below (g := gb104) (o := .cells #[.int .u8 0, .int .i64 0, .int .i64 0] 73 (0, 0)) (au46) hb) (below_step (au14) hb) hbox ((by rw [hg]; exact (below_size (au14)) : w.heap.size ≤ gb126)) ((by rw [hg]; exact (below_size (au14)) : w.heap.size ≤ gb126)) ((by rw [hg]; exact Nat.ne_of_lt (blk_lt (g := gb104) (o := .cells #[.int .u8 0, .int .i64 0, .int .i64 0] 73 (0, 0)) (au46)) : gb104 ≠ gb126)) ((by rw [hg]; exact Nat.ne_of_gt (blk_lt (g := gb104) (o := .cells #[.int .u8 0, .int .i64 0, .int .i64 0] 73 (0, 0)) (au46)) : gb126 ≠ gb104)); clear BK104 HB; obtain ⟨BK104, HB, BK126, GW126, GE126, NB104_126, NB126_104⟩ := n_; clear hb hbox hg; have hnb31 := NB126_104.out; have hnc31 := NB104_126.out; have hz32 := blk_all3 BK126.out; have hz33 := blk_all3 BK104.out))
       refine bodyPost_ret (results_ctt rfl _ _ gb104 73 #[.int .u8 t122, .int .i64 t123, .int .i64 t124] (0, 0) _ rfl (by (with_reducible repeat (first | refine blk_drewN ?_ _ | refine blk_drew ?_ | refine blk_alloc ?_ _)); refine blk_put (cs := #[.int .u8 t122, .int .i64 t123, .int .i64 0]) ?_ 2 _ rfl; (with_reducible repeat (first | refine blk_drewN ?_ _ | refine blk_drew ?_ | refine blk_alloc ?_ _)); refine blk_put (cs := #[.int .u8 t122, .int .i64 0, .int .i64 0]) ?_ 1 _ rfl; (with_reducible repeat (first | refine blk_drewN ?_ _ | refine blk_drew ?_ | refine blk_alloc ?_ _)); refine blk_put (cs := #[.int .u8 0, .int .i64 0, .int .i64 0]) ?_ 0 _ rfl; (with_reducible repeat (first | refine blk_drewN ?_ _ | refine blk_drew ?_ | refine blk_alloc ?_ _)); refine blk_far ?_ NB104_126.out _; (with_reducible repeat (first | refine blk_drewN ?_ _ | refine blk_drew ?_ | refine blk_alloc ?_ _)); refine blk_far ?_ NB104_126.out _; (with_reducible repeat (first | refine blk_drewN ?_ _ | refine blk_drew ?_ | refine blk_alloc ?_ _)); refine blk_far ?_ NB104_126.out _; (with_reducible repeat (first | refine blk_drewN ?_ _ | refine blk_drew ?_ | refine blk_alloc ?_ _)); exact BK104.out) Tryd.underlying73 rfl (by kernel_rfl)) rfl ?_; exact ⟨au7, au179⟩
      ·
       replace c26 := Bool.eq_false_iff.mpr c26; subst c26
       rw [sq_f] at H; simp only [Option.some.injEq, Prod.mk.injEq] at H; obtain ⟨rfl, rfl, rfl, rfl, rfl⟩ := H; have p109 : 0 ≤ (t105 : Int) := of_decide_eq_true (au9); have q109 : t105 < (gl0.length : Int) := of_decide_eq_true (au9); have qn109 : ((t105 : Int) < 3) = True := eq_true (by have e_ : gl0.length = 3 := rfl; have h_ := q109; rw [e_] at h_; omega); obtain ⟨ad109, e109, hx109_0⟩ := Kd.at_int HRG0.out t105 p109 q109; obtain rfl : (⟨0, 0, none⟩ : Addr) = ad109 := (by injection e109)
       (first | simp only [add_plain] at hx109_0 | simp only [add_at] at hx109_0 | simp only [Addr.add, Nat.zero_add] at hx109_0 | skip)
       replace hx109_0 := sq_c HB hx109_0; replace p109 := eq_true p109; replace q109 := eq_true q109
       go_wp2_with (first | ((with_reducible refine gate_callee (f := 30) rfl ?_); refine goesL_ (some 66) rfl rfl Tryd.func30 (by kernel_rfl) rfl #[.slice A0 l0.length c0, .int .i64 t106, .int .i64 3] rfl (au2) ?_; (with_reducible refine (octet_Get.calls kj4 _ _ l0 t106 3 t116 t117 t118 _ ?side1 ?side2 A23.out).mono ?_); (case side1 => exact au73); (case side2 => exact HC0.out); rintro e w34 ⟨rfl, hb⟩; refine ⟨_, rfl, ?_⟩; have n_ := sq_n2 (blk_below (g := gb104) (o := .cells #[.int .u8 0, .int .i64 0, .int .i64 0] 73 (0, 0)) (au46) hb) (below_step (au14) hb); clear BK104 HB; obtain ⟨BK104, HB⟩ := n_; (try clear hb)) | ((with_reducible refine gate_callee (f := 30) rfl ?_); refine goesL_ (some 73) rfl rfl Tryd.func30 (by kernel_rfl) rfl #[.slice A0 l0.length c0, .int .i64 t117, .int .i64 3] rfl (au2) ?_; (with_reducible refine (octet_Get.calls kj4 _ _ l0 t117 3 t119 t120 t121 _ ?side1 ?side2 A24.out).mono ?_); (case side1 => exact au73); (case side2 => exact HC0.out); rintro e w35 ⟨rfl, hb⟩; refine ⟨_, rfl, ?_⟩; have n_ := sq_n2 (blk_below (g := gb104) (o := .cells #[.int .u8 0, .int .i64 0, .int .i64 0] 73 (0, 0)) (au46) hb) (below_step (au14) hb); clear BK104 HB; obtain ⟨BK104, HB⟩ := n_; (try clear hb)) | ((with_reducible refine gate_callee (f := 88) rfl ?_); refine goesL_ (some 82) rfl rfl Tryd.func88 (by kernel_rfl) rfl #[.int .i64 (wrap64 (t116 - 1048576)), .int .i64 (wrap64 (t119 - 1048576))] rfl (au2) ?_; (with_reducible refine (value_Pair.calls (wrap64 (t116 - 1048576)) (wrap64 (t119 - 1048576)) t122 t123 t124 false _ A25.out).mono ?_); rintro e w36 ⟨rfl, hb⟩; refine ⟨_, rfl, ?_⟩; have n_ := sq_n2 (blk_below (g := gb104) (o := .cells #[.int .u8 0, .int .i64 0, .int .i64 0] 73 (0, 0)) (au46) hb) (below_step (au14) hb); clear BK104 HB; obtain ⟨BK104, HB⟩ := n_; (try clear hb)) | ((with_reducible refine gate_dst (N := 18) rfl ?_); refine sq_box (N := 18) (cs := #[.int .u8 0, .int .i64 0, .int .i64 0]) (t := 73) ?_; intro gb126 hg w37 hbox hb; have n_ := sq_n7 (blk_below (g := gb104) (o := .cells #[.int .u8 0, .int .i64 0, .int .i64 0] 73 (0, 0)) (au46) hb) (below_step (au14) hb) hbox ((by rw [hg]; exact (below_size (au14)) : w.heap.size ≤ gb126)) ((by rw [hg]; exact (below_size (au14)) : w.heap.size ≤ gb126)) ((by rw [hg]; exact Nat.ne_of_lt (blk_lt (g := gb104) (o := .cells #[.int .u8 0, .int .i64 0, .int .i64 0] 73 (0, 0)) (au46)) : gb104 ≠ gb126)) ((by rw [hg]; exact Nat.ne_of_gt (blk_lt (g := gb104) (o := .cells #[.int .u8 0, .int .i64 0, .int .i64 0] 73 (0, 0)) (au46)) : gb126 ≠ gb104)); clear BK104 HB; obtain ⟨BK104, HB, BK126, GW126, GE126, NB104_126, NB126_104⟩ := n_; clear hb hbox hg; have hnb38 := NB126_104.out; have hnc38 := NB104_126.out; have hz39 := blk_all3 BK126.out; have hz40 := blk_all3 BK104.out))
       refine bodyPost_ret (results_ctt rfl _ _ gb104 73 #[.int .u8 0, .int .i64 0, .int .i64 0] (0, 0) _ rfl (by (with_reducible repeat (first | refine blk_drewN ?_ _ | refine blk_drew ?_ | refine blk_alloc ?_ _)); refine blk_put (cs := #[.int .u8 0, .int .i64 0, .int .i64 0]) ?_ 2 _ rfl; (with_reducible repeat (first | refine blk_drewN ?_ _ | refine blk_drew ?_ | refine blk_alloc ?_ _)); refine blk_put (cs := #[.int .u8 0, .int .i64 0, .int .i64 0]) ?_ 1 _ rfl; (with_reducible repeat (first | refine blk_drewN ?_ _ | refine blk_drew ?_ | refine blk_alloc ?_ _)); refine blk_put (cs := #[.int .u8 0, .int .i64 0, .int .i64 0]) ?_ 0 _ rfl; (with_reducible repeat (first | refine blk_drewN ?_ _ | refine blk_drew ?_ | refine blk_alloc ?_ _)); refine blk_far ?_ NB104_126.out _; (with_reducible repeat (first | refine blk_drewN ?_ _ | refine blk_drew ?_ | refine blk_alloc ?_ _)); refine blk_far ?_ NB104_126.out _; (with_reducible repeat (first | refine blk_drewN ?_ _ | refine blk_drew ?_ | refine blk_alloc ?_ _)); refine blk_far ?_ NB104_126.out _; (with_reducible repeat (first | refine blk_drewN ?_ _ | refine blk_drew ?_ | refine blk_alloc ?_ _)); exact BK104.out) Tryd.underlying73 rfl (by kernel_rfl)) rfl ?_; exact ⟨au7, au179⟩
/-! ### pool_Read: function 33 -/
def pool_Read.l0 : Nat → List Int → Int → List (S73) → Int → Int → Option ((List (S73)) × Int × Int)
 | 0, _, _, _, _, _ => none
 | k + 1, x0, x1, x9, x25, x26 => if x26 < x25 then ((value_Read.f k x0 x1).bind fun bt130 => (if bt130.2.2.2.2 = 0 then (if x9.length < 5864062014805 then (pool_Read.l0 k x0 bt130.2.2.2.1 (x9 ++ [(⟨bt130.1, bt130.2.1, bt130.2.2.1⟩ : S73)]) x25 (wrap64 (x26 + 1))) else (none)) else (some (([] : List (S73)), 0, bt130.2.2.2.2)))) else (some (x9, x1, 0))
def pool_Read.f (k : Nat) (l0 : List Int) (a1 : Int) : Option ((List (S73)) × Int × Int) := (octet_Get.f k l0 a1 1).bind fun bt127 => (if bt127.2.2 = 0 then (if bt127.1 > 32 then (some (([] : List (S73)), 0, 60)) else (pool_Read.l0 k l0 bt127.2.1 ([] : List (S73)) bt127.1 0)) else (some (([] : List (S73)), 0, bt127.2.2)))
theorem pool_Read.mono_l : ∀ k, (∀ y0 y1 y2 y3 y4, LeO (pool_Read.l0 k y0 y1 y2 y3 y4) (pool_Read.l0 (k + 1) y0 y1 y2 y3 y4))
 | 0 => fun _ _ _ _ _ r h => by simp [pool_Read.l0] at h
 | k + 1 => by
  have ih0 := pool_Read.mono_l k
  ·
   intro y0 y1 y2 y3 y4
   unfold pool_Read.l0
   repeat' first | (with_reducible first | apply ih0 | apply octet_Get.mono | apply value_Read.mono | apply LeO.refl | apply LeO.none | refine LeO.ite ?_ ?_ | refine LeO.bind ?_ (fun _ => ?_)) | apply ih0 | apply octet_Get.mono | apply value_Read.mono | apply LeO.none | refine LeO.ite ?_ ?_ | refine LeO.bind ?_ (fun _ => ?_)
theorem pool_Read.mono : ∀ a0 a1 k, LeO (pool_Read.f k a0 a1) (pool_Read.f (k + 1) a0 a1) := by
 intro a0 a1 k; have ih0 := pool_Read.mono_l k
 unfold pool_Read.f
 repeat' first | (with_reducible first | apply ih0 | apply octet_Get.mono | apply value_Read.mono | apply LeO.refl | apply LeO.none | refine LeO.ite ?_ ?_ | refine LeO.bind ?_ (fun _ => ?_)) | apply ih0 | apply octet_Get.mono | apply value_Read.mono | apply LeO.none | refine LeO.ite ?_ ?_ | refine LeO.bind ?_ (fun _ => ?_)
set_option maxHeartbeats 8000000 in
set_option maxRecDepth 100000 in
theorem pool_Read.calls (k : Nat) (A0 : Option Addr) (c0 : Nat) (l0 : List Int) (a1 : Int) (r1 : List (S73)) (r2 : Int) (r3 : Int) (w : World) (hG : Gl w) (hr0 : Kd.C (Kd.int .u8) w A0 l0.length l0) (hc0 : l0.length ≤ c0) (h : pool_Read.f k l0 a1 = some (r1, r2, r3)) :
  Calls Tryd.prog 33 #[.slice A0 l0.length c0, .int .i64 a1] w fun e w' => ∃ v0_ : Value, e = .returned (.tuple #[v0_, .int .i64 r2, .int .i64 r3]) ∧ Kd.R k73 73 w' w.heap.size (fun _ => True) v0_ r1 ∧ Below w.heap.size w w' := by
 have hu73 := Tryd.underlying73; have HG := Aside0.mk hG; clear hG; have HR0 := Aside0.mk hr0; have HC0 := Aside0.mk hc0; clear hr0 hc0; have HB := Aside0.mk (Below.refl w.heap.size w); have H := h; unfold pool_Read.f at H; clear h; obtain ⟨⟨t127, t128, t129⟩, A3, H⟩ := sq_bind H; dsimp only at H
 by_cases c4 : t129 = 0
 rotate_left
 ·
  rw [if_neg c4] at H; have c4b0 := beq_eq_false_iff_ne.mpr c4; have c4b1 := bne_iff_ne.mpr c4; simp only [Option.some.injEq, Prod.mk.injEq] at H; obtain ⟨rfl, rfl, rfl⟩ := H
  go_enter Tryd.func33, Tryd.ntmps33
  go_wp2_with (first | ((with_reducible refine gate_callee (f := 30) rfl ?_); refine goesL_ (some 16) rfl rfl Tryd.func30 (by kernel_rfl) rfl #[.slice A0 l0.length c0, .int .i64 a1, .int .i64 1] rfl (au2) ?_; (with_reducible refine (octet_Get.calls k _ _ l0 a1 1 t127 t128 t129 _ ?side1 ?side2 A3.out).mono ?_); (case side1 => exact au62); (case side2 => exact HC0.out); rintro e w19 ⟨rfl, hb⟩; refine ⟨_, rfl, ?_⟩; replace HB := Aside0.mk (below_step (au1) hb); (try clear hb)))
  go_ret3
  exact ⟨_, au7, au38, au1⟩

 rw [if_pos c4] at H; have c4b0 := beq_iff_eq.mpr c4; have c4b1 := bne_eq_false_iff_eq.mpr c4; clear c4
 by_cases c5 : t127 > 32
 ·
  rw [if_pos c5] at H; have c5b0 : decide (32 < t127) = true := decide_eq_true c5; clear c5; simp only [Option.some.injEq, Prod.mk.injEq] at H; obtain ⟨rfl, rfl, rfl⟩ := H
  go_enter Tryd.func33, Tryd.ntmps33
  go_wp2_with (first | ((with_reducible refine gate_callee (f := 30) rfl ?_); refine goesL_ (some 16) rfl rfl Tryd.func30 (by kernel_rfl) rfl #[.slice A0 l0.length c0, .int .i64 a1, .int .i64 1] rfl (au2) ?_; (with_reducible refine (octet_Get.calls k _ _ l0 a1 1 t127 t128 t129 _ ?side1 ?side2 A3.out).mono ?_); (case side1 => exact au62); (case side2 => exact HC0.out); rintro e w6 ⟨rfl, hb⟩; refine ⟨_, rfl, ?_⟩; replace HB := Aside0.mk (below_step (au1) hb); (try clear hb)))
  go_ret3
  exact ⟨_, au7, au38, au1⟩
 ·
  rw [if_neg c5] at H; have c5b0 : decide (32 < t127) = false := decide_eq_false c5; clear c5; have H' := Aside0.mk H; clear H
  go_enter Tryd.func33, Tryd.ntmps33
  go_wp2_with (first | ((with_reducible refine gate_callee (f := 30) rfl ?_); refine goesL_ (some 16) rfl rfl Tryd.func30 (by kernel_rfl) rfl #[.slice A0 l0.length c0, .int .i64 a1, .int .i64 1] rfl (au2) ?_; (with_reducible refine (octet_Get.calls k _ _ l0 a1 1 t127 t128 t129 _ ?side1 ?side2 A3.out).mono ?_); (case side1 => exact au62); (case side2 => exact HC0.out); rintro e w7 ⟨rfl, hb⟩; refine ⟨_, rfl, ?_⟩; replace HB := Aside0.mk (below_step (au1) hb); (try clear hb)))
  go_loopg [1, 9, 26] k (fun kq v1 v9 v26 w' => ∃ (x1_1 : Int) (x9_1 : List (S73)) (x26_1 : Int), v1 = .int .i64 x1_1 ∧ v26 = .int .i64 x26_1 ∧ Aside0 (pool_Read.l0 kq l0 x1_1 x9_1 t127 x26_1 = some (r1, r2, r3)) ∧ Aside0 (kq ≤ k) ∧ Aside0 (Kd.R k73 73 w' w.heap.size (fun _ => True) v9 x9_1) ∧ Aside0 (Below w.heap.size w w'))
  case atStart => exact ⟨(t128), (([] : List (S73))), (0), (au16), (au16), H', ⟨Nat.le_refl _⟩, ⟨au38⟩, ⟨au1⟩⟩
  case round =>
   clear H'; (try clear p2); (try clear c3); (try clear c4); (try clear c4b0); (try clear c4b1); (try clear c5); (try clear c5b0); obtain ⟨x1_1, x9_1, x26_1, rfl, rfl, HA, HK1, HO_9, HB⟩ := hrel
   cases gk with
   | zero => exact absurd HA.out (by simp [pool_Read.l0])
   | succ k1 =>
    have H := HA.out; clear HA; simp only [pool_Read.l0] at H
    by_cases c8 : x26_1 < t127
    rotate_left
    ·
     rw [if_neg c8] at H; have c8b0 : decide (x26_1 < t127) = false := decide_eq_false c8; clear c8; simp only [Option.some.injEq, Prod.mk.injEq] at H; obtain ⟨rfl, rfl, rfl⟩ := H; go_wp2
     go_ret3
     exact ⟨_, au7, au129, au1⟩
    rw [if_pos c8] at H; have c8b0 : decide (x26_1 < t127) = true := decide_eq_true c8; clear c8; obtain ⟨⟨t130, t131, t132, t133, t134⟩, A9, H⟩ := sq_bind H; dsimp only at H
    by_cases c10 : t134 = 0
    rotate_left
    ·
     rw [if_neg c10] at H; have c10b0 := beq_eq_false_iff_ne.mpr c10; have c10b1 := bne_iff_ne.mpr c10; simp only [Option.some.injEq, Prod.mk.injEq] at H; obtain ⟨rfl, rfl, rfl⟩ := H
     go_wp2_with (first | ((with_reducible refine gate_callee (f := 75) rfl ?_); refine goesL_ (some 31) rfl rfl Tryd.func75 (by kernel_rfl) rfl #[.slice A0 l0.length c0, .int .i64 x1_1] rfl (au2) ?_; (with_reducible refine (value_Read.calls k1 _ _ l0 x1_1 t130 t131 t132 t133 t134 _ ?side1 ?side2 ?side3 A9.out).mono ?_); (case side1 => exact au29); (case side2 => exact au73); (case side3 => exact HC0.out); rintro e w16 ⟨rfl, hb⟩; refine ⟨_, rfl, ?_⟩; have n_ := sq_n2 (Kd.R_below (au129) hb) (below_step (au1) hb); clear HO_9 HB; obtain ⟨HO_9, HB⟩ := n_; (try clear hb)) | ((with_reducible refine gate_dst (N := 10) rfl ?_); refine sq_box (N := 10) (cs := #[.int .u8 0, .int .i64 0, .int .i64 0]) (t := 73) ?_; intro gb135 hg w17 hbox hb; have n_ := sq_n5 (Kd.R_below (Kd.R_elderB (au129) gb135 (Nat.le_of_eq hg.symm)) hb) (below_step (au1) hb) hbox ((au25 : w.heap.size ≤ gb135)) ((au25 : w.heap.size ≤ gb135)); clear HO_9 HB; obtain ⟨HO_9, HB, BK135, GW135, GE135⟩ := n_; clear hb hbox hg; have hz18 := blk_all3 BK135.out))
     go_ret3
     exact ⟨_, au7, au38, au118⟩
    rw [if_pos c10] at H; have c10b0 := beq_iff_eq.mpr c10; have c10b1 := bne_eq_false_iff_eq.mpr c10; clear c10
    by_cases c11 : x9_1.length < 5864062014805
    rotate_left
    · rw [if_neg c11] at H; exact absurd H (by simp)
    rw [if_pos c11] at H; have LMc11 := Aside0.mk c11; clear c11; obtain ⟨y136, hy136⟩ : ∃ y_ : List (S73), y_ = (x9_1 ++ [(⟨t130, t131, t132⟩ : S73)]) := ⟨_, rfl⟩
    replace H : (pool_Read.l0 k1 l0 t133 y136 t127 (wrap64 (x26_1 + 1))) = some (r1, r2, r3) := by first | (rw [hy136]; with_reducible exact H) | (have H2_ := (Option.bind_some _ _).symm.trans H; rw [hy136]; with_reducible exact H2_) | (have H2_ := (Option.bind_some _ _).symm.trans H; with_reducible exact H2_) | with_reducible exact H | (rw [hy136]; exact H) | exact H
    have Ny136 := Aside0.mk hy136; clear hy136; have H' := Aside0.mk H; clear H
    go_wp2_with (first | ((with_reducible refine gate_callee (f := 75) rfl ?_); refine goesL_ (some 31) rfl rfl Tryd.func75 (by kernel_rfl) rfl #[.slice A0 l0.length c0, .int .i64 x1_1] rfl (au2) ?_; (with_reducible refine (value_Read.calls k1 _ _ l0 x1_1 t130 t131 t132 t133 t134 _ ?side1 ?side2 ?side3 A9.out).mono ?_); (case side1 => exact au29); (case side2 => exact au73); (case side3 => exact HC0.out); rintro e w12 ⟨rfl, hb⟩; refine ⟨_, rfl, ?_⟩; have n_ := sq_n2 (Kd.R_below (au129) hb) (below_step (au1) hb); clear HO_9 HB; obtain ⟨HO_9, HB⟩ := n_; (try clear hb)) | ((with_reducible refine gate_dst (N := 10) rfl ?_); refine sq_box (N := 10) (cs := #[.int .u8 0, .int .i64 0, .int .i64 0]) (t := 73) ?_; intro gb135 hg w13 hbox hb; have n_ := sq_n5 (Kd.R_below (Kd.R_elderB (au129) gb135 (Nat.le_of_eq hg.symm)) hb) (below_step (au1) hb) hbox ((au25 : w.heap.size ≤ gb135)) ((au25 : w.heap.size ≤ gb135)); clear HO_9 HB; obtain ⟨HO_9, HB, BK135, GW135, GE135⟩ := n_; clear hb hbox hg; have hz14 := blk_all3 BK135.out) | ((with_reducible refine gate_builtin (b := .append) (xs := #[.tmp 38, .tmp 40]) rfl ?_); at_builtin; refine Kd.R_append k73 (w0 := w) w.heap.size rfl (.tmp 38) (.tmp 40) 23 73 (.agg #[(.int .u8 0), (.int .i64 0), (.int .i64 0)]) 24 rfl Tryd.underlying23 info73 rfl (by decide) (by omega) u9 x9_1 (⟨t130, t131, t132⟩ : S73) [.int .u8 t130, .int .i64 t131, .int .i64 t132] (fun k_ => k_ ≠ gb135) (fun _ => False) rfl (by first | (go_simp; done) | (go_simp; rfl)) ?aP (fun _ hk => hk.elim) ?aF ?aO ?aB ?aS ?aL ?_; (case aP => exact k73_mkM _ _ _ (⟨t130, t131, t132⟩ : S73)); (case aB => exact (au118)); (case aF => exact (fun k_ hk => Kd.freshB (g := gb135) (o := .cells #[.int .u8 t130, .int .i64 t131, .int .i64 t132] 73 (0, 0)) (au125) k_ hk)); (case aO => exact (by (with_reducible repeat (first | apply Kd.R_alloc | apply Kd.R_drewN | apply Kd.R_drew)); first | exact Kd.R_mono (Kd.R_far (p := ⟨gb135, 2, none⟩) (Kd.R_far (p := ⟨gb135, 1, none⟩) (Kd.R_far (p := ⟨gb135, 0, none⟩) (Kd.R_mono HO_9.out (fun k_ hk => (⟨hk, hk.2⟩ : _ ∧ k_ ≠ gb135))) (fun _ hk => hk.2) (.int .u8 t130)) (fun _ hk => hk.2) (.int .i64 t131)) (fun _ hk => hk.2) (.int .i64 t132)) (fun _ hk => hk.1.2) | exact Kd.R_mono (Kd.R_mono (Kd.R_far (p := ⟨gb135, 2, none⟩) (Kd.R_far (p := ⟨gb135, 1, none⟩) (Kd.R_far (p := ⟨gb135, 0, none⟩) (Kd.R_mono HO_9.out (fun k_ hk => (⟨hk, hk.2⟩ : _ ∧ k_ ≠ gb135))) (fun _ hk => hk.2) (.int .u8 t130)) (fun _ hk => hk.2) (.int .i64 t131)) (fun _ hk => hk.2) (.int .i64 t132)) (fun _ hk => hk.1.2)) (fun _ h_ => h_.2))); (case aS => exact (below_size (au118))); (case aL => have := LMc11.out; omega); intro v137 w15 ho hb hg hat; rw [← Ny136.out] at ho; have n_ := sq_n3 (blk_grown (g := gb135) (o := .cells #[.int .u8 t130, .int .i64 t131, .int .i64 t132] 73 (0, 0)) (au125) hg (Kd.R_away HO_9.out (fun _ hk => hk.2))) hb ho; clear BK135 HB HO_9; obtain ⟨BK135, HB, HO138⟩ := n_; clear ho hb hg hat))
    go_roundg k1
    case measure => have := HK1.out; omega
    case rel => exact ⟨(t133), (y136), (wrap64 (x26_1 + 1)), (au16), (au16), H', ⟨by have := HK1.out; omega⟩, ⟨by (with_reducible repeat (first | apply Kd.R_alloc | apply Kd.R_drewN | apply Kd.R_drew)); first | exact Kd.R_mono HO138.out (fun _ hk => trivial) | exact Kd.R_mono (Kd.R_mono HO138.out (fun _ hk => trivial)) (fun _ h_ => h_.2)⟩, ⟨au118⟩⟩
-- NOT PRINTED: function 32 (module_Parse_3)

-- NOT PRINTED: function 34 (module_Parse_4)

-- NOT PRINTED: function 35 (module_Parse_5)

-- NOT PRINTED: function 105 (method_reader_number)

-- NOT PRINTED: function 106 (method_row_uint8_fill)

end Go.Proofs.YthmjblmdbcmjcaaDoor.B
