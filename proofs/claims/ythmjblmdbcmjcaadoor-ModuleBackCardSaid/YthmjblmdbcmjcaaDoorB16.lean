/- Contracts of functions of this seat. -/
import Derived.Test.YthmjblmdbcmjcaaDoorB0
import Derived.Test.YthmjblmdbcmjcaaDoorB15
namespace Go.Proofs.YthmjblmdbcmjcaaDoor.B
open Go.RowKit Go.Proofs.YthmjblmdbcmjcaaDoorW.PrintWords Go.Proofs.YthmjblmdbcmjcaaDoorW.PrintLast Go.Proofs.YthmjblmdbcmjcaaDoorW.PrintMore
attribute [local go_sem] max2_int min2_int max_two min_two max_three min_three max_four min_four
set_option linter.unusedVariables false
set_option linter.unusedSimpArgs false

/-! ### method_May: function 59 -/
mutual
def method_May.j0 : Nat → Bool → List Int → List Int → Int → Bool → Int → Int → Int → List (S75) → Option (Bool)
 | 0, _, _, _, _, _, _, _, _, _ => none
 | k + 1, x28, x240000, x240001, x240002, x240003, x240004, x240005, x240006, x240007 => if x28 = true then (some false) else ((method_Kinds.f k x240000 x240001 x240002 x240003 x240004 x240005 x240006 x240007).bind fun t240 => (method_May.l0 k t240 (t240.length : Int) 0 x240000 x240001 x240002 x240003 x240004 x240005 x240006 x240007))
def method_May.l0 : Nat → List Int → Int → Int → List Int → List Int → Int → Bool → Int → Int → Int → List (S75) → Option (Bool)
 | 0, _, _, _, _, _, _, _, _, _, _, _ => none
 | k + 1, x30, x31, x32, x240000, x240001, x240002, x240003, x240004, x240005, x240006, x240007 => if x32 < x31 then (if 0 ≤ x32 then (if x32 < (x30.length : Int) then ((method_local.f (rd x30 x32)).bind fun t244 => (if t244 = true then (method_May.l0 k x30 x31 (wrap64 (x32 + 1)) x240000 x240001 x240002 x240003 x240004 x240005 x240006 x240007) else (some false))) else (none)) else (none)) else ((method_within.f x240004 1048576).bind fun t245 => (if t245 = true then ((method_within.f x240005 256).bind fun t246 => (if t246 = true then ((method_within.f x240006 1024).bind fun t247 => (some t247)) else (some false))) else (some false)))
end
def method_May.f (k : Nat) (l0_0 : List Int) (l0_1 : List Int) (a0_2 : Int) (a0_3 : Bool) (a0_4 : Int) (a0_5 : Int) (a0_6 : Int) (l0_7 : List (S75)) : Option (Bool) := if (l0_0.length : Int) > 4 then (method_May.j0 k true l0_0 l0_1 a0_2 a0_3 a0_4 a0_5 a0_6 l0_7) else (if (wrap64 ((l0_0.length : Int) + (l0_1.length : Int))) > 16 then (method_May.j0 k true l0_0 l0_1 a0_2 a0_3 a0_4 a0_5 a0_6 l0_7) else (if a0_2 = 1 then (method_May.j0 k false l0_0 l0_1 a0_2 a0_3 a0_4 a0_5 a0_6 l0_7) else (method_May.j0 k (a0_2 != 2) l0_0 l0_1 a0_2 a0_3 a0_4 a0_5 a0_6 l0_7)))
theorem method_May.mono_l : ∀ k, (∀ y0 y1 y2 y3 y4 y5 y6 y7 y8, LeO (method_May.j0 k y0 y1 y2 y3 y4 y5 y6 y7 y8) (method_May.j0 (k + 1) y0 y1 y2 y3 y4 y5 y6 y7 y8)) ∧ (∀ y0 y1 y2 y3 y4 y5 y6 y7 y8 y9 y10, LeO (method_May.l0 k y0 y1 y2 y3 y4 y5 y6 y7 y8 y9 y10) (method_May.l0 (k + 1) y0 y1 y2 y3 y4 y5 y6 y7 y8 y9 y10))
 | 0 => ⟨fun _ _ _ _ _ _ _ _ _ r h => by simp [method_May.j0] at h, fun _ _ _ _ _ _ _ _ _ _ _ r h => by simp [method_May.l0] at h⟩
 | k + 1 => by
  obtain ⟨ih0, ih1⟩ := method_May.mono_l k; refine ⟨?_, ?_⟩
  ·
   intro y0 y1 y2 y3 y4 y5 y6 y7 y8
   unfold method_May.j0
   repeat' first | (with_reducible first | apply ih0 | apply ih1 | apply method_Kinds.mono | apply LeO.refl | apply LeO.none | refine LeO.ite ?_ ?_ | refine LeO.bind ?_ (fun _ => ?_)) | apply ih0 | apply ih1 | apply method_Kinds.mono | apply LeO.none | refine LeO.ite ?_ ?_ | refine LeO.bind ?_ (fun _ => ?_)
  ·
   intro y0 y1 y2 y3 y4 y5 y6 y7 y8 y9 y10
   unfold method_May.l0
   repeat' first | (with_reducible first | apply ih0 | apply ih1 | apply method_Kinds.mono | apply LeO.refl | apply LeO.none | refine LeO.ite ?_ ?_ | refine LeO.bind ?_ (fun _ => ?_)) | apply ih0 | apply ih1 | apply method_Kinds.mono | apply LeO.none | refine LeO.ite ?_ ?_ | refine LeO.bind ?_ (fun _ => ?_)
theorem method_May.mono : ∀ a0 a1 a2 a3 a4 a5 a6 a7 k, LeO (method_May.f k a0 a1 a2 a3 a4 a5 a6 a7) (method_May.f (k + 1) a0 a1 a2 a3 a4 a5 a6 a7) := by
 intro a0 a1 a2 a3 a4 a5 a6 a7 k; obtain ⟨ih0, ih1⟩ := method_May.mono_l k
 unfold method_May.f
 repeat' first | (with_reducible first | apply ih0 | apply ih1 | apply method_Kinds.mono | apply LeO.refl | apply LeO.none | refine LeO.ite ?_ ?_ | refine LeO.bind ?_ (fun _ => ?_)) | apply ih0 | apply ih1 | apply method_Kinds.mono | apply LeO.none | refine LeO.ite ?_ ?_ | refine LeO.bind ?_ (fun _ => ?_)
set_option maxHeartbeats 8000000 in
set_option maxRecDepth 100000 in
theorem method_May.calls (k : Nat) (A0_0 : Option Addr) (c0_0 : Nat) (l0_0 : List Int) (A0_1 : Option Addr) (c0_1 : Nat) (l0_1 : List Int) (a0_2 : Int) (a0_3 : Bool) (a0_4 : Int) (a0_5 : Int) (a0_6 : Int) (A0_7 : Option Addr) (c0_7 : Nat) (l0_7 : List (S75)) (r : Bool) (w : World) (hr0_0 : Kd.C (Kd.int .u8) w A0_0 l0_0.length l0_0) (hc0_0 : l0_0.length ≤ c0_0) (hr0_1 : Kd.C (Kd.int .u8) w A0_1 l0_1.length l0_1) (hc0_1 : l0_1.length ≤ c0_1) (hr0_7 : Kd.C k75 w A0_7 l0_7.length l0_7) (hc0_7 : l0_7.length ≤ c0_7) (h : method_May.f k l0_0 l0_1 a0_2 a0_3 a0_4 a0_5 a0_6 l0_7 = some r) :
  Calls Tryd.prog 59 #[.agg #[.slice A0_0 l0_0.length c0_0, .slice A0_1 l0_1.length c0_1, .int .u8 a0_2, .bool a0_3, .int .i64 a0_4, .int .i64 a0_5, .int .i64 a0_6, .slice A0_7 l0_7.length c0_7]] w fun e w' => e = .returned (.bool r) ∧ Below w.heap.size w w' := by
 have hu47 := Tryd.underlying47; have HR0_0 := Aside0.mk hr0_0; have HC0_0 := Aside0.mk hc0_0; clear hr0_0 hc0_0; have HR0_1 := Aside0.mk hr0_1; have HC0_1 := Aside0.mk hc0_1; clear hr0_1 hc0_1; have HR0_7 := Aside0.mk hr0_7; have HC0_7 := Aside0.mk hc0_7; clear hr0_7 hc0_7; have HB := Aside0.mk (Below.refl w.heap.size w); have H := h; unfold method_May.f at H; clear h; have HC2 := Aside0.mk H; clear H
 go_enter Tryd.func59, Tryd.ntmps59
 go_upto_region 1 with (first | ((with_reducible refine gate_dst (N := 1) rfl ?_); (try (refine gate_guard (by rfl) ?_; dsimp only)); refine sq_box (N := 1) (cs := #[.slice A0_0 l0_0.length c0_0, .slice A0_1 l0_1.length c0_1, .int .u8 a0_2, .bool a0_3, .int .i64 a0_4, .int .i64 a0_5, .int .i64 a0_6, .slice A0_7 l0_7.length c0_7]) (t := 47) ?_; intro gb239 hg w3 hbox hb; have n_ := sq_n4 (below_step (au1) hb) hbox ((au25 : w.heap.size ≤ gb239)) ((au25 : w.heap.size ≤ gb239)); clear HB; obtain ⟨HB, BK239, GW239, GE239⟩ := n_; clear hb hbox hg))
 (try simp only [Act.put, List.setIfInBounds_toArray, List.set_cons_zero, List.set_cons_succ])
 go_cut [28] (fun v28 wc => ∃ (kq : Nat) (x28_1 : Bool), v28 = .bool x28_1 ∧ Aside0 (method_May.j0 kq x28_1 l0_0 l0_1 a0_2 a0_3 a0_4 a0_5 a0_6 l0_7 = some r) ∧ Aside0 (kq ≤ k) ∧ Aside0 (wc.heap[gb239]? = some (.cells #[(.slice A0_0 l0_0.length c0_0), (.slice A0_1 l0_1.length c0_1), .int .u8 a0_2, .bool a0_3, .int .i64 a0_4, .int .i64 a0_5, .int .i64 a0_6, (.slice A0_7 l0_7.length c0_7)] 47 (0, 0))) ∧ Aside0 (Below w.heap.size w wc))
 case first =>
  have H := HC2.out; clear HC2
  by_cases c4 : (l0_0.length : Int) > 4
  ·
   rw [if_pos c4] at H; have c4b0 : decide (4 < (l0_0.length : Int)) = true := decide_eq_true c4; have c4b1 : decide (4 < l0_0.length) = true := decide_eq_true (by omega); clear c4
   (first | rw [c4b0] | (simp only [i64_w, i32_w]; rw [c4b0]) | skip)
   have H' := Aside0.mk H; clear H; have hz5 := blk_all8 BK239.out; go_wp2; go_meet
   case rel => exact ⟨_, (true), (au16), H', ⟨au117⟩, ⟨au103⟩, ⟨au22⟩⟩
  ·
   rw [if_neg c4] at H; have c4b0 : decide (4 < (l0_0.length : Int)) = false := decide_eq_false c4; have c4b1 : decide (4 < l0_0.length) = false := decide_eq_false (by omega); clear c4
   (first | rw [c4b0] | (simp only [i64_w, i32_w]; rw [c4b0]) | skip)
   by_cases c6 : (wrap64 ((l0_0.length : Int) + (l0_1.length : Int))) > 16
   ·
    rw [if_pos c6] at H; have c6b0 : decide (16 < (wrap64 ((l0_0.length : Int) + (l0_1.length : Int)))) = true := decide_eq_true c6; clear c6; have H' := Aside0.mk H; clear H; have hz7 := blk_all8 BK239.out; go_wp2; go_meet
    case rel => exact ⟨_, (true), (au16), H', ⟨au117⟩, ⟨au103⟩, ⟨au22⟩⟩
   ·
    rw [if_neg c6] at H; have c6b0 : decide (16 < (wrap64 ((l0_0.length : Int) + (l0_1.length : Int)))) = false := decide_eq_false c6; clear c6
    by_cases c8 : a0_2 = 1
    rotate_left
    ·
     rw [if_neg c8] at H; have c8b0 := beq_eq_false_iff_ne.mpr c8; have c8b1 := bne_iff_ne.mpr c8; have H' := Aside0.mk H; clear H; have hz10 := blk_all8 BK239.out; go_wp2; go_meet
     case rel => exact ⟨_, ((a0_2 != 2)), (au16), H', ⟨au117⟩, ⟨au103⟩, ⟨au22⟩⟩
    rw [if_pos c8] at H; have c8b0 := beq_iff_eq.mpr c8; have c8b1 := bne_eq_false_iff_eq.mpr c8; clear c8; have H' := Aside0.mk H; clear H; have hz9 := blk_all8 BK239.out; go_wp2; go_meet
    case rel => exact ⟨_, (false), (au16), H', ⟨au117⟩, ⟨au103⟩, ⟨au22⟩⟩
 case rest =>
  clear HC2; obtain ⟨kq, x28_1, rfl, HA, HJ1, BK239, HB⟩ := hcut
  cases kq with
  | zero => exact absurd HA.out (by simp [method_May.j0])
  | succ kj1 =>
   have H := HA.out; clear HA; simp only [method_May.j0] at H
   by_cases c11 : x28_1 = true
   ·
    subst c11
    rw [if_pos rfl] at H; obtain rfl := Option.some.inj H; go_wp2; go_ret; exact ⟨au7, au22⟩
   ·
    replace c11 := Bool.eq_false_iff.mpr c11; subst c11
    rw [sq_f] at H; obtain ⟨t240, A12, H⟩ := sq_bind H; have H' := Aside0.mk H; clear H; have hz13 := blk_all8 BK239.out
    go_wp2_with (first | ((with_reducible refine gate_callee (f := 91) rfl ?_); refine goesL_ (some 30) rfl rfl Tryd.func91 (by kernel_rfl) rfl #[.agg #[.slice A0_0 l0_0.length c0_0, .slice A0_1 l0_1.length c0_1, .int .u8 a0_2, .bool a0_3, .int .i64 a0_4, .int .i64 a0_5, .int .i64 a0_6, .slice A0_7 l0_7.length c0_7]] rfl (au2) ?_; (with_reducible refine (method_Kinds.calls kj1 (fun k_ => k_ < w.heap.size) _ _ l0_0 (fun k_ => k_ < w.heap.size) _ _ l0_1 a0_2 a0_3 a0_4 a0_5 a0_6 _ _ l0_7 t240 _ ?side1 ?side2 ?side3 ?side4 A12.out).mono ?_); (case side1 => exact Kd.V_mk HC0_0.out (Kd.F_below (Kd.C_F (Kd.heap_int .u8) HR0_0.out) (au22))); (case side2 => exact Kd.V_mk HC0_1.out (Kd.F_below (Kd.C_F (Kd.heap_int .u8) HR0_1.out) (au22))); (case side3 => exact au107); (case side4 => exact HC0_7.out); rintro e w14 ⟨v241, rfl, ho0, hb⟩; refine ⟨_, rfl, ?_⟩; have n_ := sq_n3 (Kd.R_lower (Kd.R_mono (ok' := fun k_ => True) ho0 (fun _ hk_ => trivial)) (below_size (au22))) (blk_below (au103) hb) (below_step (au22) hb); clear BK239 HB; obtain ⟨HO242, BK239, HB⟩ := n_; (try clear hb); (try clear ho0); obtain ⟨Ao15, co15, eo15⟩ := Kd.R_slice HO242.out; subst eo15))
    go_loopg [32] kj1 (fun kq v32 w' => ∃ (x32_2 : Int), v32 = .int .i64 x32_2 ∧ Aside0 (method_May.l0 kq t240 (t240.length : Int) x32_2 l0_0 l0_1 a0_2 a0_3 a0_4 a0_5 a0_6 l0_7 = some r) ∧ Aside0 (kq ≤ kj1) ∧ Aside0 (Kd.R (Kd.int .u8) 5 w' w.heap.size (fun _ => True) (.slice Ao15 t240.length co15) t240) ∧ Aside0 (w'.heap[gb239]? = some (.cells #[(.slice A0_0 l0_0.length c0_0), (.slice A0_1 l0_1.length c0_1), .int .u8 a0_2, .bool a0_3, .int .i64 a0_4, .int .i64 a0_5, .int .i64 a0_6, (.slice A0_7 l0_7.length c0_7)] 47 (0, 0))) ∧ Aside0 (Below w.heap.size w w'))
    case atStart => exact ⟨(0), (au16), H', ⟨Nat.le_refl _⟩, ⟨by (with_reducible repeat (first | apply Kd.R_alloc | apply Kd.R_drewN | apply Kd.R_drew)); first | exact HO242.out | exact Kd.R_mono (HO242.out) (fun _ h_ => h_.2)⟩, ⟨au103⟩, ⟨au22⟩⟩
    case round =>
     clear H'; (try clear c1); (try clear p2); (try clear c4); (try clear c4b0); (try clear c4b1); (try clear c5); (try clear c6); (try clear c6b0); (try clear p6); (try clear c8); (try clear c8b0); (try clear c8b1); (try clear c9); (try clear c11); (try clear hz10); (try clear hz13); (try clear hz5); (try clear hz7); (try clear hz9); (try clear hz10); (try clear hz13); (try clear hz5); (try clear hz7)
     (try clear hz7); (try clear hz9); (try clear p2); (try clear p6); obtain ⟨x32_2, rfl, HA, HK2, HO_30, BK239, HB⟩ := hrel
     cases gk with
     | zero => exact absurd HA.out (by simp [method_May.l0])
     | succ k2 =>
      have H := HA.out; clear HA; simp only [method_May.l0] at H
      by_cases c16 : x32_2 < (t240.length : Int)
      ·
       rw [if_pos c16] at H; have c16b0 : decide (x32_2 < (t240.length : Int)) = true := decide_eq_true c16; clear c16
       by_cases c17 : 0 ≤ x32_2
       rotate_left
       · rw [if_neg c17] at H; exact absurd H (by simp)
       rw [if_pos c17] at H; have c17b0 : decide (0 ≤ x32_2) = true := decide_eq_true c17; clear c17
       by_cases c18 : x32_2 < (t240.length : Int)
       rotate_left
       · rw [if_neg c18] at H; exact absurd H (by simp)
       rw [if_pos c18] at H; have c18b0 : decide (x32_2 < (t240.length : Int)) = true := decide_eq_true c18; clear c18; obtain ⟨t244, A19, H⟩ := sq_bind H
       by_cases c20 : t244 = true
       rotate_left
       ·
        replace c20 := Bool.eq_false_iff.mpr c20; subst c20
        rw [sq_f] at H; obtain rfl := Option.some.inj H; have p243 : 0 ≤ (x32_2 : Int) := of_decide_eq_true (au9); have q243 : x32_2 < (t240.length : Int) := of_decide_eq_true (au9); obtain ⟨ad243, e243, hx243_0⟩ := Kd.at_int (Kd.R_reads' HO_30.out).2.2 x32_2 p243 q243; cases e243; replace p243 := eq_true p243; replace q243 := eq_true q243
        go_wp2_with (first | ((with_reducible refine gate_callee (f := 92) rfl ?_); refine goesL_ (some 37) rfl rfl Tryd.func92 (by kernel_rfl) rfl #[.int .u8 (rd t240 x32_2)] rfl (au2) ?_; (with_reducible refine (method_local.calls (rd t240 x32_2) false _ A19.out).mono ?_); rintro e w22 ⟨rfl, hb⟩; refine ⟨_, rfl, ?_⟩; have n_ := sq_n3 (Kd.R_below (au174) hb) (blk_below (au103) hb) (below_step (au22) hb); clear HO_30 BK239 HB; obtain ⟨HO_30, BK239, HB⟩ := n_; (try clear hb)))
        go_ret; exact ⟨au7, au22⟩
       subst c20
       rw [if_pos rfl] at H; have H' := Aside0.mk H; clear H; have p243 : 0 ≤ (x32_2 : Int) := of_decide_eq_true (au9); have q243 : x32_2 < (t240.length : Int) := of_decide_eq_true (au9); obtain ⟨ad243, e243, hx243_0⟩ := Kd.at_int (Kd.R_reads' HO_30.out).2.2 x32_2 p243 q243; cases e243; replace p243 := eq_true p243; replace q243 := eq_true q243
       go_wp2_with (first | ((with_reducible refine gate_callee (f := 92) rfl ?_); refine goesL_ (some 37) rfl rfl Tryd.func92 (by kernel_rfl) rfl #[.int .u8 (rd t240 x32_2)] rfl (au2) ?_; (with_reducible refine (method_local.calls (rd t240 x32_2) true _ A19.out).mono ?_); rintro e w21 ⟨rfl, hb⟩; refine ⟨_, rfl, ?_⟩; have n_ := sq_n3 (Kd.R_below (au174) hb) (blk_below (au103) hb) (below_step (au22) hb); clear HO_30 BK239 HB; obtain ⟨HO_30, BK239, HB⟩ := n_; (try clear hb)))
       go_roundg k2
       case measure => have := HJ1.out; have := HK2.out; omega
       case rel => exact ⟨(wrap64 (x32_2 + 1)), (au16), H', ⟨by have := HJ1.out; have := HK2.out; omega⟩, ⟨au174⟩, ⟨au103⟩, ⟨au22⟩⟩
      ·
       rw [if_neg c16] at H; have c16b0 : decide (x32_2 < (t240.length : Int)) = false := decide_eq_false c16; clear c16; obtain ⟨t245, A23, H⟩ := sq_bind H
       by_cases c24 : t245 = true
       rotate_left
       ·
        replace c24 := Bool.eq_false_iff.mpr c24; subst c24
        rw [sq_f] at H; obtain rfl := Option.some.inj H; have hz30 := blk_all8 BK239.out
        go_wp2_with (first | ((with_reducible refine gate_callee (f := 93) rfl ?_); refine goesL_ (some 42) rfl rfl Tryd.func93 (by kernel_rfl) rfl #[.int .i64 a0_4, .int .i64 1048576] rfl (au2) ?_; (with_reducible refine (method_within.calls a0_4 1048576 false _ A23.out).mono ?_); rintro e w' ⟨rfl, ⟨nd, rfl⟩⟩; refine ⟨_, rfl, ?_⟩))
        go_ret; exact ⟨au7, au22⟩

       subst c24
       rw [if_pos rfl] at H; obtain ⟨t246, A25, H⟩ := sq_bind H
       by_cases c26 : t246 = true
       rotate_left
       ·
        replace c26 := Bool.eq_false_iff.mpr c26; subst c26
        rw [sq_f] at H; obtain rfl := Option.some.inj H; have hz29 := blk_all8 BK239.out
        go_wp2_with (first | ((with_reducible refine gate_callee (f := 93) rfl ?_); refine goesL_ (some 42) rfl rfl Tryd.func93 (by kernel_rfl) rfl #[.int .i64 a0_4, .int .i64 1048576] rfl (au2) ?_; (with_reducible refine (method_within.calls a0_4 1048576 true _ A23.out).mono ?_); rintro e w' ⟨rfl, ⟨nd, rfl⟩⟩; refine ⟨_, rfl, ?_⟩) | (go_at_call 93; (with_reducible refine (method_within.calls a0_5 256 false _ A25.out).mono ?_); rintro e w' ⟨rfl, ⟨nd, rfl⟩⟩))
        go_ret; exact ⟨au7, au22⟩
       subst c26
       rw [if_pos rfl] at H; obtain ⟨t247, A27, H⟩ := sq_bind H; obtain rfl := Option.some.inj H; have hz28 := blk_all8 BK239.out
       go_wp2_with (first | ((with_reducible refine gate_callee (f := 93) rfl ?_); refine goesL_ (some 42) rfl rfl Tryd.func93 (by kernel_rfl) rfl #[.int .i64 a0_4, .int .i64 1048576] rfl (au2) ?_; (with_reducible refine (method_within.calls a0_4 1048576 true _ A23.out).mono ?_); rintro e w' ⟨rfl, ⟨nd, rfl⟩⟩; refine ⟨_, rfl, ?_⟩) | (go_at_call 93; (with_reducible refine (method_within.calls a0_5 256 true _ A25.out).mono ?_); rintro e w' ⟨rfl, ⟨nd, rfl⟩⟩) | (go_at_call 93; (with_reducible refine (method_within.calls a0_6 1024 t247 _ A27.out).mono ?_); rintro e w' ⟨rfl, ⟨nd, rfl⟩⟩))
       go_ret; exact ⟨au7, au22⟩
end Go.Proofs.YthmjblmdbcmjcaaDoor.B
