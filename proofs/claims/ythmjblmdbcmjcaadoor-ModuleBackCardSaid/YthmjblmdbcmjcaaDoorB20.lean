/- Contracts of functions of this seat. -/
import Derived.Test.YthmjblmdbcmjcaaDoorB0
import Derived.Test.YthmjblmdbcmjcaaDoorB19
namespace Go.Proofs.YthmjblmdbcmjcaaDoor.B
open Go.RowKit Go.Proofs.YthmjblmdbcmjcaaDoorW.PrintWords Go.Proofs.YthmjblmdbcmjcaaDoorW.PrintLast Go.Proofs.YthmjblmdbcmjcaaDoorW.PrintMore
attribute [local go_sem] max2_int min2_int max_two min_two max_three min_three max_four min_four
set_option linter.unusedVariables false
set_option linter.unusedSimpArgs false

/-! ### module_Bytes: function 15 -/
def module_Bytes.f (k : Nat) (l0_0 : List (S73)) (l0_1 : List (S73)) (l0_2 : List (S47)) (a0_3 : Int) : Option (List Int × Int) := (module_whole.f k l0_0 l0_1 l0_2 a0_3).bind fun bt347 => (if bt347.2 = 0 then (if (bt347.1.length : Int) > 2000 then (some (([] : List Int), 3)) else (some (bt347.1, 0))) else (some (([] : List Int), bt347.2)))
theorem module_Bytes.mono : ∀ a0 a1 a2 a3 k, LeO (module_Bytes.f k a0 a1 a2 a3) (module_Bytes.f (k + 1) a0 a1 a2 a3) := by
 intro a0 a1 a2 a3 k
 unfold module_Bytes.f
 repeat' first | (with_reducible first | apply module_whole.mono | apply LeO.refl | apply LeO.none | refine LeO.ite ?_ ?_ | refine LeO.bind ?_ (fun _ => ?_)) | apply module_whole.mono | apply LeO.none | refine LeO.ite ?_ ?_ | refine LeO.bind ?_ (fun _ => ?_)
set_option maxHeartbeats 8000000 in
set_option maxRecDepth 100000 in
theorem module_Bytes.calls (k : Nat) (A0_0 : Option Addr) (c0_0 : Nat) (l0_0 : List (S73)) (A0_1 : Option Addr) (c0_1 : Nat) (l0_1 : List (S73)) (A0_2 : Option Addr) (c0_2 : Nat) (l0_2 : List (S47)) (a0_3 : Int) (r1 : List Int) (r2 : Int) (w : World) (hG : Gl w) (hr0_0 : Kd.C k73 w A0_0 l0_0.length l0_0) (hc0_0 : l0_0.length ≤ c0_0) (hr0_1 : Kd.C k73 w A0_1 l0_1.length l0_1) (hc0_1 : l0_1.length ≤ c0_1) (hr0_2 : Kd.C k47 w A0_2 l0_2.length l0_2) (hc0_2 : l0_2.length ≤ c0_2) (h : module_Bytes.f k l0_0 l0_1 l0_2 a0_3 = some (r1, r2)) :
  Calls Tryd.prog 15 #[.agg #[.slice A0_0 l0_0.length c0_0, .slice A0_1 l0_1.length c0_1, .slice A0_2 l0_2.length c0_2, .int .i64 a0_3]] w fun e w' => ∃ v0_ : Value, e = .returned (.tuple #[v0_, .int .i64 r2]) ∧ Kd.R (Kd.int .u8) 5 w' w.heap.size (fun _ => True) v0_ r1 ∧ Below w.heap.size w w' := by
 have hu26 := Tryd.underlying26; have HG := Aside0.mk hG; clear hG; have HR0_0 := Aside0.mk hr0_0; have HC0_0 := Aside0.mk hc0_0; clear hr0_0 hc0_0; have HR0_1 := Aside0.mk hr0_1; have HC0_1 := Aside0.mk hc0_1; clear hr0_1 hc0_1; have HR0_2 := Aside0.mk hr0_2; have HC0_2 := Aside0.mk hc0_2; clear hr0_2 hc0_2; have HB := Aside0.mk (Below.refl w.heap.size w); have H := h; unfold module_Bytes.f at H; clear h; obtain ⟨⟨t347, t350⟩, A2, H⟩ := sq_bind H; dsimp only at H
 by_cases c3 : t350 = 0
 rotate_left
 ·
  rw [if_neg c3] at H; have c3b0 := beq_eq_false_iff_ne.mpr c3; have c3b1 := bne_iff_ne.mpr c3; simp only [Option.some.injEq, Prod.mk.injEq] at H; obtain ⟨rfl, rfl⟩ := H
  go_enter Tryd.func15, Tryd.ntmps15
  go_wp2_with (first | ((with_reducible refine gate_dst (N := 1) rfl ?_); refine sq_box (N := 1) (cs := #[.slice A0_0 l0_0.length c0_0, .slice A0_1 l0_1.length c0_1, .slice A0_2 l0_2.length c0_2, .int .i64 a0_3]) (t := 26) ?_; intro gb346 hg w13 hbox hb; have n_ := sq_n4 (below_step (au1) hb) hbox ((au25 : w.heap.size ≤ gb346)) ((au25 : w.heap.size ≤ gb346)); clear HB; obtain ⟨HB, BK346, GW346, GE346⟩ := n_; clear hb hbox hg; have hz14 := blk_all4 BK346.out) | ((with_reducible refine gate_callee (f := 48) rfl ?_); refine goesL_ (some 8) rfl rfl Tryd.func48 (by kernel_rfl) rfl #[.agg #[.slice A0_0 l0_0.length c0_0, .slice A0_1 l0_1.length c0_1, .slice A0_2 l0_2.length c0_2, .int .i64 a0_3]] rfl (au2) ?_; (with_reducible refine (module_whole.calls k _ _ l0_0 _ _ l0_1 _ _ l0_2 a0_3 t347 t350 _ ?side1 ?side2 ?side3 ?side4 ?side5 ?side6 ?side7 A2.out).mono ?_); (case side1 => exact au146); (case side2 => exact au12); (case side3 => exact HC0_0.out); (case side4 => exact au41); (case side5 => exact HC0_1.out); (case side6 => exact au71); (case side7 => exact HC0_2.out); rintro e w15 ⟨v348, rfl, ho0, hb⟩; refine ⟨_, rfl, ?_⟩; have n_ := sq_n3 (Kd.R_lower ho0 (below_size (au36))) (blk_below (by (with_reducible repeat (first | refine blk_drewN ?_ _ | refine blk_drew ?_ | refine blk_alloc ?_ _)); exact BK346.out) hb) (below_step (au36) hb); clear BK346 HB; obtain ⟨HO349, BK346, HB⟩ := n_; (try clear hb); (try clear ho0)))
  go_ret2
  exact ⟨_, au7, au38, au36⟩

 rw [if_pos c3] at H; have c3b0 := beq_iff_eq.mpr c3; have c3b1 := bne_eq_false_iff_eq.mpr c3; clear c3
 by_cases c4 : (t347.length : Int) > 2000
 ·
  rw [if_pos c4] at H; have c4b0 : decide (2000 < (t347.length : Int)) = true := decide_eq_true c4; have c4b1 : decide (2000 < t347.length) = true := decide_eq_true (by omega); clear c4; simp only [Option.some.injEq, Prod.mk.injEq] at H; obtain ⟨rfl, rfl⟩ := H
  go_enter Tryd.func15, Tryd.ntmps15
  go_wp2_with (first | ((with_reducible refine gate_dst (N := 1) rfl ?_); refine sq_box (N := 1) (cs := #[.slice A0_0 l0_0.length c0_0, .slice A0_1 l0_1.length c0_1, .slice A0_2 l0_2.length c0_2, .int .i64 a0_3]) (t := 26) ?_; intro gb346 hg w5 hbox hb; have n_ := sq_n4 (below_step (au1) hb) hbox ((au25 : w.heap.size ≤ gb346)) ((au25 : w.heap.size ≤ gb346)); clear HB; obtain ⟨HB, BK346, GW346, GE346⟩ := n_; clear hb hbox hg; have hz6 := blk_all4 BK346.out) | ((with_reducible refine gate_callee (f := 48) rfl ?_); refine goesL_ (some 8) rfl rfl Tryd.func48 (by kernel_rfl) rfl #[.agg #[.slice A0_0 l0_0.length c0_0, .slice A0_1 l0_1.length c0_1, .slice A0_2 l0_2.length c0_2, .int .i64 a0_3]] rfl (au2) ?_; (with_reducible refine (module_whole.calls k _ _ l0_0 _ _ l0_1 _ _ l0_2 a0_3 t347 t350 _ ?side1 ?side2 ?side3 ?side4 ?side5 ?side6 ?side7 A2.out).mono ?_); (case side1 => exact au146); (case side2 => exact au12); (case side3 => exact HC0_0.out); (case side4 => exact au41); (case side5 => exact HC0_1.out); (case side6 => exact au71); (case side7 => exact HC0_2.out); rintro e w7 ⟨v348, rfl, ho0, hb⟩; refine ⟨_, rfl, ?_⟩; have n_ := sq_n3 (Kd.R_lower ho0 (below_size (au36))) (blk_below (by (with_reducible repeat (first | refine blk_drewN ?_ _ | refine blk_drew ?_ | refine blk_alloc ?_ _)); exact BK346.out) hb) (below_step (au36) hb); clear BK346 HB; obtain ⟨HO349, BK346, HB⟩ := n_; (try clear hb); (try clear ho0); obtain ⟨Ao8, co8, eo8⟩ := Kd.R_slice HO349.out; subst eo8))
  go_ret2
  exact ⟨_, au7, au38, au36⟩
 ·
  rw [if_neg c4] at H; have c4b0 : decide (2000 < (t347.length : Int)) = false := decide_eq_false c4; have c4b1 : decide (2000 < t347.length) = false := decide_eq_false (by omega); clear c4; simp only [Option.some.injEq, Prod.mk.injEq] at H; obtain ⟨rfl, rfl⟩ := H
  go_enter Tryd.func15, Tryd.ntmps15
  go_wp2_with (first | ((with_reducible refine gate_dst (N := 1) rfl ?_); refine sq_box (N := 1) (cs := #[.slice A0_0 l0_0.length c0_0, .slice A0_1 l0_1.length c0_1, .slice A0_2 l0_2.length c0_2, .int .i64 a0_3]) (t := 26) ?_; intro gb346 hg w9 hbox hb; have n_ := sq_n4 (below_step (au1) hb) hbox ((au25 : w.heap.size ≤ gb346)) ((au25 : w.heap.size ≤ gb346)); clear HB; obtain ⟨HB, BK346, GW346, GE346⟩ := n_; clear hb hbox hg; have hz10 := blk_all4 BK346.out) | ((with_reducible refine gate_callee (f := 48) rfl ?_); refine goesL_ (some 8) rfl rfl Tryd.func48 (by kernel_rfl) rfl #[.agg #[.slice A0_0 l0_0.length c0_0, .slice A0_1 l0_1.length c0_1, .slice A0_2 l0_2.length c0_2, .int .i64 a0_3]] rfl (au2) ?_; (with_reducible refine (module_whole.calls k _ _ l0_0 _ _ l0_1 _ _ l0_2 a0_3 t347 t350 _ ?side1 ?side2 ?side3 ?side4 ?side5 ?side6 ?side7 A2.out).mono ?_); (case side1 => exact au146); (case side2 => exact au12); (case side3 => exact HC0_0.out); (case side4 => exact au41); (case side5 => exact HC0_1.out); (case side6 => exact au71); (case side7 => exact HC0_2.out); rintro e w11 ⟨v348, rfl, ho0, hb⟩; refine ⟨_, rfl, ?_⟩; have n_ := sq_n3 (Kd.R_lower ho0 (below_size (au36))) (blk_below (by (with_reducible repeat (first | refine blk_drewN ?_ _ | refine blk_drew ?_ | refine blk_alloc ?_ _)); exact BK346.out) hb) (below_step (au36) hb); clear BK346 HB; obtain ⟨HO349, BK346, HB⟩ := n_; (try clear hb); (try clear ho0); obtain ⟨Ao12, co12, eo12⟩ := Kd.R_slice HO349.out; subst eo12))
  go_ret2
  exact ⟨_, au7, by (with_reducible repeat (first | apply Kd.R_alloc | apply Kd.R_drewN | apply Kd.R_drew)); first | exact HO349.out | exact Kd.R_mono (HO349.out) (fun _ h_ => h_.2), au36⟩
/-! ### module_May: function 16 -/
def module_May.f (k : Nat) (l0_0 : List (S73)) (l0_1 : List (S73)) (l0_2 : List (S47)) (a0_3 : Int) : Option (Int) := (module_Bytes.f k l0_0 l0_1 l0_2 a0_3).bind fun bt352 => (some bt352.2)
set_option maxHeartbeats 8000000 in
set_option maxRecDepth 100000 in
theorem module_May.calls (k : Nat) (A0_0 : Option Addr) (c0_0 : Nat) (l0_0 : List (S73)) (A0_1 : Option Addr) (c0_1 : Nat) (l0_1 : List (S73)) (A0_2 : Option Addr) (c0_2 : Nat) (l0_2 : List (S47)) (a0_3 : Int) (r : Int) (w : World) (hG : Gl w) (hr0_0 : Kd.C k73 w A0_0 l0_0.length l0_0) (hc0_0 : l0_0.length ≤ c0_0) (hr0_1 : Kd.C k73 w A0_1 l0_1.length l0_1) (hc0_1 : l0_1.length ≤ c0_1) (hr0_2 : Kd.C k47 w A0_2 l0_2.length l0_2) (hc0_2 : l0_2.length ≤ c0_2) (h : module_May.f k l0_0 l0_1 l0_2 a0_3 = some r) :
  Calls Tryd.prog 16 #[.agg #[.slice A0_0 l0_0.length c0_0, .slice A0_1 l0_1.length c0_1, .slice A0_2 l0_2.length c0_2, .int .i64 a0_3]] w fun e w' => e = .returned (.int .i64 r) ∧ Below w.heap.size w w' := by
 have hu26 := Tryd.underlying26; have HG := Aside0.mk hG; clear hG; have HR0_0 := Aside0.mk hr0_0; have HC0_0 := Aside0.mk hc0_0; clear hr0_0 hc0_0; have HR0_1 := Aside0.mk hr0_1; have HC0_1 := Aside0.mk hc0_1; clear hr0_1 hc0_1; have HR0_2 := Aside0.mk hr0_2; have HC0_2 := Aside0.mk hc0_2; clear hr0_2 hc0_2; have HB := Aside0.mk (Below.refl w.heap.size w); have H := h; unfold module_May.f at H; clear h; obtain ⟨⟨t352, t355⟩, A2, H⟩ := sq_bind H; dsimp only at H; obtain rfl := Option.some.inj H
 go_enter Tryd.func16, Tryd.ntmps16
 go_wp2_with (first | ((with_reducible refine gate_dst (N := 1) rfl ?_); refine sq_box (N := 1) (cs := #[.slice A0_0 l0_0.length c0_0, .slice A0_1 l0_1.length c0_1, .slice A0_2 l0_2.length c0_2, .int .i64 a0_3]) (t := 26) ?_; intro gb351 hg w3 hbox hb; have n_ := sq_n4 (below_step (au1) hb) hbox ((au25 : w.heap.size ≤ gb351)) ((au25 : w.heap.size ≤ gb351)); clear HB; obtain ⟨HB, BK351, GW351, GE351⟩ := n_; clear hb hbox hg; have hz4 := blk_all4 BK351.out) | ((with_reducible refine gate_callee (f := 15) rfl ?_); refine goesL_ (some 7) rfl rfl Tryd.func15 (by kernel_rfl) rfl #[.agg #[.slice A0_0 l0_0.length c0_0, .slice A0_1 l0_1.length c0_1, .slice A0_2 l0_2.length c0_2, .int .i64 a0_3]] rfl (au2) ?_; (with_reducible refine (module_Bytes.calls k _ _ l0_0 _ _ l0_1 _ _ l0_2 a0_3 t352 t355 _ ?side1 ?side2 ?side3 ?side4 ?side5 ?side6 ?side7 A2.out).mono ?_); (case side1 => first | exact HG.out | ((repeat (first | exact HG.out | exact Gl.below HG.out HB.out | (with_reducible refine Gl.alloc ?_ _) | (with_reducible refine Gl.drewN ?_ _) | (with_reducible refine Gl.drew ?_))); done) | exact Gl.below HG.out (au121)); (case side2 => exact au12); (case side3 => exact HC0_0.out); (case side4 => exact au41); (case side5 => exact HC0_1.out); (case side6 => exact au71); (case side7 => exact HC0_2.out); rintro e w5 ⟨v353, rfl, ho0, hb⟩; refine ⟨_, rfl, ?_⟩; have n_ := sq_n3 (Kd.R_lower ho0 (below_size (au121))) (blk_below (by (with_reducible repeat (first | refine blk_drewN ?_ _ | refine blk_drew ?_ | refine blk_alloc ?_ _)); exact BK351.out) hb) (below_step (au121) hb); clear BK351 HB; obtain ⟨HO354, BK351, HB⟩ := n_; (try clear hb); (try clear ho0)))
 go_ret; exact ⟨au7, au121⟩

/-! ### slices_Equal_uint8_uint8: function 84 -/
def slices_Equal_uint8_uint8.l0 : Nat → List Int → List Int → Int → Int → Option (Bool)
 | 0, _, _, _, _ => none
 | k + 1, x0, x1, x12, x13 => if x13 < x12 then (if 0 ≤ x13 then (if x13 < (x0.length : Int) then (if x13 < (x1.length : Int) then (if (rd x0 x13) = (rd x1 x13) then (slices_Equal_uint8_uint8.l0 k x0 x1 x12 (wrap64 (x13 + 1))) else (some false)) else (none)) else (none)) else (none)) else (some true)
def slices_Equal_uint8_uint8.f (k : Nat) (l0 : List Int) (l1 : List Int) : Option (Bool) := if (l0.length : Int) = (l1.length : Int) then (slices_Equal_uint8_uint8.l0 k l0 l1 (l0.length : Int) 0) else (some false)
set_option maxHeartbeats 8000000 in
set_option maxRecDepth 100000 in
theorem slices_Equal_uint8_uint8.calls (k : Nat) (A0 : Option Addr) (c0 : Nat) (l0 : List Int) (A1 : Option Addr) (c1 : Nat) (l1 : List Int) (r : Bool) (w : World) (hr0 : Kd.C (Kd.int .u8) w A0 l0.length l0) (hc0 : l0.length ≤ c0) (hr1 : Kd.C (Kd.int .u8) w A1 l1.length l1) (hc1 : l1.length ≤ c1) (h : slices_Equal_uint8_uint8.f k l0 l1 = some r) :
  Calls Tryd.prog 84 #[.slice A0 l0.length c0, .slice A1 l1.length c1] w fun e w' => e = .returned (.bool r) ∧ Drawn0 w w' := by
 have HR0 := Aside0.mk hr0; have HC0 := Aside0.mk hc0; clear hr0 hc0; have HR1 := Aside0.mk hr1; have HC1 := Aside0.mk hc1; clear hr1 hc1; have H := h; unfold slices_Equal_uint8_uint8.f at H; clear h
 by_cases c3 : (l0.length : Int) = (l1.length : Int)
 rotate_left
 ·
  rw [if_neg c3] at H; have c3b0 := beq_eq_false_iff_ne.mpr c3; have c3b1 := bne_iff_ne.mpr c3
  have c3b2 : (l0.length == l1.length) = false := by first | simpa using c3 | (simp at c3 ⊢; omega)
  obtain rfl := Option.some.inj H
  go_enter Tryd.func84, Tryd.ntmps84
  go_wp2
  repeat (go_quiet (fail); try go_wp2)
  go_ret; exact ⟨au16, au30⟩

 rw [if_pos c3] at H; have c3b0 := beq_iff_eq.mpr c3; have c3b1 := bne_eq_false_iff_eq.mpr c3
 have c3b2 : (l0.length == l1.length) = true := by first | simpa using c3 | (simp at c3 ⊢; omega)
 clear c3; have H' := Aside0.mk H; clear H
 go_enter Tryd.func84, Tryd.ntmps84
 go_wp2
 repeat (go_quiet (fail); try go_wp2)
 go_loopg [13] k (fun kq v13 w' => ∃ (x13_1 : Int), v13 = .int .i64 x13_1 ∧ Aside0 (slices_Equal_uint8_uint8.l0 kq l0 l1 (l0.length : Int) x13_1 = some r) ∧ Aside0 (kq ≤ k) ∧ Drawn0 w w')
 case atStart => exact ⟨(0), (au16), H', ⟨Nat.le_refl _⟩, au30⟩
 case round =>
  clear H'; (try clear c1); (try clear p2); (try clear c3); (try clear c3b0); (try clear c3b1); (try clear c3b2); obtain ⟨x13_1, rfl, HA, HK1, ⟨m1, rfl⟩⟩ := hrel
  cases gk with
  | zero => exact absurd HA.out (by simp [slices_Equal_uint8_uint8.l0])
  | succ k1 =>
   have H := HA.out; clear HA; simp only [slices_Equal_uint8_uint8.l0] at H
   by_cases c4 : x13_1 < (l0.length : Int)
   rotate_left
   ·
    rw [if_neg c4] at H; have c4b0 : decide (x13_1 < (l0.length : Int)) = false := decide_eq_false c4; clear c4; obtain rfl := Option.some.inj H; go_wp2
    repeat (go_quiet (fail); try go_wp2)
    go_ret; exact ⟨au16, au30⟩
   rw [if_pos c4] at H; have c4b0 : decide (x13_1 < (l0.length : Int)) = true := decide_eq_true c4; clear c4
   by_cases c5 : 0 ≤ x13_1
   rotate_left
   · rw [if_neg c5] at H; exact absurd H (by simp)
   rw [if_pos c5] at H; have c5b0 : decide (0 ≤ x13_1) = true := decide_eq_true c5; clear c5
   by_cases c6 : x13_1 < (l0.length : Int)
   rotate_left
   · rw [if_neg c6] at H; exact absurd H (by simp)
   rw [if_pos c6] at H; have c6b0 : decide (x13_1 < (l0.length : Int)) = true := decide_eq_true c6; clear c6
   by_cases c7 : x13_1 < (l1.length : Int)
   rotate_left
   · rw [if_neg c7] at H; exact absurd H (by simp)
   rw [if_pos c7] at H; have c7b0 : decide (x13_1 < (l1.length : Int)) = true := decide_eq_true c7; clear c7
   by_cases c8 : (rd l0 x13_1) = (rd l1 x13_1)
   rotate_left
   ·
    rw [if_neg c8] at H; have c8b0 := beq_eq_false_iff_ne.mpr c8; have c8b1 := bne_iff_ne.mpr c8; obtain rfl := Option.some.inj H; have p356 : 0 ≤ (x13_1 : Int) := of_decide_eq_true (au9); have q356 : x13_1 < (l0.length : Int) := of_decide_eq_true (au9); obtain ⟨ad356, e356, hx356_0⟩ := Kd.at_int HR0.out x13_1 p356 q356; cases e356; replace p356 := eq_true p356; replace q356 := eq_true q356; have p357 : 0 ≤ (x13_1 : Int) := of_decide_eq_true (au9); have q357 : x13_1 < (l1.length : Int) := of_decide_eq_true (au9); obtain ⟨ad357, e357, hx357_0⟩ := Kd.at_int HR1.out x13_1 p357 q357; cases e357; replace p357 := eq_true p357; replace q357 := eq_true q357; go_wp2
    repeat (go_quiet (fail); try go_wp2)
    go_ret; exact ⟨au16, au30⟩
   rw [if_pos c8] at H; have c8b0 := beq_iff_eq.mpr c8; have c8b1 := bne_eq_false_iff_eq.mpr c8; clear c8; have H' := Aside0.mk H; clear H; have p356 : 0 ≤ (x13_1 : Int) := of_decide_eq_true (au9); have q356 : x13_1 < (l0.length : Int) := of_decide_eq_true (au9); obtain ⟨ad356, e356, hx356_0⟩ := Kd.at_int HR0.out x13_1 p356 q356; cases e356; replace p356 := eq_true p356; replace q356 := eq_true q356; have p357 : 0 ≤ (x13_1 : Int) := of_decide_eq_true (au9); have q357 : x13_1 < (l1.length : Int) := of_decide_eq_true (au9); obtain ⟨ad357, e357, hx357_0⟩ := Kd.at_int HR1.out x13_1 p357 q357; cases e357; replace p357 := eq_true p357; replace q357 := eq_true q357; go_wp2
   repeat (go_quiet (fail); try go_wp2)
   go_roundg k1
   case measure => have := HK1.out; omega
   case rel => exact ⟨(wrap64 (x13_1 + 1)), (au16), H', ⟨by have := HK1.out; omega⟩, au30⟩
/-! ### method_of: function 85 -/
def method_of.f (l0_0 : List Int) (l0_1 : List Int) (a0_2 : Int) (a0_3 : Bool) (a0_4 : Int) (a0_5 : Int) (a0_6 : Int) (l0_7 : List (S75)) : Option (Int × Bool × Int × Int × Int) := some (a0_2, a0_3, a0_4, a0_5, a0_6)
set_option maxHeartbeats 8000000 in
set_option maxRecDepth 100000 in
theorem method_of.calls (A0_0 : Option Addr) (c0_0 : Nat) (l0_0 : List Int) (A0_1 : Option Addr) (c0_1 : Nat) (l0_1 : List Int) (a0_2 : Int) (a0_3 : Bool) (a0_4 : Int) (a0_5 : Int) (a0_6 : Int) (A0_7 : Option Addr) (c0_7 : Nat) (l0_7 : List (S75)) (r1 : Int) (r2 : Bool) (r3 : Int) (r4 : Int) (r5 : Int) (w : World) (hr0_0 : Kd.C (Kd.int .u8) w A0_0 l0_0.length l0_0) (hc0_0 : l0_0.length ≤ c0_0) (hr0_1 : Kd.C (Kd.int .u8) w A0_1 l0_1.length l0_1) (hc0_1 : l0_1.length ≤ c0_1) (hr0_7 : Kd.C k75 w A0_7 l0_7.length l0_7) (hc0_7 : l0_7.length ≤ c0_7) (h : method_of.f l0_0 l0_1 a0_2 a0_3 a0_4 a0_5 a0_6 l0_7 = some (r1, r2, r3, r4, r5)) :
  Calls Tryd.prog 85 #[.agg #[.slice A0_0 l0_0.length c0_0, .slice A0_1 l0_1.length c0_1, .int .u8 a0_2, .bool a0_3, .int .i64 a0_4, .int .i64 a0_5, .int .i64 a0_6, .slice A0_7 l0_7.length c0_7]] w fun e w' => e = .returned (.agg #[.int .u8 r1, .bool r2, .int .i64 r3, .int .i64 r4, .int .i64 r5]) ∧ Below w.heap.size w w' := by
 have hu47 := Tryd.underlying47; have hu112 := Tryd.underlying112; have HR0_0 := Aside0.mk hr0_0; have HC0_0 := Aside0.mk hc0_0; clear hr0_0 hc0_0; have HR0_1 := Aside0.mk hr0_1; have HC0_1 := Aside0.mk hc0_1; clear hr0_1 hc0_1; have HR0_7 := Aside0.mk hr0_7; have HC0_7 := Aside0.mk hc0_7; clear hr0_7 hc0_7; have HB := Aside0.mk (Below.refl w.heap.size w); have H := h; unfold method_of.f at H; clear h; simp only [Option.some.injEq, Prod.mk.injEq] at H; obtain ⟨rfl, rfl, rfl, rfl, rfl⟩ := H
 go_enter Tryd.func85, Tryd.ntmps85
 go_wp2_with (first | ((with_reducible refine gate_dst (N := 1) rfl ?_); refine sq_box (N := 1) (cs := #[.slice A0_0 l0_0.length c0_0, .slice A0_1 l0_1.length c0_1, .int .u8 a0_2, .bool a0_3, .int .i64 a0_4, .int .i64 a0_5, .int .i64 a0_6, .slice A0_7 l0_7.length c0_7]) (t := 47) ?_; intro gb358 hg w2 hbox hb; have n_ := sq_n4 (below_step (au1) hb) hbox ((au25 : w.heap.size ≤ gb358)) ((au25 : w.heap.size ≤ gb358)); clear HB; obtain ⟨HB, BK358, GW358, GE358⟩ := n_; clear hb hbox hg) | ((with_reducible refine gate_dst (N := 2) rfl ?_); refine sq_box (N := 2) (cs := #[.int .u8 0, .bool false, .int .i64 0, .int .i64 0, .int .i64 0]) (t := 112) ?_; intro gb359 hg w3 hbox hb; have n_ := sq_n7 (blk_below (by (with_reducible repeat (first | refine blk_drewN ?_ _ | refine blk_drew ?_ | refine blk_alloc ?_ _)); exact BK358.out) hb) (below_step (au143) hb) hbox ((by rw [hg]; exact (below_size (au143)) : w.heap.size ≤ gb359)) ((by rw [hg]; exact (below_size (au143)) : w.heap.size ≤ gb359)) ((by rw [hg]; exact Nat.ne_of_lt (blk_lt (by (with_reducible repeat (first | refine blk_drewN ?_ _ | refine blk_drew ?_ | refine blk_alloc ?_ _)); exact BK358.out)) : gb358 ≠ gb359)) ((by rw [hg]; exact Nat.ne_of_gt (blk_lt (by (with_reducible repeat (first | refine blk_drewN ?_ _ | refine blk_drew ?_ | refine blk_alloc ?_ _)); exact BK358.out)) : gb359 ≠ gb358)); clear BK358 HB; obtain ⟨BK358, HB, BK359, GW359, GE359, NB358_359, NB359_358⟩ := n_; clear hb hbox hg; have hnb4 := NB358_359.out; have hnc4 := NB359_358.out; have hz5 := blk_all8 BK358.out; have hz6 := blk_all5 BK359.out))
 refine bodyPost_ret (results_cell_row rfl _ _ gb359 112 #[.int .u8 a0_2, .bool a0_3, .int .i64 a0_4, .int .i64 a0_5, .int .i64 a0_6] (0, 0) _ rfl (by (with_reducible repeat (first | refine blk_drewN ?_ _ | refine blk_drew ?_ | refine blk_alloc ?_ _)); refine blk_put (cs := #[.int .u8 a0_2, .bool a0_3, .int .i64 a0_4, .int .i64 a0_5, .int .i64 0]) ?_ 4 _ rfl; (with_reducible repeat (first | refine blk_drewN ?_ _ | refine blk_drew ?_ | refine blk_alloc ?_ _)); refine blk_put (cs := #[.int .u8 a0_2, .bool a0_3, .int .i64 a0_4, .int .i64 0, .int .i64 0]) ?_ 3 _ rfl; (with_reducible repeat (first | refine blk_drewN ?_ _ | refine blk_drew ?_ | refine blk_alloc ?_ _)); refine blk_put (cs := #[.int .u8 a0_2, .bool a0_3, .int .i64 0, .int .i64 0, .int .i64 0]) ?_ 2 _ rfl; (with_reducible repeat (first | refine blk_drewN ?_ _ | refine blk_drew ?_ | refine blk_alloc ?_ _)); refine blk_put (cs := #[.int .u8 a0_2, .bool false, .int .i64 0, .int .i64 0, .int .i64 0]) ?_ 1 _ rfl; (with_reducible repeat (first | refine blk_drewN ?_ _ | refine blk_drew ?_ | refine blk_alloc ?_ _)); refine blk_put (cs := #[.int .u8 0, .bool false, .int .i64 0, .int .i64 0, .int .i64 0]) ?_ 0 _ rfl; (with_reducible repeat (first | refine blk_drewN ?_ _ | refine blk_drew ?_ | refine blk_alloc ?_ _)); exact BK359.out) Tryd.underlying112 rfl (by kernel_rfl)) rfl ?_; exact ⟨au7, by repeat (first | (with_reducible first | exact HB.out | apply below_alloc | apply pw_below_drewN | apply below_drew1 | refine below_set ?_ GE358.out | refine below_set ?_ GE359.out) | exact HB.out | exact ⟨HB.out.os, HB.out.tape, HB.out.output, HB.out.size, HB.out.block⟩)⟩

end Go.Proofs.YthmjblmdbcmjcaaDoor.B
