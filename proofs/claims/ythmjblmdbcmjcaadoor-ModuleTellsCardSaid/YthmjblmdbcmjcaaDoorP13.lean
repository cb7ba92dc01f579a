/- Contracts of functions of this seat. -/
import Derived.Test.YthmjblmdbcmjcaaDoorP0
import Derived.Test.YthmjblmdbcmjcaaDoorP9
import Derived.Test.YthmjblmdbcmjcaaDoorP11
import Derived.Test.YthmjblmdbcmjcaaDoorP12
namespace Go.Proofs.YthmjblmdbcmjcaaDoor.P
open Go.RowKit Go.Proofs.YthmjblmdbcmjcaaDoorW.PrintWords Go.Proofs.YthmjblmdbcmjcaaDoorW.PrintLast Go.Proofs.YthmjblmdbcmjcaaDoorW.PrintMore
attribute [local go_sem] max2_int min2_int max_two min_two max_three min_three max_four min_four
set_option linter.unusedVariables false
set_option linter.unusedSimpArgs false

/-! ### capstanref08_Bytes: function 14 -/
mutual
def capstanref08_Bytes.j0 : Nat → Bool → List (S73) → List (S73) → List (S47) → Int → Option (List Int × Int)
 | 0, _, _, _, _, _ => none
 | k + 1, x34, x313000, x313001, x313002, x313003 => if x34 = true then (some (([] : List Int), 80)) else ((capstanref06_Bytes.f k x313000).bind fun bt313 => (if bt313.2 = 0 then ((capstanref06_Bytes.f k x313001).bind fun bt317 => (if bt317.2 = 0 then (if bt313.1.length + bt317.1.length < 140737488355328 then ((some (bt313.1 ++ bt317.1 : List Int)).bind fun y321 => (if y321.length < 140737488355328 then (capstanref08_Bytes.l0 k (y321 ++ [((x313002.length : Int)) % 256]) 0 x313000 x313001 x313002 x313003) else (none))) else (none)) else (some (([] : List Int), bt317.2)))) else (some (([] : List Int), bt313.2))))
def capstanref08_Bytes.l0 : Nat → List Int → Int → List (S73) → List (S73) → List (S47) → Int → Option (List Int × Int)
 | 0, _, _, _, _, _, _ => none
 | k + 1, x4, x7, x313000, x313001, x313002, x313003 => if x7 < (x313002.length : Int) then (if 0 ≤ x7 then ((capstanref07_Bytes.f k ((rd_T47 x313002 x7).f0) ((rd_T47 x313002 x7).f1) ((rd_T47 x313002 x7).f2) ((rd_T47 x313002 x7).f3) ((rd_T47 x313002 x7).f4) ((rd_T47 x313002 x7).f5) ((rd_T47 x313002 x7).f6) ((rd_T47 x313002 x7).f7)).bind fun bt328 => (if bt328.2 = 0 then ((capstanref05_Bytes.f k ((rd_T47 x313002 x7).f7)).bind fun bt333 => (if bt333.2 = 0 then (if x4.length + bt328.1.length < 140737488355328 then ((some (x4 ++ bt328.1 : List Int)).bind fun y337 => (if y337.length + bt333.1.length < 140737488355328 then (capstanref08_Bytes.l0 k (y337 ++ bt333.1) (wrap64 (x7 + 1)) x313000 x313001 x313002 x313003) else (none))) else (none)) else (some (([] : List Int), bt333.2)))) else (some (([] : List Int), bt328.2)))) else (none)) else (if x313003 < 0 then (if x4.length < 140737488355328 then ((some (x4 ++ [255] : List Int)).bind fun y343 => (if (y343.length : Int) > 2000 then (some (([] : List Int), 3)) else (some (y343, 0)))) else (none)) else (if x4.length < 140737488355328 then ((some (x4 ++ [(x313003) % 256] : List Int)).bind fun y346 => (if (y346.length : Int) > 2000 then (some (([] : List Int), 3)) else (some (y346, 0)))) else (none)))
end
def capstanref08_Bytes.f (k : Nat) (l0_0 : List (S73)) (l0_1 : List (S73)) (l0_2 : List (S47)) (a0_3 : Int) : Option (List Int × Int) := if (l0_0.length : Int) > 4 then (capstanref08_Bytes.j0 k true l0_0 l0_1 l0_2 a0_3) else (if (l0_2.length : Int) > 16 then (capstanref08_Bytes.j0 k true l0_0 l0_1 l0_2 a0_3) else (if a0_3 < (-1) then (capstanref08_Bytes.j0 k true l0_0 l0_1 l0_2 a0_3) else (capstanref08_Bytes.j0 k (decide (a0_3 ≥ (l0_2.length : Int))) l0_0 l0_1 l0_2 a0_3)))
theorem capstanref08_Bytes.mono_l : ∀ k, (∀ y0 y1 y2 y3 y4, LeO (capstanref08_Bytes.j0 k y0 y1 y2 y3 y4) (capstanref08_Bytes.j0 (k + 1) y0 y1 y2 y3 y4)) ∧ (∀ y0 y1 y2 y3 y4 y5, LeO (capstanref08_Bytes.l0 k y0 y1 y2 y3 y4 y5) (capstanref08_Bytes.l0 (k + 1) y0 y1 y2 y3 y4 y5))
 | 0 => ⟨fun _ _ _ _ _ r h => by simp [capstanref08_Bytes.j0] at h, fun _ _ _ _ _ _ r h => by simp [capstanref08_Bytes.l0] at h⟩
 | k + 1 => by
  obtain ⟨ih0, ih1⟩ := capstanref08_Bytes.mono_l k; refine ⟨?_, ?_⟩
  ·
   intro y0 y1 y2 y3 y4
   unfold capstanref08_Bytes.j0
   repeat' first | (with_reducible first | apply ih0 | apply ih1 | apply capstanref05_Bytes.mono | apply capstanref06_Bytes.mono | apply capstanref07_Bytes.mono | apply LeO.refl | apply LeO.none | refine LeO.ite ?_ ?_ | refine LeO.bind ?_ (fun _ => ?_)) | apply ih0 | apply ih1 | apply capstanref05_Bytes.mono | apply capstanref06_Bytes.mono | apply capstanref07_Bytes.mono | apply LeO.none | refine LeO.ite ?_ ?_ | refine LeO.bind ?_ (fun _ => ?_)
  ·
   intro y0 y1 y2 y3 y4 y5
   unfold capstanref08_Bytes.l0
   repeat' first | (with_reducible first | apply ih0 | apply ih1 | apply capstanref05_Bytes.mono | apply capstanref06_Bytes.mono | apply capstanref07_Bytes.mono | apply LeO.refl | apply LeO.none | refine LeO.ite ?_ ?_ | refine LeO.bind ?_ (fun _ => ?_)) | apply ih0 | apply ih1 | apply capstanref05_Bytes.mono | apply capstanref06_Bytes.mono | apply capstanref07_Bytes.mono | apply LeO.none | refine LeO.ite ?_ ?_ | refine LeO.bind ?_ (fun _ => ?_)
theorem capstanref08_Bytes.mono : ∀ a0 a1 a2 a3 k, LeO (capstanref08_Bytes.f k a0 a1 a2 a3) (capstanref08_Bytes.f (k + 1) a0 a1 a2 a3) := by
 intro a0 a1 a2 a3 k; obtain ⟨ih0, ih1⟩ := capstanref08_Bytes.mono_l k
 unfold capstanref08_Bytes.f
 repeat' first | (with_reducible first | apply ih0 | apply ih1 | apply capstanref05_Bytes.mono | apply capstanref06_Bytes.mono | apply capstanref07_Bytes.mono | apply LeO.refl | apply LeO.none | refine LeO.ite ?_ ?_ | refine LeO.bind ?_ (fun _ => ?_)) | apply ih0 | apply ih1 | apply capstanref05_Bytes.mono | apply capstanref06_Bytes.mono | apply capstanref07_Bytes.mono | apply LeO.none | refine LeO.ite ?_ ?_ | refine LeO.bind ?_ (fun _ => ?_)
set_option maxHeartbeats 8000000 in
set_option maxRecDepth 100000 in
theorem capstanref08_Bytes.calls (k : Nat) (A0_0 : Option Addr) (c0_0 : Nat) (l0_0 : List (S73)) (A0_1 : Option Addr) (c0_1 : Nat) (l0_1 : List (S73)) (A0_2 : Option Addr) (c0_2 : Nat) (l0_2 : List (S47)) (a0_3 : Int) (r1 : List Int) (r2 : Int) (w : World) (hr0_0 : Kd.C k73 w A0_0 l0_0.length l0_0) (hc0_0 : l0_0.length ≤ c0_0) (hr0_1 : Kd.C k73 w A0_1 l0_1.length l0_1) (hc0_1 : l0_1.length ≤ c0_1) (hr0_2 : Kd.C k47 w A0_2 l0_2.length l0_2) (hc0_2 : l0_2.length ≤ c0_2) (h : capstanref08_Bytes.f k l0_0 l0_1 l0_2 a0_3 = some (r1, r2)) :
  Calls Tryd.prog 14 #[.agg #[.slice A0_0 l0_0.length c0_0, .slice A0_1 l0_1.length c0_1, .slice A0_2 l0_2.length c0_2, .int .i64 a0_3]] w fun e w' => ∃ v0_ : Value, e = .returned (.tuple #[v0_, .int .i64 r2]) ∧ Kd.R (Kd.int .u8) 5 w' w.heap.size (fun _ => True) v0_ r1 ∧ Below w.heap.size w w' := by
 have hu26 := Tryd.underlying26; have hu47 := Tryd.underlying47; have HR0_0 := Aside0.mk hr0_0; have HC0_0 := Aside0.mk hc0_0; clear hr0_0 hc0_0; have HR0_1 := Aside0.mk hr0_1; have HC0_1 := Aside0.mk hc0_1; clear hr0_1 hc0_1; have HR0_2 := Aside0.mk hr0_2; have HC0_2 := Aside0.mk hc0_2; clear hr0_2 hc0_2; have HB := Aside0.mk (Below.refl w.heap.size w); have H := h; unfold capstanref08_Bytes.f at H; clear h; have HC2 := Aside0.mk H; clear H
 go_enter Tryd.func14, Tryd.ntmps14
 go_upto_region 1 with (first | ((with_reducible refine gate_dst (N := 1) rfl ?_); (try (refine gate_guard (by rfl) ?_; dsimp only)); refine sq_box (N := 1) (cs := #[.slice A0_0 l0_0.length c0_0, .slice A0_1 l0_1.length c0_1, .slice A0_2 l0_2.length c0_2, .int .i64 a0_3]) (t := 26) ?_; intro gb312 hg w3 hbox hb; have n_ := sq_n4 (below_step (au1) hb) hbox ((au26 : w.heap.size ≤ gb312)) ((au26 : w.heap.size ≤ gb312)); clear HB; obtain ⟨HB, BK312, GW312, GE312⟩ := n_; clear hb hbox hg))
 (try simp only [Act.put, List.setIfInBounds_toArray, List.set_cons_zero, List.set_cons_succ])
 go_cut [34] (fun v34 wc => ∃ (kq : Nat) (x34_1 : Bool), v34 = .bool x34_1 ∧ Aside0 (capstanref08_Bytes.j0 kq x34_1 l0_0 l0_1 l0_2 a0_3 = some (r1, r2)) ∧ Aside0 (kq ≤ k) ∧ Aside0 (wc.heap[gb312]? = some (.cells #[(.slice A0_0 l0_0.length c0_0), (.slice A0_1 l0_1.length c0_1), (.slice A0_2 l0_2.length c0_2), .int .i64 a0_3] 26 (0, 0))) ∧ Aside0 (Below w.heap.size w wc))
 case first =>
  have H := HC2.out; clear HC2
  by_cases c4 : (l0_0.length : Int) > 4
  ·
   rw [if_pos c4] at H; have c4b0 : decide (4 < (l0_0.length : Int)) = true := decide_eq_true c4; have c4b1 : decide (4 < l0_0.length) = true := decide_eq_true (by omega); clear c4
   (first | rw [c4b0] | (simp only [i64_w, i32_w]; rw [c4b0]) | skip)
   have H' := Aside0.mk H; clear H; have hz5 := blk_all4 BK312.out; go_wp2; go_meet
   case rel => exact ⟨_, (true), (au11), H', ⟨au95⟩, ⟨au48⟩, ⟨au6⟩⟩
  ·
   rw [if_neg c4] at H; have c4b0 : decide (4 < (l0_0.length : Int)) = false := decide_eq_false c4; have c4b1 : decide (4 < l0_0.length) = false := decide_eq_false (by omega); clear c4
   (first | rw [c4b0] | (simp only [i64_w, i32_w]; rw [c4b0]) | skip)
   by_cases c6 : (l0_2.length : Int) > 16
   ·
    rw [if_pos c6] at H; have c6b0 : decide (16 < (l0_2.length : Int)) = true := decide_eq_true c6; have c6b1 : decide (16 < l0_2.length) = true := decide_eq_true (by omega); clear c6; have H' := Aside0.mk H; clear H; have hz7 := blk_all4 BK312.out; go_wp2; go_meet
    case rel => exact ⟨_, (true), (au11), H', ⟨au95⟩, ⟨au48⟩, ⟨au6⟩⟩
   ·
    rw [if_neg c6] at H; have c6b0 : decide (16 < (l0_2.length : Int)) = false := decide_eq_false c6; have c6b1 : decide (16 < l0_2.length) = false := decide_eq_false (by omega); clear c6
    by_cases c8 : a0_3 < (-1)
    ·
     rw [if_pos c8] at H; have c8b0 : decide (a0_3 < (-1)) = true := decide_eq_true c8; clear c8; have H' := Aside0.mk H; clear H; have hz9 := blk_all4 BK312.out; go_wp2; go_meet
     case rel => exact ⟨_, (true), (au11), H', ⟨au95⟩, ⟨au48⟩, ⟨au6⟩⟩
    ·
     rw [if_neg c8] at H; have c8b0 : decide (a0_3 < (-1)) = false := decide_eq_false c8; clear c8; have H' := Aside0.mk H; clear H; have hz10 := blk_all4 BK312.out; go_wp2; go_meet
     case rel => exact ⟨_, (decide (a0_3 ≥ (l0_2.length : Int))), (au11), H', ⟨au95⟩, ⟨au48⟩, ⟨au6⟩⟩
 case rest =>
  clear HC2; obtain ⟨kq, x34_1, rfl, HA, HJ1, BK312, HB⟩ := hcut
  cases kq with
  | zero => exact absurd HA.out (by simp [capstanref08_Bytes.j0])
  | succ kj1 =>
   have H := HA.out; clear HA; simp only [capstanref08_Bytes.j0] at H
   by_cases c11 : x34_1 = true
   ·
    subst c11
    rw [if_pos rfl] at H; simp only [Option.some.injEq, Prod.mk.injEq] at H; obtain ⟨rfl, rfl⟩ := H; go_wp2
    go_ret2
    exact ⟨_, au4, au27, au6⟩
   ·
    replace c11 := Bool.eq_false_iff.mpr c11; subst c11
    rw [sq_f] at H; obtain ⟨⟨t313, t314⟩, A12, H⟩ := sq_bind H; dsimp only at H
    by_cases c13 : t314 = 0
    rotate_left
    ·
     rw [if_neg c13] at H; have c13b0 := beq_eq_false_iff_ne.mpr c13; have c13b1 := bne_iff_ne.mpr c13; simp only [Option.some.injEq, Prod.mk.injEq] at H; obtain ⟨rfl, rfl⟩ := H; have hz69 := blk_all4 BK312.out
     go_wp2_with (first | ((with_reducible refine gate_callee (f := 45) rfl ?_); refine goesL_ (some 38) rfl rfl Tryd.func45 (by kernel_rfl) rfl #[.slice A0_0 l0_0.length c0_0] rfl (au2) ?_; (with_reducible refine (capstanref06_Bytes.calls kj1 _ _ l0_0 t313 t314 _ ?side1 ?side2 A12.out).mono ?_); (case side1 => exact au12); (case side2 => exact HC0_0.out); rintro e w70 ⟨v315, rfl, ho0, hb⟩; refine ⟨_, rfl, ?_⟩; have n_ := sq_n3 (Kd.R_lower ho0 (below_size (au6))) (blk_below (au48) hb) (below_step (au6) hb); clear BK312 HB; obtain ⟨HO316, BK312, HB⟩ := n_; (try clear hb); (try clear ho0)))
     go_ret2
     exact ⟨_, au4, au27, au6⟩

    rw [if_pos c13] at H; have c13b0 := beq_iff_eq.mpr c13; have c13b1 := bne_eq_false_iff_eq.mpr c13; clear c13; obtain ⟨⟨t317, t318⟩, A14, H⟩ := sq_bind H; dsimp only at H
    by_cases c15 : t318 = 0
    rotate_left
    ·
     rw [if_neg c15] at H; have c15b0 := beq_eq_false_iff_ne.mpr c15; have c15b1 := bne_iff_ne.mpr c15; simp only [Option.some.injEq, Prod.mk.injEq] at H; obtain ⟨rfl, rfl⟩ := H; have hz65 := blk_all4 BK312.out
     go_wp2_with (first | ((with_reducible refine gate_callee (f := 45) rfl ?_); refine goesL_ (some 38) rfl rfl Tryd.func45 (by kernel_rfl) rfl #[.slice A0_0 l0_0.length c0_0] rfl (au2) ?_; (with_reducible refine (capstanref06_Bytes.calls kj1 _ _ l0_0 t313 t314 _ ?side1 ?side2 A12.out).mono ?_); (case side1 => exact au12); (case side2 => exact HC0_0.out); rintro e w66 ⟨v315, rfl, ho0, hb⟩; refine ⟨_, rfl, ?_⟩; have n_ := sq_n3 (Kd.R_lower ho0 (below_size (au6))) (blk_below (au48) hb) (below_step (au6) hb); clear BK312 HB; obtain ⟨HO316, BK312, HB⟩ := n_; (try clear hb); (try clear ho0); have hz67 := blk_all4 BK312.out) | ((with_reducible refine gate_callee (f := 45) rfl ?_); refine goesL_ (some 47) rfl rfl Tryd.func45 (by kernel_rfl) rfl #[.slice A0_1 l0_1.length c0_1] rfl (au2) ?_; (with_reducible refine (capstanref06_Bytes.calls kj1 _ _ l0_1 t317 t318 _ ?side1 ?side2 A14.out).mono ?_); (case side1 => exact au30); (case side2 => exact HC0_1.out); rintro e w68 ⟨v319, rfl, ho0, hb⟩; refine ⟨_, rfl, ?_⟩; have n_ := sq_n4 (Kd.R_elder' (au159) (Kd.R_base ho0) hb) (Kd.R_lower (Kd.R_new' ho0 (Kd.R_lt (au159))) (below_size (au6))) (blk_below (au48) hb) (below_step (au6) hb); clear HO316 BK312 HB; obtain ⟨HO316, HO320, BK312, HB⟩ := n_; (try clear hb); (try clear ho0)))
     go_ret2
     exact ⟨_, au4, au27, au6⟩
    rw [if_pos c15] at H; have c15b0 := beq_iff_eq.mpr c15; have c15b1 := bne_eq_false_iff_eq.mpr c15; clear c15
    by_cases c16 : t313.length + t317.length < 140737488355328
    rotate_left
    · rw [if_neg c16] at H; exact absurd H (by simp)
    rw [if_pos c16] at H; have LMc16 := Aside0.mk c16; clear c16; obtain ⟨y321, Ny321, H⟩ := sq_y H
    by_cases c17 : y321.length < 140737488355328
    rotate_left
    · rw [if_neg c17] at H; exact absurd H (by simp)
    rw [if_pos c17] at H; have LMc17 := Aside0.mk c17; clear c17; obtain ⟨y324, hy324⟩ : ∃ y_ : List Int, y_ = (y321 ++ [((l0_2.length : Int)) % 256]) := ⟨_, rfl⟩; rw [← hy324] at H; have Ny324 := Aside0.mk hy324; clear hy324; have H' := Aside0.mk H; clear H; have hz18 := blk_all4 BK312.out
    go_wp2_with (first | ((with_reducible refine gate_callee (f := 45) rfl ?_); refine goesL_ (some 38) rfl rfl Tryd.func45 (by kernel_rfl) rfl #[.slice A0_0 l0_0.length c0_0] rfl (au2) ?_; (with_reducible refine (capstanref06_Bytes.calls kj1 _ _ l0_0 t313 t314 _ ?side1 ?side2 A12.out).mono ?_); (case side1 => exact au12); (case side2 => exact HC0_0.out); rintro e w19 ⟨v315, rfl, ho0, hb⟩; refine ⟨_, rfl, ?_⟩; have n_ := sq_n3 (Kd.R_lower ho0 (below_size (au6))) (blk_below (au48) hb) (below_step (au6) hb); clear BK312 HB; obtain ⟨HO316, BK312, HB⟩ := n_; (try clear hb); (try clear ho0); have hz20 := blk_all4 BK312.out) | ((with_reducible refine gate_callee (f := 45) rfl ?_); refine goesL_ (some 47) rfl rfl Tryd.func45 (by kernel_rfl) rfl #[.slice A0_1 l0_1.length c0_1] rfl (au2) ?_; (with_reducible refine (capstanref06_Bytes.calls kj1 _ _ l0_1 t317 t318 _ ?side1 ?side2 A14.out).mono ?_); (case side1 => exact au30); (case side2 => exact HC0_1.out); rintro e w21 ⟨v319, rfl, ho0, hb⟩; refine ⟨_, rfl, ?_⟩; have n_ := sq_n4 (Kd.R_elder' (au159) (Kd.R_base ho0) hb) (Kd.R_lower (Kd.R_new' ho0 (Kd.R_lt (au159))) (below_size (au6))) (blk_below (au48) hb) (below_step (au6) hb); clear HO316 BK312 HB; obtain ⟨HO316, HO320, BK312, HB⟩ := n_; (try clear hb); (try clear ho0); obtain ⟨Ao23, co23, eo23⟩ := Kd.R_slice HO320.out; subst eo23) | ((with_reducible refine gate_builtin (b := .append) (xs := #[.tmp 53, .tmp 54]) rfl ?_); (try (refine gate_guard (by rfl) ?_; dsimp only)); at_builtin; refine Kd.R_append_rows (Kd.int .u8) (w0 := w) w.heap.size rfl (.tmp 53) (.tmp 54) 22 5 (.int .u8 0) 1 rfl Tryd.underlying22 info5 rfl (by decide) (by omega) v315 t313 t317 _ _ _ (fun k_ => some k_ ≠ (.slice Ao23 t317.length co23 : Value).ownBlock) (fun _ => False) rfl rfl ?aO ?aR (fun _ _ h => h) (fun _ h => h.elim) ?aF ?aB ?aS ?aL ?_; (case aR => repeat (first | exact (Kd.R_reads' HO320.out).2.2 | (with_reducible refine Kd.C_alloc ?_ _) | (with_reducible refine Kd.C_drewN ?_ _) | (with_reducible refine Kd.C_drew ?_))); (case aB => exact (au6)); (case aF => exact (fun k_ hk => Kd.fresh' (Kd.R_lt (au160)) k_ hk)); (case aO => exact (by (with_reducible repeat (first | apply Kd.R_alloc | apply Kd.R_drewN | apply Kd.R_drew)); first | exact Kd.R_mono HO316.out (fun _ hk => hk.2) | exact Kd.R_mono (Kd.R_mono HO316.out (fun _ hk => hk.2)) (fun _ h_ => h_.2))); (case aS => exact (below_size (au6))); (case aL => have := LMc16.out; omega); intro v322 w22 ho hb hg hat; rw [← Ny321.out] at ho; have n_ := sq_n4 (blk_grown (au48) hg (Kd.R_ne HO316.out BK312.out (by decide))) (Kd.R_after (ok := (fun _ => True)) (au160) hg hat) hb ho; clear BK312 HO320 HB HO316; obtain ⟨BK312, HO320, HB, HO323⟩ := n_; clear ho hb hg hat; have hz24 := blk_all4 BK312.out) | ((with_reducible refine gate_builtin (b := .append) (xs := #[.tmp 56, .tmp 61]) rfl ?_); (try (refine gate_guard (by rfl) ?_; dsimp only)); at_builtin; refine Kd.R_append (Kd.int .u8) (w0 := w) w.heap.size rfl (.tmp 56) (.tmp 61) 22 5 (.int .u8 0) 1 rfl Tryd.underlying22 info5 rfl (by decide) (by omega) v322 y321 (((l0_2.length : Int)) % 256) [.int .u8 (((l0_2.length : Int)) % 256)] (fun k_ => some k_ ≠ (.slice Ao23 t317.length co23 : Value).ownBlock) (fun _ => False) rfl rfl ?aP (fun _ hk => hk.elim) ?aF ?aO ?aB ?aS ?aL ?_; (case aP => exact rfl); (case aB => exact (au6)); (case aF => exact (fun k_ hk => Kd.fresh' (Kd.R_lt (au160)) k_ hk)); (case aO => exact (by (with_reducible repeat (first | apply Kd.R_alloc | apply Kd.R_drewN | apply Kd.R_drew)); first | exact HO323.out | exact Kd.R_mono (HO323.out) (fun _ h_ => h_.2))); (case aS => exact (below_size (au6))); (case aL => have := LMc17.out; omega); intro v325 w25 ho hb hg hat; rw [← Ny324.out] at ho; have n_ := sq_n4 (blk_grown (au48) hg (Kd.R_ne HO323.out BK312.out (by decide))) (Kd.R_after (ok := (fun _ => True)) (au160) hg hat) hb ho; clear BK312 HO320 HB HO323; obtain ⟨BK312, HO320, HB, HO326⟩ := n_; clear ho hb hg hat))
    go_loopg [4, 7] kj1 (fun kq v4 v7 w' => ∃ (x4_2 : List Int) (x7_2 : Int), v7 = .int .i64 x7_2 ∧ Aside0 (capstanref08_Bytes.l0 kq x4_2 x7_2 l0_0 l0_1 l0_2 a0_3 = some (r1, r2)) ∧ Aside0 (kq ≤ kj1) ∧ Aside0 (Kd.R (Kd.int .u8) 5 w' w.heap.size (fun _ => True) v4 x4_2) ∧ Aside0 (w'.heap[gb312]? = some (.cells #[(.slice A0_0 l0_0.length c0_0), (.slice A0_1 l0_1.length c0_1), (.slice A0_2 l0_2.length c0_2), .int .i64 a0_3] 26 (0, 0))) ∧ Aside0 (Below w.heap.size w w'))
    case atStart => exact ⟨(y324), (0), (au11), H', ⟨Nat.le_refl _⟩, ⟨by (with_reducible repeat (first | apply Kd.R_alloc | apply Kd.R_drewN | apply Kd.R_drew)); first | exact Kd.R_mono HO326.out (fun _ hk => trivial) | exact Kd.R_mono (Kd.R_mono HO326.out (fun _ hk => trivial)) (fun _ h_ => h_.2)⟩, ⟨au48⟩, ⟨au6⟩⟩
    case round =>
     clear H'; (try clear c1); (try clear p2); (try clear c4); (try clear c4b0); (try clear c4b1); (try clear c6); (try clear c6b0); (try clear c6b1); (try clear c8); (try clear c8b0); (try clear c11); (try clear c13); (try clear c13b0); (try clear c13b1); (try clear c14); (try clear c15); (try clear c15b0); (try clear c15b1); (try clear c16); (try clear c17); (try clear hz10); (try clear hz18); (try clear hz20); (try clear hz24); (try clear hz5); (try clear hz7); (try clear hz9); (try clear hz10); (try clear hz18); (try clear hz20); (try clear hz24); (try clear hz5); (try clear hz7); (try clear hz9); (try clear p2); obtain ⟨x4_2, x7_2, rfl, HA, HK2, HO_4, BK312, HB⟩ := hrel
     cases gk with
     | zero => exact absurd HA.out (by simp [capstanref08_Bytes.l0])
     | succ k2 =>
      have H := HA.out; clear HA; simp only [capstanref08_Bytes.l0] at H
      by_cases c26 : x7_2 < (l0_2.length : Int)
      rotate_left
      ·
       rw [if_neg c26] at H; have c26b0 : decide (x7_2 < (l0_2.length : Int)) = false := decide_eq_false c26; clear c26
       by_cases c48 : a0_3 < 0
       ·
        rw [if_pos c48] at H; have c48b0 : decide (a0_3 < 0) = true := decide_eq_true c48; clear c48
        by_cases c49 : x4_2.length < 140737488355328
        rotate_left
        · rw [if_neg c49] at H; exact absurd H (by simp)
        rw [if_pos c49] at H; have LMc49 := Aside0.mk c49; clear c49; obtain ⟨y343, Ny343, H⟩ := sq_y H
        by_cases c50 : (y343.length : Int) > 2000
        ·
         rw [if_pos c50] at H; have c50b0 : decide (2000 < (y343.length : Int)) = true := decide_eq_true c50; have c50b1 : decide (2000 < y343.length) = true := decide_eq_true (by omega); clear c50; simp only [Option.some.injEq, Prod.mk.injEq] at H; obtain ⟨rfl, rfl⟩ := H; have hz51 := blk_all4 BK312.out
         go_wp2_with (first | ((with_reducible refine gate_builtin (b := .append) (xs := #[.tmp 104, .tmp 105]) rfl ?_); (try (refine gate_guard (by rfl) ?_; dsimp only)); at_builtin; refine Kd.R_append (Kd.int .u8) (w0 := w) w.heap.size rfl (.tmp 104) (.tmp 105) 22 5 (.int .u8 0) 1 rfl Tryd.underlying22 info5 rfl (by decide) (by omega) u4 x4_2 255 [.int .u8 255] (fun _ => True) (fun _ => False) rfl rfl ?aP (fun _ hk => hk.elim) ?aF ?aO ?aB ?aS ?aL ?_; (case aP => exact rfl); (case aB => exact (au6)); (case aF => exact (fun _ _ => trivial)); (case aO => exact (au13)); (case aS => exact (below_size (au6))); (case aL => have := LMc49.out; omega); intro v344 w52 ho hb hg hat; rw [← Ny343.out] at ho; have n_ := sq_n3 (blk_grown (au48) hg (Kd.R_ne HO_4.out BK312.out (by decide))) hb ho; clear BK312 HB HO_4; obtain ⟨BK312, HB, HO345⟩ := n_; clear ho hb hg hat; obtain ⟨Ao53, co53, eo53⟩ := Kd.R_slice HO345.out; subst eo53))
         go_ret2
         exact ⟨_, au4, au27, au6⟩
        ·
         rw [if_neg c50] at H; have c50b0 : decide (2000 < (y343.length : Int)) = false := decide_eq_false c50; have c50b1 : decide (2000 < y343.length) = false := decide_eq_false (by omega); clear c50; simp only [Option.some.injEq, Prod.mk.injEq] at H; obtain ⟨rfl, rfl⟩ := H; have hz54 := blk_all4 BK312.out
         go_wp2_with (first | ((with_reducible refine gate_builtin (b := .append) (xs := #[.tmp 104, .tmp 105]) rfl ?_); (try (refine gate_guard (by rfl) ?_; dsimp only)); at_builtin; refine Kd.R_append (Kd.int .u8) (w0 := w) w.heap.size rfl (.tmp 104) (.tmp 105) 22 5 (.int .u8 0) 1 rfl Tryd.underlying22 info5 rfl (by decide) (by omega) u4 x4_2 255 [.int .u8 255] (fun _ => True) (fun _ => False) rfl rfl ?aP (fun _ hk => hk.elim) ?aF ?aO ?aB ?aS ?aL ?_; (case aP => exact rfl); (case aB => exact (au6)); (case aF => exact (fun _ _ => trivial)); (case aO => exact (au13)); (case aS => exact (below_size (au6))); (case aL => have := LMc49.out; omega); intro v344 w55 ho hb hg hat; rw [← Ny343.out] at ho; have n_ := sq_n3 (blk_grown (au48) hg (Kd.R_ne HO_4.out BK312.out (by decide))) hb ho; clear BK312 HB HO_4; obtain ⟨BK312, HB, HO345⟩ := n_; clear ho hb hg hat; obtain ⟨Ao56, co56, eo56⟩ := Kd.R_slice HO345.out; subst eo56))
         go_ret2
         exact ⟨_, au4, by (with_reducible repeat (first | apply Kd.R_alloc | apply Kd.R_drewN | apply Kd.R_drew)); first | exact HO345.out | exact Kd.R_mono (HO345.out) (fun _ h_ => h_.2), au6⟩
       ·
        rw [if_neg c48] at H; have c48b0 : decide (a0_3 < 0) = false := decide_eq_false c48; clear c48
        by_cases c57 : x4_2.length < 140737488355328
        rotate_left
        · rw [if_neg c57] at H; exact absurd H (by simp)
        rw [if_pos c57] at H; have LMc57 := Aside0.mk c57; clear c57; obtain ⟨y346, Ny346, H⟩ := sq_y H
        by_cases c58 : (y346.length : Int) > 2000
        ·
         rw [if_pos c58] at H; have c58b0 : decide (2000 < (y346.length : Int)) = true := decide_eq_true c58; have c58b1 : decide (2000 < y346.length) = true := decide_eq_true (by omega); clear c58; simp only [Option.some.injEq, Prod.mk.injEq] at H; obtain ⟨rfl, rfl⟩ := H; have hz59 := blk_all4 BK312.out
         go_wp2_with (first | ((with_reducible refine gate_builtin (b := .append) (xs := #[.tmp 107, .tmp 111]) rfl ?_); (try (refine gate_guard (by rfl) ?_; dsimp only)); at_builtin; refine Kd.R_append (Kd.int .u8) (w0 := w) w.heap.size rfl (.tmp 107) (.tmp 111) 22 5 (.int .u8 0) 1 rfl Tryd.underlying22 info5 rfl (by decide) (by omega) u4 x4_2 ((a0_3) % 256) [.int .u8 ((a0_3) % 256)] (fun _ => True) (fun _ => False) rfl rfl ?aP (fun _ hk => hk.elim) ?aF ?aO ?aB ?aS ?aL ?_; (case aP => exact rfl); (case aB => exact (au6)); (case aF => exact (fun _ _ => trivial)); (case aO => exact (au13)); (case aS => exact (below_size (au6))); (case aL => have := LMc57.out; omega); intro v347 w60 ho hb hg hat; rw [← Ny346.out] at ho; have n_ := sq_n3 (blk_grown (au48) hg (Kd.R_ne HO_4.out BK312.out (by decide))) hb ho; clear BK312 HB HO_4; obtain ⟨BK312, HB, HO348⟩ := n_; clear ho hb hg hat; obtain ⟨Ao61, co61, eo61⟩ := Kd.R_slice HO348.out; subst eo61))
         go_ret2
         exact ⟨_, au4, au27, au6⟩
        ·
         rw [if_neg c58] at H; have c58b0 : decide (2000 < (y346.length : Int)) = false := decide_eq_false c58; have c58b1 : decide (2000 < y346.length) = false := decide_eq_false (by omega); clear c58; simp only [Option.some.injEq, Prod.mk.injEq] at H; obtain ⟨rfl, rfl⟩ := H; have hz62 := blk_all4 BK312.out
         go_wp2_with (first | ((with_reducible refine gate_builtin (b := .append) (xs := #[.tmp 107, .tmp 111]) rfl ?_); (try (refine gate_guard (by rfl) ?_; dsimp only)); at_builtin; refine Kd.R_append (Kd.int .u8) (w0 := w) w.heap.size rfl (.tmp 107) (.tmp 111) 22 5 (.int .u8 0) 1 rfl Tryd.underlying22 info5 rfl (by decide) (by omega) u4 x4_2 ((a0_3) % 256) [.int .u8 ((a0_3) % 256)] (fun _ => True) (fun _ => False) rfl rfl ?aP (fun _ hk => hk.elim) ?aF ?aO ?aB ?aS ?aL ?_; (case aP => exact rfl); (case aB => exact (au6)); (case aF => exact (fun _ _ => trivial)); (case aO => exact (au13)); (case aS => exact (below_size (au6))); (case aL => have := LMc57.out; omega); intro v347 w63 ho hb hg hat; rw [← Ny346.out] at ho; have n_ := sq_n3 (blk_grown (au48) hg (Kd.R_ne HO_4.out BK312.out (by decide))) hb ho; clear BK312 HB HO_4; obtain ⟨BK312, HB, HO348⟩ := n_; clear ho hb hg hat; obtain ⟨Ao64, co64, eo64⟩ := Kd.R_slice HO348.out; subst eo64))
         go_ret2
         exact ⟨_, au4, by (with_reducible repeat (first | apply Kd.R_alloc | apply Kd.R_drewN | apply Kd.R_drew)); first | exact HO348.out | exact Kd.R_mono (HO348.out) (fun _ h_ => h_.2), au6⟩
      rw [if_pos c26] at H; have c26b0 : decide (x7_2 < (l0_2.length : Int)) = true := decide_eq_true c26; clear c26
      by_cases c27 : 0 ≤ x7_2
      rotate_left
      · rw [if_neg c27] at H; exact absurd H (by simp)
      rw [if_pos c27] at H; have c27b0 : decide (0 ≤ x7_2) = true := decide_eq_true c27; clear c27; obtain ⟨⟨t328, t331⟩, A28, H⟩ := sq_bind H; dsimp only at H
      by_cases c29 : t331 = 0
      rotate_left
      ·
       rw [if_neg c29] at H; have c29b0 := beq_eq_false_iff_ne.mpr c29; have c29b1 := bne_iff_ne.mpr c29; simp only [Option.some.injEq, Prod.mk.injEq] at H; obtain ⟨rfl, rfl⟩ := H; have hz46 := blk_all4 BK312.out; have p327 : 0 ≤ (x7_2 : Int) := of_decide_eq_true (au9); have q327 : x7_2 < (l0_2.length : Int) := of_decide_eq_true (au9); obtain ⟨ad327, A327_0, c327_0, A327_1, c327_1, A327_7, c327_7, e327, hx327_0, hx327_1, hx327_2, hx327_3, hx327_4, hx327_5, hx327_6, hx327_7, hl327_0, hi327_0, hl327_1, hi327_1, hl327_7, hi327_7⟩ := at_T47 HR0_2.out x7_2 p327 q327; cases e327; replace hx327_0 := sq_c HB hx327_0; replace hx327_1 := sq_c HB hx327_1; replace hx327_2 := sq_c HB hx327_2; replace hx327_3 := sq_c HB hx327_3; replace hx327_4 := sq_c HB hx327_4; replace hx327_5 := sq_c HB hx327_5; replace hx327_6 := sq_c HB hx327_6; replace hx327_7 := sq_c HB hx327_7; have HR327_0 := Aside0.mk hi327_0; have HC327_0 := Aside0.mk hl327_0; clear hi327_0 hl327_0; have HR327_1 := Aside0.mk hi327_1; have HC327_1 := Aside0.mk hl327_1; clear hi327_1 hl327_1
       have HR327_7 := Aside0.mk hi327_7; have HC327_7 := Aside0.mk hl327_7; clear hi327_7 hl327_7; replace p327 := eq_true p327; replace q327 := eq_true q327
       go_wp2_with (first | ((with_reducible refine gate_callee (f := 46) rfl ?_); refine goesL_ (some 76) rfl rfl Tryd.func46 (by kernel_rfl) rfl #[.agg #[.slice A327_0 ((rd_T47 l0_2 x7_2).f0).length c327_0, .slice A327_1 ((rd_T47 l0_2 x7_2).f1).length c327_1, .int .u8 ((rd_T47 l0_2 x7_2).f2), .bool ((rd_T47 l0_2 x7_2).f3), .int .i64 ((rd_T47 l0_2 x7_2).f4), .int .i64 ((rd_T47 l0_2 x7_2).f5), .int .i64 ((rd_T47 l0_2 x7_2).f6), .slice A327_7 ((rd_T47 l0_2 x7_2).f7).length c327_7]] rfl (au2) ?_; (with_reducible refine (capstanref07_Bytes.calls k2 _ _ ((rd_T47 l0_2 x7_2).f0) _ _ ((rd_T47 l0_2 x7_2).f1) ((rd_T47 l0_2 x7_2).f2) ((rd_T47 l0_2 x7_2).f3) ((rd_T47 l0_2 x7_2).f4) ((rd_T47 l0_2 x7_2).f5) ((rd_T47 l0_2 x7_2).f6) _ _ ((rd_T47 l0_2 x7_2).f7) t328 t331 _ ?side1 ?side2 ?side3 ?side4 ?side5 ?side6 A28.out).mono ?_); (case side1 => exact au185); (case side2 => exact HC327_0.out); (case side3 => exact au186); (case side4 => exact HC327_1.out); (case side5 => exact au187); (case side6 => exact HC327_7.out); rintro e w47 ⟨v329, rfl, ho0, hb⟩; refine ⟨_, rfl, ?_⟩; have n_ := sq_n4 (Kd.R_elder' (au13) (Kd.R_base ho0) hb) (Kd.R_lower (Kd.R_new' ho0 (Kd.R_lt (au13))) (below_size (au6))) (blk_below (au48) hb) (below_step (au6) hb); clear HO_4 BK312 HB; obtain ⟨HO_4, HO330, BK312, HB⟩ := n_; (try clear hb); (try clear ho0)))
       go_ret2
       exact ⟨_, au4, au27, au6⟩
      rw [if_pos c29] at H; have c29b0 := beq_iff_eq.mpr c29; have c29b1 := bne_eq_false_iff_eq.mpr c29; clear c29; obtain ⟨⟨t333, t334⟩, A30, H⟩ := sq_bind H; dsimp only at H
      by_cases c31 : t334 = 0
      rotate_left
      ·
       rw [if_neg c31] at H; have c31b0 := beq_eq_false_iff_ne.mpr c31; have c31b1 := bne_iff_ne.mpr c31; simp only [Option.some.injEq, Prod.mk.injEq] at H; obtain ⟨rfl, rfl⟩ := H; have hz42 := blk_all4 BK312.out; have p327 : 0 ≤ (x7_2 : Int) := of_decide_eq_true (au9); have q327 : x7_2 < (l0_2.length : Int) := of_decide_eq_true (au9); obtain ⟨ad327, A327_0, c327_0, A327_1, c327_1, A327_7, c327_7, e327, hx327_0, hx327_1, hx327_2, hx327_3, hx327_4, hx327_5, hx327_6, hx327_7, hl327_0, hi327_0, hl327_1, hi327_1, hl327_7, hi327_7⟩ := at_T47 HR0_2.out x7_2 p327 q327; cases e327; replace hx327_0 := sq_c HB hx327_0; replace hx327_1 := sq_c HB hx327_1; replace hx327_2 := sq_c HB hx327_2; replace hx327_3 := sq_c HB hx327_3; replace hx327_4 := sq_c HB hx327_4; replace hx327_5 := sq_c HB hx327_5; replace hx327_6 := sq_c HB hx327_6; replace hx327_7 := sq_c HB hx327_7; have HR327_0 := Aside0.mk hi327_0; have HC327_0 := Aside0.mk hl327_0; clear hi327_0 hl327_0; have HR327_1 := Aside0.mk hi327_1; have HC327_1 := Aside0.mk hl327_1; clear hi327_1 hl327_1
       have HR327_7 := Aside0.mk hi327_7; have HC327_7 := Aside0.mk hl327_7; clear hi327_7 hl327_7; replace p327 := eq_true p327; replace q327 := eq_true q327
       go_wp2_with (first | ((with_reducible refine gate_callee (f := 46) rfl ?_); refine goesL_ (some 76) rfl rfl Tryd.func46 (by kernel_rfl) rfl #[.agg #[.slice A327_0 ((rd_T47 l0_2 x7_2).f0).length c327_0, .slice A327_1 ((rd_T47 l0_2 x7_2).f1).length c327_1, .int .u8 ((rd_T47 l0_2 x7_2).f2), .bool ((rd_T47 l0_2 x7_2).f3), .int .i64 ((rd_T47 l0_2 x7_2).f4), .int .i64 ((rd_T47 l0_2 x7_2).f5), .int .i64 ((rd_T47 l0_2 x7_2).f6), .slice A327_7 ((rd_T47 l0_2 x7_2).f7).length c327_7]] rfl (au2) ?_; (with_reducible refine (capstanref07_Bytes.calls k2 _ _ ((rd_T47 l0_2 x7_2).f0) _ _ ((rd_T47 l0_2 x7_2).f1) ((rd_T47 l0_2 x7_2).f2) ((rd_T47 l0_2 x7_2).f3) ((rd_T47 l0_2 x7_2).f4) ((rd_T47 l0_2 x7_2).f5) ((rd_T47 l0_2 x7_2).f6) _ _ ((rd_T47 l0_2 x7_2).f7) t328 t331 _ ?side1 ?side2 ?side3 ?side4 ?side5 ?side6 A28.out).mono ?_); (case side1 => exact au185); (case side2 => exact HC327_0.out); (case side3 => exact au186); (case side4 => exact HC327_1.out); (case side5 => exact au187); (case side6 => exact HC327_7.out); rintro e w43 ⟨v329, rfl, ho0, hb⟩; refine ⟨_, rfl, ?_⟩; have n_ := sq_n4 (Kd.R_elder' (au13) (Kd.R_base ho0) hb) (Kd.R_lower (Kd.R_new' ho0 (Kd.R_lt (au13))) (below_size (au6))) (blk_below (au48) hb) (below_step (au6) hb); clear HO_4 BK312 HB; obtain ⟨HO_4, HO330, BK312, HB⟩ := n_; (try clear hb); (try clear ho0); have hz44 := blk_all4 BK312.out; have p332 : 0 ≤ (x7_2 : Int) := of_decide_eq_true (au9); have q332 : x7_2 < (l0_2.length : Int) := of_decide_eq_true (au9); obtain ⟨ad332, A332_0, c332_0, A332_1, c332_1, A332_7, c332_7, e332, hx332_0, hx332_1, hx332_2, hx332_3, hx332_4, hx332_5, hx332_6, hx332_7, hl332_0, hi332_0, hl332_1, hi332_1, hl332_7, hi332_7⟩ := at_T47 HR0_2.out x7_2 p332 q332; obtain rfl : ad327 = ad332 := (by injection e332); replace hx332_0 := sq_c HB hx332_0; replace hx332_1 := sq_c HB hx332_1; replace hx332_2 := sq_c HB hx332_2; replace hx332_3 := sq_c HB hx332_3; replace hx332_4 := sq_c HB hx332_4; replace hx332_5 := sq_c HB hx332_5; replace hx332_6 := sq_c HB hx332_6; replace hx332_7 := sq_c HB hx332_7; have HR332_0 := Aside0.mk hi332_0; have HC332_0 := Aside0.mk hl332_0; clear hi332_0 hl332_0; have HR332_1 := Aside0.mk hi332_1; have HC332_1 := Aside0.mk hl332_1; clear hi332_1 hl332_1; have HR332_7 := Aside0.mk hi332_7; have HC332_7 := Aside0.mk hl332_7; clear hi332_7 hl332_7; replace p332 := eq_true p332; replace q332 := eq_true q332) | ((with_reducible refine gate_callee (f := 47) rfl ?_); refine goesL_ (some 89) rfl rfl Tryd.func47 (by kernel_rfl) rfl #[.slice A332_7 ((rd_T47 l0_2 x7_2).f7).length c332_7] rfl (au2) ?_; (with_reducible refine (capstanref05_Bytes.calls k2 _ _ ((rd_T47 l0_2 x7_2).f7) t333 t334 _ ?side1 ?side2 A30.out).mono ?_); (case side1 => repeat (first | exact (Kd.C_below HR332_7.out HB.out) | (with_reducible refine Kd.C_alloc ?_ _) | (with_reducible refine Kd.C_drewN ?_ _) | (with_reducible refine Kd.C_drew ?_))); (case side2 => exact HC332_7.out); rintro e w45 ⟨v335, rfl, ho0, hb⟩; refine ⟨_, rfl, ?_⟩; have n_ := sq_n5 (Kd.R_elder' (au13) (Kd.R_base ho0) hb) (Kd.R_elder' (au105) (Kd.R_base ho0) hb) (Kd.R_lower (Kd.R_new' (Kd.R_new' ho0 (Kd.R_lt (au13))) (Kd.R_lt (au105))) (below_size (au6))) (blk_below (au48) hb) (below_step (au6) hb); clear HO_4 HO330 BK312 HB; obtain ⟨HO_4, HO330, HO336, BK312, HB⟩ := n_; (try clear hb); (try clear ho0)))
       go_ret2
       exact ⟨_, au4, au27, au6⟩
      rw [if_pos c31] at H; have c31b0 := beq_iff_eq.mpr c31; have c31b1 := bne_eq_false_iff_eq.mpr c31; clear c31
      by_cases c32 : x4_2.length + t328.length < 140737488355328
      rotate_left
      · rw [if_neg c32] at H; exact absurd H (by simp)
      rw [if_pos c32] at H; have LMc32 := Aside0.mk c32; clear c32; obtain ⟨y337, Ny337, H⟩ := sq_y H
      by_cases c33 : y337.length + t333.length < 140737488355328
      rotate_left
      · rw [if_neg c33] at H; exact absurd H (by simp)
      rw [if_pos c33] at H; have LMc33 := Aside0.mk c33; clear c33; obtain ⟨y340, hy340⟩ : ∃ y_ : List Int, y_ = (y337 ++ t333) := ⟨_, rfl⟩; rw [← hy340] at H; have Ny340 := Aside0.mk hy340; clear hy340; have H' := Aside0.mk H; clear H; have hz34 := blk_all4 BK312.out; have p327 : 0 ≤ (x7_2 : Int) := of_decide_eq_true (au9); have q327 : x7_2 < (l0_2.length : Int) := of_decide_eq_true (au9); obtain ⟨ad327, A327_0, c327_0, A327_1, c327_1, A327_7, c327_7, e327, hx327_0, hx327_1, hx327_2, hx327_3, hx327_4, hx327_5, hx327_6, hx327_7, hl327_0, hi327_0, hl327_1, hi327_1, hl327_7, hi327_7⟩ := at_T47 HR0_2.out x7_2 p327 q327; cases e327; replace hx327_0 := sq_c HB hx327_0; replace hx327_1 := sq_c HB hx327_1; replace hx327_2 := sq_c HB hx327_2; replace hx327_3 := sq_c HB hx327_3; replace hx327_4 := sq_c HB hx327_4; replace hx327_5 := sq_c HB hx327_5; replace hx327_6 := sq_c HB hx327_6; replace hx327_7 := sq_c HB hx327_7; have HR327_0 := Aside0.mk hi327_0; have HC327_0 := Aside0.mk hl327_0; clear hi327_0 hl327_0; have HR327_1 := Aside0.mk hi327_1; have HC327_1 := Aside0.mk hl327_1; clear hi327_1 hl327_1; have HR327_7 := Aside0.mk hi327_7; have HC327_7 := Aside0.mk hl327_7; clear hi327_7 hl327_7; replace p327 := eq_true p327; replace q327 := eq_true q327
      go_wp2_with (first | ((with_reducible refine gate_callee (f := 46) rfl ?_); refine goesL_ (some 76) rfl rfl Tryd.func46 (by kernel_rfl) rfl #[.agg #[.slice A327_0 ((rd_T47 l0_2 x7_2).f0).length c327_0, .slice A327_1 ((rd_T47 l0_2 x7_2).f1).length c327_1, .int .u8 ((rd_T47 l0_2 x7_2).f2), .bool ((rd_T47 l0_2 x7_2).f3), .int .i64 ((rd_T47 l0_2 x7_2).f4), .int .i64 ((rd_T47 l0_2 x7_2).f5), .int .i64 ((rd_T47 l0_2 x7_2).f6), .slice A327_7 ((rd_T47 l0_2 x7_2).f7).length c327_7]] rfl (au2) ?_; (with_reducible refine (capstanref07_Bytes.calls k2 _ _ ((rd_T47 l0_2 x7_2).f0) _ _ ((rd_T47 l0_2 x7_2).f1) ((rd_T47 l0_2 x7_2).f2) ((rd_T47 l0_2 x7_2).f3) ((rd_T47 l0_2 x7_2).f4) ((rd_T47 l0_2 x7_2).f5) ((rd_T47 l0_2 x7_2).f6) _ _ ((rd_T47 l0_2 x7_2).f7) t328 t331 _ ?side1 ?side2 ?side3 ?side4 ?side5 ?side6 A28.out).mono ?_); (case side1 => exact au185); (case side2 => exact HC327_0.out); (case side3 => exact au186); (case side4 => exact HC327_1.out); (case side5 => exact au187); (case side6 => exact HC327_7.out); rintro e w35 ⟨v329, rfl, ho0, hb⟩; refine ⟨_, rfl, ?_⟩; have n_ := sq_n4 (Kd.R_elder' (au13) (Kd.R_base ho0) hb) (Kd.R_lower (Kd.R_new' ho0 (Kd.R_lt (au13))) (below_size (au6))) (blk_below (au48) hb) (below_step (au6) hb); clear HO_4 BK312 HB; obtain ⟨HO_4, HO330, BK312, HB⟩ := n_; (try clear hb); (try clear ho0); have hz36 := blk_all4 BK312.out; have p332 : 0 ≤ (x7_2 : Int) := of_decide_eq_true (au9); have q332 : x7_2 < (l0_2.length : Int) := of_decide_eq_true (au9); obtain ⟨ad332, A332_0, c332_0, A332_1, c332_1, A332_7, c332_7, e332, hx332_0, hx332_1, hx332_2, hx332_3, hx332_4, hx332_5, hx332_6, hx332_7, hl332_0, hi332_0, hl332_1, hi332_1, hl332_7, hi332_7⟩ := at_T47 HR0_2.out x7_2 p332 q332; obtain rfl : ad327 = ad332 := (by injection e332); replace hx332_0 := sq_c HB hx332_0; replace hx332_1 := sq_c HB hx332_1; replace hx332_2 := sq_c HB hx332_2; replace hx332_3 := sq_c HB hx332_3; replace hx332_4 := sq_c HB hx332_4; replace hx332_5 := sq_c HB hx332_5; replace hx332_6 := sq_c HB hx332_6; replace hx332_7 := sq_c HB hx332_7; have HR332_0 := Aside0.mk hi332_0; have HC332_0 := Aside0.mk hl332_0; clear hi332_0 hl332_0; have HR332_1 := Aside0.mk hi332_1; have HC332_1 := Aside0.mk hl332_1; clear hi332_1 hl332_1; have HR332_7 := Aside0.mk hi332_7; have HC332_7 := Aside0.mk hl332_7; clear hi332_7 hl332_7; replace p332 := eq_true p332; replace q332 := eq_true q332) | ((with_reducible refine gate_callee (f := 47) rfl ?_); refine goesL_ (some 89) rfl rfl Tryd.func47 (by kernel_rfl) rfl #[.slice A332_7 ((rd_T47 l0_2 x7_2).f7).length c332_7] rfl (au2) ?_; (with_reducible refine (capstanref05_Bytes.calls k2 _ _ ((rd_T47 l0_2 x7_2).f7) t333 t334 _ ?side1 ?side2 A30.out).mono ?_); (case side1 => repeat (first | exact (Kd.C_below HR332_7.out HB.out) | (with_reducible refine Kd.C_alloc ?_ _) | (with_reducible refine Kd.C_drewN ?_ _) | (with_reducible refine Kd.C_drew ?_))); (case side2 => exact HC332_7.out); rintro e w37 ⟨v335, rfl, ho0, hb⟩; refine ⟨_, rfl, ?_⟩; have n_ := sq_n5 (Kd.R_elder' (au13) (Kd.R_base ho0) hb) (Kd.R_elder' (au105) (Kd.R_base ho0) hb) (Kd.R_lower (Kd.R_new' (Kd.R_new' ho0 (Kd.R_lt (au13))) (Kd.R_lt (au105))) (below_size (au6))) (blk_below (au48) hb) (below_step (au6) hb); clear HO_4 HO330 BK312 HB; obtain ⟨HO_4, HO330, HO336, BK312, HB⟩ := n_; (try clear hb); (try clear ho0); obtain ⟨Ao39, co39, eo39⟩ := Kd.R_slice HO330.out; subst eo39) | ((with_reducible refine gate_builtin (b := .append) (xs := #[.tmp 95, .tmp 96]) rfl ?_); (try (refine gate_guard (by rfl) ?_; dsimp only)); at_builtin; refine Kd.R_append_rows (Kd.int .u8) (w0 := w) w.heap.size rfl (.tmp 95) (.tmp 96) 22 5 (.int .u8 0) 1 rfl Tryd.underlying22 info5 rfl (by decide) (by omega) u4 x4_2 t328 _ _ _ (fun k_ => some k_ ≠ (.slice Ao39 t328.length co39 : Value).ownBlock ∧ some k_ ≠ (v335 : Value).ownBlock) (fun _ => False) rfl rfl ?aO ?aR (fun _ _ h => h) (fun _ h => h.elim) ?aF ?aB ?aS ?aL ?_; (case aR => repeat (first | exact (Kd.R_reads' HO330.out).2.2 | (with_reducible refine Kd.C_alloc ?_ _) | (with_reducible refine Kd.C_drewN ?_ _) | (with_reducible refine Kd.C_drew ?_))); (case aB => exact (au6)); (case aF => exact (fun k_ hk => ⟨Kd.fresh' (Kd.R_lt (au105)) k_ hk, Kd.fresh' (Kd.R_lt (au195)) k_ hk⟩)); (case aO => exact (by (with_reducible repeat (first | apply Kd.R_alloc | apply Kd.R_drewN | apply Kd.R_drew)); first | exact Kd.R_mono HO_4.out (fun _ hk => ⟨hk.1.2, hk.2⟩) | exact Kd.R_mono (Kd.R_mono HO_4.out (fun _ hk => ⟨hk.1.2, hk.2⟩)) (fun _ h_ => h_.2))); (case aS => exact (below_size (au6))); (case aL => have := LMc32.out; omega); intro v338 w38 ho hb hg hat; rw [← Ny337.out] at ho; have n_ := sq_n5 (blk_grown (au48) hg (Kd.R_ne HO_4.out BK312.out (by decide))) (Kd.R_after (ok := (fun k_ => some k_ ≠ (v335 : Value).ownBlock)) (by (with_reducible repeat (first | apply Kd.R_alloc | apply Kd.R_drewN | apply Kd.R_drew)); first | exact Kd.R_mono HO330.out (fun _ hk => ⟨hk.2, hk.1.2⟩) | exact Kd.R_mono (Kd.R_mono HO330.out (fun _ hk => ⟨hk.2, hk.1.2⟩)) (fun _ h_ => h_.2)) hg hat) (Kd.R_after (ok := (fun k_ => some k_ ≠ (.slice Ao39 t328.length co39 : Value).ownBlock)) (by (with_reducible repeat (first | apply Kd.R_alloc | apply Kd.R_drewN | apply Kd.R_drew)); first | exact Kd.R_mono HO336.out (fun _ hk => ⟨hk.2, hk.1.2⟩) | exact Kd.R_mono (Kd.R_mono HO336.out (fun _ hk => ⟨hk.2, hk.1.2⟩)) (fun _ h_ => h_.2)) hg hat) hb ho; clear BK312 HO330 HO336 HB HO_4; obtain ⟨BK312, HO330, HO336, HB, HO339⟩ := n_; clear ho hb hg hat; obtain ⟨Ao41, co41, eo41⟩ := Kd.R_slice HO336.out; subst eo41) | ((with_reducible refine gate_builtin (b := .append) (xs := #[.tmp 98, .tmp 99]) rfl ?_); (try (refine gate_guard (by rfl) ?_; dsimp only)); at_builtin; refine Kd.R_append_rows (Kd.int .u8) (w0 := w) w.heap.size rfl (.tmp 98) (.tmp 99) 22 5 (.int .u8 0) 1 rfl Tryd.underlying22 info5 rfl (by decide) (by omega) v338 y337 t333 _ _ _ (fun k_ => some k_ ≠ (.slice Ao39 t328.length co39 : Value).ownBlock ∧ some k_ ≠ (.slice Ao41 t333.length co41 : Value).ownBlock) (fun _ => False) rfl rfl ?aO ?aR (fun _ _ h => h) (fun _ h => h.elim) ?aF ?aB ?aS ?aL ?_; (case aR => repeat (first | exact (Kd.R_reads' HO336.out).2.2 | (with_reducible refine Kd.C_alloc ?_ _) | (with_reducible refine Kd.C_drewN ?_ _) | (with_reducible refine Kd.C_drew ?_))); (case aB => exact (au6)); (case aF => exact (fun k_ hk => ⟨Kd.fresh' (Kd.R_lt (au105)) k_ hk, Kd.fresh' (Kd.R_lt (au195)) k_ hk⟩)); (case aO => exact (by (with_reducible repeat (first | apply Kd.R_alloc | apply Kd.R_drewN | apply Kd.R_drew)); first | exact HO339.out | exact Kd.R_mono (HO339.out) (fun _ h_ => h_.2))); (case aS => exact (below_size (au6))); (case aL => have := LMc33.out; omega); intro v341 w40 ho hb hg hat; rw [← Ny340.out] at ho; have n_ := sq_n5 (blk_grown (au48) hg (Kd.R_ne HO339.out BK312.out (by decide))) (Kd.R_after (ok := (fun k_ => some k_ ≠ (.slice Ao41 t333.length co41 : Value).ownBlock)) (au105) hg hat) (Kd.R_after (ok := (fun k_ => some k_ ≠ (.slice Ao39 t328.length co39 : Value).ownBlock)) (au195) hg hat) hb ho; clear BK312 HO330 HO336 HB HO339; obtain ⟨BK312, HO330, HO336, HB, HO342⟩ := n_; clear ho hb hg hat))
      go_roundg k2
      case measure => have := HJ1.out; have := HK2.out; omega
      case rel => exact ⟨(y340), (wrap64 (x7_2 + 1)), (au11), H', ⟨by have := HJ1.out; have := HK2.out; omega⟩, ⟨by (with_reducible repeat (first | apply Kd.R_alloc | apply Kd.R_drewN | apply Kd.R_drew)); first | exact Kd.R_mono HO342.out (fun _ hk => trivial) | exact Kd.R_mono (Kd.R_mono HO342.out (fun _ hk => trivial)) (fun _ h_ => h_.2)⟩, ⟨au48⟩, ⟨au6⟩⟩
/-! ### gauss_May: function 113 -/
/-- Both parts from -MaxPart to MaxPart. -/
def gauss_May.b (a b : Int) : Bool := decide (-1048576 ≤ a) && decide (a ≤ 1048576) && decide (-1048576 ≤ b) && decide (b ≤ 1048576)
set_option maxRecDepth 100000 in
set_option maxHeartbeats 1000000 in
theorem gauss_May.calls (a b : Int) (w : World) : Calls Tryd.prog 113 #[.agg #[.int .i64 a, .int .i64 b]] w fun e w' => e = .returned (.bool (gauss_May.b a b)) ∧ w' = w.alloc (.cells #[.int .i64 a, .int .i64 b] 148) := by
  have i0 : ∀ w : World, (Instr.index 148 (.agg #[.int .i64 a, .int .i64 b]) (.int .i64 0)).run Tryd.prog w = .ok (.int .i64 a) w := fun _ => by kernel_rfl
  have i1 : ∀ w : World, (Instr.index 148 (.agg #[.int .i64 a, .int .i64 b]) (.int .i64 1)).run Tryd.prog w = .ok (.int .i64 b) w := fun _ => by kernel_rfl
  go_enter Tryd.func113, Tryd.ntmps113
  go_wp2
  go_loop [4, 6] (fun v i => (i = .int .i64 0) ∨ (i = .int .i64 1 ∧ -1048576 ≤ a ∧ a ≤ 1048576) ∨ (i = .int .i64 2 ∧ -1048576 ≤ a ∧ a ≤ 1048576 ∧ -1048576 ≤ b ∧ b ≤ 1048576)) (fun _ i => 2 - (intOf i).toNat)
  case atStart => exact .inl rfl
  case round =>
    rcases hrel with rfl | ⟨rfl, h1, h2⟩ | ⟨rfl, h1, h2, h3, h4⟩
    · by_cases c1 : a < -1048576
      · have hf : gauss_May.b a b = false := by unfold gauss_May.b; simp; omega
        go_wp2; go_ret; exact ⟨rfl, rfl⟩
      by_cases c2 : a > 1048576
      · have hf : gauss_May.b a b = false := by unfold gauss_May.b; simp; omega
        go_wp2; go_ret; exact ⟨rfl, rfl⟩
      · go_wp2
        go_round
        case rel => exact .inr (.inl ⟨rfl, by omega, by omega⟩)
        case measure => simp [intOf]
    · by_cases c1 : b < -1048576
      · have hf : gauss_May.b a b = false := by unfold gauss_May.b; simp; omega
        go_wp2; go_ret; exact ⟨rfl, rfl⟩
      by_cases c2 : b > 1048576
      · have hf : gauss_May.b a b = false := by unfold gauss_May.b; simp; omega
        go_wp2; go_ret; exact ⟨rfl, rfl⟩
      · go_wp2
        go_round
        case rel => exact .inr (.inr ⟨rfl, by omega, by omega, by omega, by omega⟩)
        case measure => simp [intOf]
    · have hf : gauss_May.b a b = true := by unfold gauss_May.b; simp; omega
      go_wp2; go_ret; exact ⟨rfl, rfl⟩

/-! ### value_Pair: function 88 -/
def value_Pair.f (a0 : Int) (a1 : Int) : Option (Int × Int × Int × Bool) := if gauss_May.b a0 a1 = true then some (2, a0, a1, true) else some (0, 0, 0, false)
set_option maxHeartbeats 8000000 in
set_option maxRecDepth 100000 in
theorem value_Pair.calls (a0 : Int) (a1 : Int) (r1 : Int) (r2 : Int) (r3 : Int) (r4 : Bool) (w : World) (h : value_Pair.f a0 a1 = some (r1, r2, r3, r4)) :
    Calls Tryd.prog 88 #[.int .i64 a0, .int .i64 a1] w fun e w' => e = .returned (.tuple #[.agg #[.int .u8 r1, .int .i64 r2, .int .i64 r3], .bool r4]) ∧ Below w.heap.size w w' := by
  cases c : gauss_May.b a0 a1 with
  | true =>
    rw [value_Pair.f, if_pos c] at h
    simp only [Option.some.injEq, Prod.mk.injEq] at h
    obtain ⟨rfl, rfl, rfl, rfl⟩ := h; have HB := Aside0.mk (Below.refl w.heap.size w)
    go_enter Tryd.func88, Tryd.ntmps88
    go_wp2_with (go_at_call 113; (refine (gauss_May.calls a0 a1 _).mono ?_); rintro e w1 ⟨rfl, rfl⟩; (try simp only [c]))
    refine bodyPost_ret (v := .tuple #[.agg #[.int .u8 2, .int .i64 a0, .int .i64 a1], .bool true]) (by simp [results, Tryd.results88, go_sem]) rfl ⟨rfl, ?_⟩; exact below_alloc (below_alloc HB.out _) _
  | false =>
    rw [value_Pair.f, if_neg (by rw [c]; decide)] at h
    simp only [Option.some.injEq, Prod.mk.injEq] at h
    obtain ⟨rfl, rfl, rfl, rfl⟩ := h; have HB := Aside0.mk (Below.refl w.heap.size w)
    go_enter Tryd.func88, Tryd.ntmps88
    go_wp2_with (go_at_call 113; (refine (gauss_May.calls a0 a1 _).mono ?_); rintro e w1 ⟨rfl, rfl⟩; (try simp only [c]))
    refine bodyPost_ret (v := .tuple #[.agg #[.int .u8 0, .int .i64 0, .int .i64 0], .bool false]) (by simp [results, Tryd.results88, go_sem]) rfl ⟨rfl, ?_⟩; exact below_alloc (below_alloc HB.out _) _

/-! ### value_Int: function 89 -/
def value_Int.f (a0 : Int) : Option (Int × Int × Int) := some (1, a0, 0)
set_option maxHeartbeats 8000000 in
set_option maxRecDepth 100000 in
theorem value_Int.calls (a0 : Int) (r1 : Int) (r2 : Int) (r3 : Int) (w : World) (h : value_Int.f a0 = some (r1, r2, r3)) :
  Calls Tryd.prog 89 #[.int .i64 a0] w fun e w' => e = .returned (.agg #[.int .u8 r1, .int .i64 r2, .int .i64 r3]) ∧ Below w.heap.size w w' := by
 have hu73 := Tryd.underlying73; have HB := Aside0.mk (Below.refl w.heap.size w); have H : (some (1, a0, 0)) = some (r1, r2, r3) := h; clear h; simp only [Option.some.injEq, Prod.mk.injEq] at H; obtain ⟨rfl, rfl, rfl⟩ := H
 go_enter Tryd.func89, Tryd.ntmps89
 go_wp2_with (first | ((with_reducible refine gate_dst (N := 2) rfl ?_); refine sq_box (N := 2) (cs := #[.int .u8 0, .int .i64 0, .int .i64 0]) (t := 73) ?_; intro gb349 hg w2 hbox hb; have n_ := sq_n4 (below_step (au1) hb) hbox ((au26 : w.heap.size ≤ gb349)) ((au26 : w.heap.size ≤ gb349)); clear HB; obtain ⟨HB, BK349, GW349, GE349⟩ := n_; clear hb hbox hg; have hz3 := blk_all3 BK349.out))
 refine bodyPost_ret (results_cell_row rfl _ _ gb349 73 #[.int .u8 1, .int .i64 a0, .int .i64 0] (0, 0) _ rfl (by (with_reducible repeat (first | refine blk_drewN ?_ _ | refine blk_drew ?_ | refine blk_alloc ?_ _)); refine blk_put (cs := #[.int .u8 1, .int .i64 a0, .int .i64 0]) ?_ 2 _ rfl; (with_reducible repeat (first | refine blk_drewN ?_ _ | refine blk_drew ?_ | refine blk_alloc ?_ _)); refine blk_put (cs := #[.int .u8 1, .int .i64 0, .int .i64 0]) ?_ 1 _ rfl; (with_reducible repeat (first | refine blk_drewN ?_ _ | refine blk_drew ?_ | refine blk_alloc ?_ _)); refine blk_put (cs := #[.int .u8 0, .int .i64 0, .int .i64 0]) ?_ 0 _ rfl; (with_reducible repeat (first | refine blk_drewN ?_ _ | refine blk_drew ?_ | refine blk_alloc ?_ _)); exact BK349.out) Tryd.underlying73 rfl (by kernel_rfl)) rfl ?_; exact ⟨au4, by repeat (first | (with_reducible first | exact HB.out | apply below_alloc | apply pw_below_drewN | apply below_drew1 | refine below_set ?_ GE349.out) | exact HB.out | exact ⟨HB.out.os, HB.out.tape, HB.out.output, HB.out.size, HB.out.block⟩)⟩

end Go.Proofs.YthmjblmdbcmjcaaDoor.P
