/- Contracts of functions of this seat. -/
import Derived.Test.YthmjblmdbcmjcaaDoorP0
import Derived.Test.YthmjblmdbcmjcaaDoorP8
import Derived.Test.YthmjblmdbcmjcaaDoorP10
namespace Go.Proofs.YthmjblmdbcmjcaaDoor.P
open Go.RowKit Go.Proofs.YthmjblmdbcmjcaaDoorW.PrintWords Go.Proofs.YthmjblmdbcmjcaaDoorW.PrintLast Go.Proofs.YthmjblmdbcmjcaaDoorW.PrintMore
attribute [local go_sem] max2_int min2_int max_two min_two max_three min_three max_four min_four
set_option linter.unusedVariables false
set_option linter.unusedSimpArgs false

/-! ### capstanref07_Bytes: function 46 -/
def capstanref07_Bytes.f (k : Nat) (l0_0 : List Int) (l0_1 : List Int) (a0_2 : Int) (a0_3 : Bool) (a0_4 : Int) (a0_5 : Int) (a0_6 : Int) (l0_7 : List (S75)) : Option (List Int × Int) := (capstanref07_May.f k l0_0 l0_1 a0_2 a0_3 a0_4 a0_5 a0_6 l0_7).bind fun t222 => (if t222 = true then ((some (([((l0_0.length : Int)) % 256] : List Int) : List Int)).bind fun y223 => (if y223.length + l0_0.length < 140737488355328 then ((some (y223 ++ l0_0 : List Int)).bind fun y226 => (if y226.length < 140737488355328 then ((some (y226 ++ [((l0_1.length : Int)) % 256] : List Int)).bind fun y229 => (if y229.length + l0_1.length < 140737488355328 then ((some (y229 ++ l0_1 : List Int)).bind fun y232 => (if y232.length < 140737488355328 then ((some (y232 ++ [a0_2] : List Int)).bind fun y235 => (if a0_3 = true then (if y235.length < 140737488355328 then ((some (y235 ++ [1] : List Int)).bind fun y238 => ((capstanref01_Put.f k 3 a0_4).bind fun bt241 => ((capstanref01_Put.f k 2 a0_5).bind fun bt245 => ((capstanref01_Put.f k 2 a0_6).bind fun bt249 => (if y238.length + bt241.1.length < 140737488355328 then ((some (y238 ++ bt241.1 : List Int)).bind fun y253 => (if y253.length + bt245.1.length < 140737488355328 then ((some (y253 ++ bt245.1 : List Int)).bind fun y256 => (if y256.length + bt249.1.length < 140737488355328 then (some ((y256 ++ bt249.1), 0)) else (none))) else (none))) else (none)))))) else (none)) else (if y235.length < 140737488355328 then ((some (y235 ++ [0] : List Int)).bind fun y262 => ((capstanref01_Put.f k 3 a0_4).bind fun bt265 => ((capstanref01_Put.f k 2 a0_5).bind fun bt269 => ((capstanref01_Put.f k 2 a0_6).bind fun bt273 => (if y262.length + bt265.1.length < 140737488355328 then ((some (y262 ++ bt265.1 : List Int)).bind fun y277 => (if y277.length + bt269.1.length < 140737488355328 then ((some (y277 ++ bt269.1 : List Int)).bind fun y280 => (if y280.length + bt273.1.length < 140737488355328 then (some ((y280 ++ bt273.1), 0)) else (none))) else (none))) else (none)))))) else (none)))) else (none))) else (none))) else (none))) else (none))) else (some (([] : List Int), 70)))
theorem capstanref07_Bytes.mono : ∀ a0 a1 a2 a3 a4 a5 a6 a7 k, LeO (capstanref07_Bytes.f k a0 a1 a2 a3 a4 a5 a6 a7) (capstanref07_Bytes.f (k + 1) a0 a1 a2 a3 a4 a5 a6 a7) := by
 intro a0 a1 a2 a3 a4 a5 a6 a7 k
 unfold capstanref07_Bytes.f
 repeat' first | (with_reducible first | apply capstanref01_Put.mono | apply capstanref07_May.mono | apply LeO.refl | apply LeO.none | refine LeO.ite ?_ ?_ | refine LeO.bind ?_ (fun _ => ?_)) | apply capstanref01_Put.mono | apply capstanref07_May.mono | apply LeO.none | refine LeO.ite ?_ ?_ | refine LeO.bind ?_ (fun _ => ?_)
set_option maxHeartbeats 8000000 in
set_option maxRecDepth 100000 in
theorem capstanref07_Bytes.calls (k : Nat) (A0_0 : Option Addr) (c0_0 : Nat) (l0_0 : List Int) (A0_1 : Option Addr) (c0_1 : Nat) (l0_1 : List Int) (a0_2 : Int) (a0_3 : Bool) (a0_4 : Int) (a0_5 : Int) (a0_6 : Int) (A0_7 : Option Addr) (c0_7 : Nat) (l0_7 : List (S75)) (r1 : List Int) (r2 : Int) (w : World) (hr0_0 : Kd.C (Kd.int .u8) w A0_0 l0_0.length l0_0) (hc0_0 : l0_0.length ≤ c0_0) (hr0_1 : Kd.C (Kd.int .u8) w A0_1 l0_1.length l0_1) (hc0_1 : l0_1.length ≤ c0_1) (hr0_7 : Kd.C k75 w A0_7 l0_7.length l0_7) (hc0_7 : l0_7.length ≤ c0_7) (h : capstanref07_Bytes.f k l0_0 l0_1 a0_2 a0_3 a0_4 a0_5 a0_6 l0_7 = some (r1, r2)) :
  Calls Tryd.prog 46 #[.agg #[.slice A0_0 l0_0.length c0_0, .slice A0_1 l0_1.length c0_1, .int .u8 a0_2, .bool a0_3, .int .i64 a0_4, .int .i64 a0_5, .int .i64 a0_6, .slice A0_7 l0_7.length c0_7]] w fun e w' => ∃ v0_ : Value, e = .returned (.tuple #[v0_, .int .i64 r2]) ∧ Kd.R (Kd.int .u8) 5 w' w.heap.size (fun _ => True) v0_ r1 ∧ Below w.heap.size w w' := by
 have hu47 := Tryd.underlying47; have HR0_0 := Aside0.mk hr0_0; have HC0_0 := Aside0.mk hc0_0; clear hr0_0 hc0_0; have HR0_1 := Aside0.mk hr0_1; have HC0_1 := Aside0.mk hc0_1; clear hr0_1 hc0_1; have HR0_7 := Aside0.mk hr0_7; have HC0_7 := Aside0.mk hc0_7; clear hr0_7 hc0_7; have HB := Aside0.mk (Below.refl w.heap.size w); have H := h; unfold capstanref07_Bytes.f at H
 clear h; obtain ⟨t222, A2, H⟩ := sq_bind H
 by_cases c3 : t222 = true
 rotate_left
 ·
  replace c3 := Bool.eq_false_iff.mpr c3; subst c3
  rw [sq_f] at H; simp only [Option.some.injEq, Prod.mk.injEq] at H; obtain ⟨rfl, rfl⟩ := H
  go_enter Tryd.func46, Tryd.ntmps46
  go_wp2_with (first | ((with_reducible refine gate_dst (N := 1) rfl ?_); refine sq_box (N := 1) (cs := #[.slice A0_0 l0_0.length c0_0, .slice A0_1 l0_1.length c0_1, .int .u8 a0_2, .bool a0_3, .int .i64 a0_4, .int .i64 a0_5, .int .i64 a0_6, .slice A0_7 l0_7.length c0_7]) (t := 47) ?_; intro gb221 hg w79 hbox hb; have n_ := sq_n4 (below_step (au1) hb) hbox ((au26 : w.heap.size ≤ gb221)) ((au26 : w.heap.size ≤ gb221)); clear HB; obtain ⟨HB, BK221, GW221, GE221⟩ := n_; clear hb hbox hg; have hz80 := blk_all8 BK221.out) | ((with_reducible refine gate_callee (f := 81) rfl ?_); refine goesL_ (some 12) rfl rfl Tryd.func81 (by kernel_rfl) rfl #[.agg #[.slice A0_0 l0_0.length c0_0, .slice A0_1 l0_1.length c0_1, .int .u8 a0_2, .bool a0_3, .int .i64 a0_4, .int .i64 a0_5, .int .i64 a0_6, .slice A0_7 l0_7.length c0_7]] rfl (au2) ?_; (with_reducible refine (capstanref07_May.calls k _ _ l0_0 _ _ l0_1 a0_2 a0_3 a0_4 a0_5 a0_6 _ _ l0_7 false _ ?side1 ?side2 ?side3 ?side4 ?side5 ?side6 A2.out).mono ?_); (case side1 => exact au12); (case side2 => exact HC0_0.out); (case side3 => exact au30); (case side4 => exact HC0_1.out); (case side5 => exact au81); (case side6 => exact HC0_7.out); rintro e w81 ⟨rfl, hb⟩; refine ⟨_, rfl, ?_⟩; have n_ := sq_n2 (blk_below (au39) hb) (below_step (au5) hb); clear BK221 HB; obtain ⟨BK221, HB⟩ := n_; (try clear hb)))
  go_ret2
  exact ⟨_, au4, au27, au5⟩

 subst c3
 rw [if_pos rfl] at H; obtain ⟨y223, Ny223, H⟩ := sq_y H
 by_cases c4 : y223.length + l0_0.length < 140737488355328
 rotate_left
 · rw [if_neg c4] at H; exact absurd H (by simp)
 rw [if_pos c4] at H; have LMc4 := Aside0.mk c4; clear c4; obtain ⟨y226, Ny226, H⟩ := sq_y H
 by_cases c5 : y226.length < 140737488355328
 rotate_left
 · rw [if_neg c5] at H; exact absurd H (by simp)
 rw [if_pos c5] at H; have LMc5 := Aside0.mk c5; clear c5; obtain ⟨y229, Ny229, H⟩ := sq_y H
 by_cases c6 : y229.length + l0_1.length < 140737488355328
 rotate_left
 · rw [if_neg c6] at H; exact absurd H (by simp)
 rw [if_pos c6] at H; have LMc6 := Aside0.mk c6; clear c6; obtain ⟨y232, Ny232, H⟩ := sq_y H
 by_cases c7 : y232.length < 140737488355328
 rotate_left
 · rw [if_neg c7] at H; exact absurd H (by simp)
 rw [if_pos c7] at H; have LMc7 := Aside0.mk c7; clear c7; obtain ⟨y235, Ny235, H⟩ := sq_y H
 by_cases c8 : a0_3 = true
 ·
  subst c8
  rw [if_pos rfl] at H
  by_cases c9 : y235.length < 140737488355328
  rotate_left
  · rw [if_neg c9] at H; exact absurd H (by simp)
  rw [if_pos c9] at H; have LMc9 := Aside0.mk c9; clear c9; obtain ⟨y238, Ny238, H⟩ := sq_y H; obtain ⟨⟨t241, t242⟩, A10, H⟩ := sq_bind H; dsimp only at H; obtain ⟨⟨t245, t246⟩, A11, H⟩ := sq_bind H; dsimp only at H; obtain ⟨⟨t249, t250⟩, A12, H⟩ := sq_bind H; dsimp only at H
  by_cases c13 : y238.length + t241.length < 140737488355328
  rotate_left
  · rw [if_neg c13] at H; exact absurd H (by simp)
  rw [if_pos c13] at H; have LMc13 := Aside0.mk c13; clear c13; obtain ⟨y253, Ny253, H⟩ := sq_y H
  by_cases c14 : y253.length + t245.length < 140737488355328
  rotate_left
  · rw [if_neg c14] at H; exact absurd H (by simp)
  rw [if_pos c14] at H; have LMc14 := Aside0.mk c14; clear c14; obtain ⟨y256, Ny256, H⟩ := sq_y H
  by_cases c15 : y256.length + t249.length < 140737488355328
  rotate_left
  · rw [if_neg c15] at H; exact absurd H (by simp)
  rw [if_pos c15] at H; have LMc15 := Aside0.mk c15; clear c15; obtain ⟨y259, hy259⟩ : ∃ y_ : List Int, y_ = (y256 ++ t249) := ⟨_, rfl⟩
  replace H : (some (y259, 0)) = some (r1, r2) := by first | (rw [hy259]; with_reducible exact H) | (have H2_ := (Option.bind_some _ _).symm.trans H; rw [hy259]; with_reducible exact H2_) | (have H2_ := (Option.bind_some _ _).symm.trans H; with_reducible exact H2_) | with_reducible exact H | (rw [hy259]; exact H) | exact H
  have Ny259 := Aside0.mk hy259; clear hy259; simp only [Option.some.injEq, Prod.mk.injEq] at H; obtain ⟨rfl, rfl⟩ := H
  go_enter Tryd.func46, Tryd.ntmps46
  go_wp2_with (first | ((with_reducible refine gate_dst (N := 1) rfl ?_); refine sq_box (N := 1) (cs := #[.slice A0_0 l0_0.length c0_0, .slice A0_1 l0_1.length c0_1, .int .u8 a0_2, .bool true, .int .i64 a0_4, .int .i64 a0_5, .int .i64 a0_6, .slice A0_7 l0_7.length c0_7]) (t := 47) ?_; intro gb221 hg w16 hbox hb; have n_ := sq_n4 (below_step (au1) hb) hbox ((au26 : w.heap.size ≤ gb221)) ((au26 : w.heap.size ≤ gb221)); clear HB; obtain ⟨HB, BK221, GW221, GE221⟩ := n_; clear hb hbox hg; have hz17 := blk_all8 BK221.out) | ((with_reducible refine gate_callee (f := 81) rfl ?_); refine goesL_ (some 12) rfl rfl Tryd.func81 (by kernel_rfl) rfl #[.agg #[.slice A0_0 l0_0.length c0_0, .slice A0_1 l0_1.length c0_1, .int .u8 a0_2, .bool true, .int .i64 a0_4, .int .i64 a0_5, .int .i64 a0_6, .slice A0_7 l0_7.length c0_7]] rfl (au2) ?_; (with_reducible refine (capstanref07_May.calls k _ _ l0_0 _ _ l0_1 a0_2 true a0_4 a0_5 a0_6 _ _ l0_7 true _ ?side1 ?side2 ?side3 ?side4 ?side5 ?side6 A2.out).mono ?_); (case side1 => exact au12); (case side2 => exact HC0_0.out); (case side3 => exact au30); (case side4 => exact HC0_1.out); (case side5 => exact au81); (case side6 => exact HC0_7.out); rintro e w18 ⟨rfl, hb⟩; refine ⟨_, rfl, ?_⟩; have n_ := sq_n2 (blk_below (g := gb221) (o := .cells #[.slice A0_0 l0_0.length c0_0, .slice A0_1 l0_1.length c0_1, .int .u8 a0_2, .bool true, .int .i64 a0_4, .int .i64 a0_5, .int .i64 a0_6, .slice A0_7 l0_7.length c0_7] 47 (0, 0)) (au39) hb) (below_step (au5) hb); clear BK221 HB; obtain ⟨BK221, HB⟩ := n_; (try clear hb); have hz19 := blk_all8 BK221.out) | ((with_reducible refine gate_dst (N := 18) rfl ?_); refine Kd.R_lit (Kd.int .u8) _ 5 ?hg (N := 18) ?hd (xs := ([((l0_0.length : Int)) % 256] : List Int)) (inner := [.int .u8 (((l0_0.length : Int)) % 256)]) (ok := fun _ => True) (okp := fun _ => True) ?hr ?hp (fun _ hk => hk) trivial (Below.refl _ _) (Nat.le_refl _) (by simp) ?_; (case hd => rfl); (case hg => rfl); (case hr => first | (go_simp; done) | (go_simp; rfl)); (case hp => exact (Reps.one (show Kd.M (Kd.int .u8) _ _ _ (((l0_0.length : Int)) % 256) [.int .u8 (((l0_0.length : Int)) % 256)] from rfl) (Reps.none _ _))); intro v224 w20 ho21 hb hg_ hnew_; clear hg_ hnew_; (first | rw [← Ny223.out] at ho21 | (simp only [Int.reduceToNat] at ho21; rw [← Ny223.out] at ho21)); have n_ := sq_n3 (Kd.R_lower ho21 (below_size (au5))) (blk_below (g := gb221) (o := .cells #[.slice A0_0 l0_0.length c0_0, .slice A0_1 l0_1.length c0_1, .int .u8 a0_2, .bool true, .int .i64 a0_4, .int .i64 a0_5, .int .i64 a0_6, .slice A0_7 l0_7.length c0_7] 47 (0, 0)) (au39) hb) (below_step (au5) hb); clear BK221 HB; obtain ⟨HO225, BK221, HB⟩ := n_; clear hb ho21; have hz22 := blk_all8 BK221.out) | ((with_reducible refine gate_builtin (b := .append) (xs := #[.tmp 19, .tmp 21]) rfl ?_); at_builtin; refine Kd.R_append_rows (Kd.int .u8) (w0 := w) w.heap.size rfl (.tmp 19) (.tmp 21) 22 5 (.int .u8 0) 1 rfl Tryd.underlying22 info5 rfl (by decide) (by omega) v224 y223 l0_0 _ _ _ (fun _ => True) (fun _ => False) rfl rfl ?aO ?aR (fun _ _ h => h) (fun _ h => h.elim) ?aF ?aB ?aS ?aL ?_; (case aR => repeat (first | exact (Kd.C_below HR0_0.out HB.out) | (with_reducible refine Kd.C_alloc ?_ _) | (with_reducible refine Kd.C_drewN ?_ _) | (with_reducible refine Kd.C_drew ?_))); (case aB => exact (au5)); (case aF => exact (fun _ _ => trivial)); (case aO => exact (by (with_reducible repeat (first | apply Kd.R_alloc | apply Kd.R_drewN | apply Kd.R_drew)); first | exact HO225.out | exact Kd.R_mono (HO225.out) (fun _ h_ => h_.2))); (case aS => exact (below_size (au5))); (case aL => have := LMc4.out; omega); intro v227 w23 ho hb hg hat; rw [← Ny226.out] at ho; have n_ := sq_n3 (blk_grown (g := gb221) (o := .cells #[.slice A0_0 l0_0.length c0_0, .slice A0_1 l0_1.length c0_1, .int .u8 a0_2, .bool true, .int .i64 a0_4, .int .i64 a0_5, .int .i64 a0_6, .slice A0_7 l0_7.length c0_7] 47 (0, 0)) (au39) hg (Kd.R_ne HO225.out BK221.out (by decide))) hb ho; clear BK221 HB HO225; obtain ⟨BK221, HB, HO228⟩ := n_; clear ho hb hg hat; have hz24 := blk_all8 BK221.out) | ((with_reducible refine gate_builtin (b := .append) (xs := #[.tmp 23, .tmp 28]) rfl ?_); at_builtin; refine Kd.R_append (Kd.int .u8) (w0 := w) w.heap.size rfl (.tmp 23) (.tmp 28) 22 5 (.int .u8 0) 1 rfl Tryd.underlying22 info5 rfl (by decide) (by omega) v227 y226 (((l0_1.length : Int)) % 256) [.int .u8 (((l0_1.length : Int)) % 256)] (fun _ => True) (fun _ => False) rfl rfl ?aP (fun _ hk => hk.elim) ?aF ?aO ?aB ?aS ?aL ?_; (case aP => exact rfl); (case aB => exact (au5)); (case aF => exact (fun _ _ => trivial)); (case aO => exact (by (with_reducible repeat (first | apply Kd.R_alloc | apply Kd.R_drewN | apply Kd.R_drew)); first | exact HO228.out | exact Kd.R_mono (HO228.out) (fun _ h_ => h_.2))); (case aS => exact (below_size (au5))); (case aL => have := LMc5.out; omega); intro v230 w25 ho hb hg hat; rw [← Ny229.out] at ho; have n_ := sq_n3 (blk_grown (g := gb221) (o := .cells #[.slice A0_0 l0_0.length c0_0, .slice A0_1 l0_1.length c0_1, .int .u8 a0_2, .bool true, .int .i64 a0_4, .int .i64 a0_5, .int .i64 a0_6, .slice A0_7 l0_7.length c0_7] 47 (0, 0)) (au39) hg (Kd.R_ne HO228.out BK221.out (by decide))) hb ho; clear BK221 HB HO228; obtain ⟨BK221, HB, HO231⟩ := n_; clear ho hb hg hat; have hz26 := blk_all8 BK221.out) | ((with_reducible refine gate_builtin (b := .append) (xs := #[.tmp 30, .tmp 32]) rfl ?_); at_builtin; refine Kd.R_append_rows (Kd.int .u8) (w0 := w) w.heap.size rfl (.tmp 30) (.tmp 32) 22 5 (.int .u8 0) 1 rfl Tryd.underlying22 info5 rfl (by decide) (by omega) v230 y229 l0_1 _ _ _ (fun _ => True) (fun _ => False) rfl rfl ?aO ?aR (fun _ _ h => h) (fun _ h => h.elim) ?aF ?aB ?aS ?aL ?_; (case aR => repeat (first | exact (Kd.C_below HR0_1.out HB.out) | (with_reducible refine Kd.C_alloc ?_ _) | (with_reducible refine Kd.C_drewN ?_ _) | (with_reducible refine Kd.C_drew ?_))); (case aB => exact (au5)); (case aF => exact (fun _ _ => trivial)); (case aO => exact (by (with_reducible repeat (first | apply Kd.R_alloc | apply Kd.R_drewN | apply Kd.R_drew)); first | exact HO231.out | exact Kd.R_mono (HO231.out) (fun _ h_ => h_.2))); (case aS => exact (below_size (au5))); (case aL => have := LMc6.out; omega); intro v233 w27 ho hb hg hat; rw [← Ny232.out] at ho; have n_ := sq_n3 (blk_grown (g := gb221) (o := .cells #[.slice A0_0 l0_0.length c0_0, .slice A0_1 l0_1.length c0_1, .int .u8 a0_2, .bool true, .int .i64 a0_4, .int .i64 a0_5, .int .i64 a0_6, .slice A0_7 l0_7.length c0_7] 47 (0, 0)) (au39) hg (Kd.R_ne HO231.out BK221.out (by decide))) hb ho; clear BK221 HB HO231; obtain ⟨BK221, HB, HO234⟩ := n_; clear ho hb hg hat; have hz28 := blk_all8 BK221.out) | ((with_reducible refine gate_builtin (b := .append) (xs := #[.tmp 34, .tmp 37]) rfl ?_); at_builtin; refine Kd.R_append (Kd.int .u8) (w0 := w) w.heap.size rfl (.tmp 34) (.tmp 37) 22 5 (.int .u8 0) 1 rfl Tryd.underlying22 info5 rfl (by decide) (by omega) v233 y232 a0_2 [.int .u8 a0_2] (fun _ => True) (fun _ => False) rfl rfl ?aP (fun _ hk => hk.elim) ?aF ?aO ?aB ?aS ?aL ?_; (case aP => exact rfl); (case aB => exact (au5)); (case aF => exact (fun _ _ => trivial)); (case aO => exact (by (with_reducible repeat (first | apply Kd.R_alloc | apply Kd.R_drewN | apply Kd.R_drew)); first | exact HO234.out | exact Kd.R_mono (HO234.out) (fun _ h_ => h_.2))); (case aS => exact (below_size (au5))); (case aL => have := LMc7.out; omega); intro v236 w29 ho hb hg hat; rw [← Ny235.out] at ho; have n_ := sq_n3 (blk_grown (g := gb221) (o := .cells #[.slice A0_0 l0_0.length c0_0, .slice A0_1 l0_1.length c0_1, .int .u8 a0_2, .bool true, .int .i64 a0_4, .int .i64 a0_5, .int .i64 a0_6, .slice A0_7 l0_7.length c0_7] 47 (0, 0)) (au39) hg (Kd.R_ne HO234.out BK221.out (by decide))) hb ho; clear BK221 HB HO234; obtain ⟨BK221, HB, HO237⟩ := n_; clear ho hb hg hat; have hz30 := blk_all8 BK221.out) | ((with_reducible refine gate_builtin (b := .append) (xs := #[.tmp 41, .tmp 42]) rfl ?_); at_builtin; refine Kd.R_append (Kd.int .u8) (w0 := w) w.heap.size rfl (.tmp 41) (.tmp 42) 22 5 (.int .u8 0) 1 rfl Tryd.underlying22 info5 rfl (by decide) (by omega) v236 y235 1 [.int .u8 1] (fun _ => True) (fun _ => False) rfl rfl ?aP (fun _ hk => hk.elim) ?aF ?aO ?aB ?aS ?aL ?_; (case aP => exact rfl); (case aB => exact (au5)); (case aF => exact (fun _ _ => trivial)); (case aO => exact (by (with_reducible repeat (first | apply Kd.R_alloc | apply Kd.R_drewN | apply Kd.R_drew)); first | exact HO237.out | exact Kd.R_mono (HO237.out) (fun _ h_ => h_.2))); (case aS => exact (below_size (au5))); (case aL => have := LMc9.out; omega); intro v239 w31 ho hb hg hat; rw [← Ny238.out] at ho; have n_ := sq_n3 (blk_grown (g := gb221) (o := .cells #[.slice A0_0 l0_0.length c0_0, .slice A0_1 l0_1.length c0_1, .int .u8 a0_2, .bool true, .int .i64 a0_4, .int .i64 a0_5, .int .i64 a0_6, .slice A0_7 l0_7.length c0_7] 47 (0, 0)) (au39) hg (Kd.R_ne HO237.out BK221.out (by decide))) hb ho; clear BK221 HB HO237; obtain ⟨BK221, HB, HO240⟩ := n_; clear ho hb hg hat; have hz32 := blk_all8 BK221.out) | ((with_reducible refine gate_callee (f := 82) rfl ?_); refine goesL_ (some 50) rfl rfl Tryd.func82 (by kernel_rfl) rfl #[.int .i64 3, .int .i64 a0_4] rfl (au2) ?_; (with_reducible refine (capstanref01_Put.calls k 3 a0_4 t241 t242 _ A10.out).mono ?_); rintro e w33 ⟨v243, rfl, ho0, hb⟩; refine ⟨_, rfl, ?_⟩; have n_ := sq_n4 (Kd.R_elder' (au117) (Kd.R_base ho0) hb) (Kd.R_lower (Kd.R_new' ho0 (Kd.R_lt (au117))) (below_size (au5))) (blk_below (g := gb221) (o := .cells #[.slice A0_0 l0_0.length c0_0, .slice A0_1 l0_1.length c0_1, .int .u8 a0_2, .bool true, .int .i64 a0_4, .int .i64 a0_5, .int .i64 a0_6, .slice A0_7 l0_7.length c0_7] 47 (0, 0)) (au39) hb) (below_step (au5) hb); clear HO240 BK221 HB; obtain ⟨HO240, HO244, BK221, HB⟩ := n_; (try clear hb); (try clear ho0); have hz34 := blk_all8 BK221.out) | ((with_reducible refine gate_callee (f := 82) rfl ?_); refine goesL_ (some 56) rfl rfl Tryd.func82 (by kernel_rfl) rfl #[.int .i64 2, .int .i64 a0_5] rfl (au2) ?_; (with_reducible refine (capstanref01_Put.calls k 2 a0_5 t245 t246 _ A11.out).mono ?_); rintro e w35 ⟨v247, rfl, ho0, hb⟩; refine ⟨_, rfl, ?_⟩; have n_ := sq_n5 (Kd.R_elder' (au117) (Kd.R_base ho0) hb) (Kd.R_elder' (au87) (Kd.R_base ho0) hb) (Kd.R_lower (Kd.R_new' (Kd.R_new' ho0 (Kd.R_lt (au117))) (Kd.R_lt (au87))) (below_size (au5))) (blk_below (g := gb221) (o := .cells #[.slice A0_0 l0_0.length c0_0, .slice A0_1 l0_1.length c0_1, .int .u8 a0_2, .bool true, .int .i64 a0_4, .int .i64 a0_5, .int .i64 a0_6, .slice A0_7 l0_7.length c0_7] 47 (0, 0)) (au39) hb) (below_step (au5) hb); clear HO240 HO244 BK221 HB; obtain ⟨HO240, HO244, HO248, BK221, HB⟩ := n_; (try clear hb); (try clear ho0); have hz36 := blk_all8 BK221.out) | ((with_reducible refine gate_callee (f := 82) rfl ?_); refine goesL_ (some 62) rfl rfl Tryd.func82 (by kernel_rfl) rfl #[.int .i64 2, .int .i64 a0_6] rfl (au2) ?_; (with_reducible refine (capstanref01_Put.calls k 2 a0_6 t249 t250 _ A12.out).mono ?_); rintro e w37 ⟨v251, rfl, ho0, hb⟩; refine ⟨_, rfl, ?_⟩; have n_ := sq_n6 (Kd.R_elder' (au117) (Kd.R_base ho0) hb) (Kd.R_elder' (au87) (Kd.R_base ho0) hb) (Kd.R_elder' (au103) (Kd.R_base ho0) hb) (Kd.R_lower (Kd.R_new' (Kd.R_new' (Kd.R_new' ho0 (Kd.R_lt (au117))) (Kd.R_lt (au87))) (Kd.R_lt (au103))) (below_size (au5))) (blk_below (g := gb221) (o := .cells #[.slice A0_0 l0_0.length c0_0, .slice A0_1 l0_1.length c0_1, .int .u8 a0_2, .bool true, .int .i64 a0_4, .int .i64 a0_5, .int .i64 a0_6, .slice A0_7 l0_7.length c0_7] 47 (0, 0)) (au39) hb) (below_step (au5) hb); clear HO240 HO244 HO248 BK221 HB; obtain ⟨HO240, HO244, HO248, HO252, BK221, HB⟩ := n_; (try clear hb); (try clear ho0); obtain ⟨Ao39, co39, eo39⟩ := Kd.R_slice HO244.out; subst eo39) | ((with_reducible refine gate_builtin (b := .append) (xs := #[.tmp 65, .tmp 66]) rfl ?_); at_builtin; refine Kd.R_append_rows (Kd.int .u8) (w0 := w) w.heap.size rfl (.tmp 65) (.tmp 66) 22 5 (.int .u8 0) 1 rfl Tryd.underlying22 info5 rfl (by decide) (by omega) v239 y238 t241 _ _ _ (fun k_ => some k_ ≠ (.slice Ao39 t241.length co39 : Value).ownBlock ∧ some k_ ≠ (v247 : Value).ownBlock ∧ some k_ ≠ (v251 : Value).ownBlock) (fun _ => False) rfl rfl ?aO ?aR (fun _ _ h => h) (fun _ h => h.elim) ?aF ?aB ?aS ?aL ?_; (case aR => repeat (first | exact (Kd.R_reads' HO244.out).2.2 | (with_reducible refine Kd.C_alloc ?_ _) | (with_reducible refine Kd.C_drewN ?_ _) | (with_reducible refine Kd.C_drew ?_))); (case aB => exact (au5)); (case aF => exact (fun k_ hk => ⟨Kd.fresh' (Kd.R_lt (au87)) k_ hk, Kd.fresh' (Kd.R_lt (au103)) k_ hk, Kd.fresh' (Kd.R_lt (au129)) k_ hk⟩)); (case aO => exact (by (with_reducible repeat (first | apply Kd.R_alloc | apply Kd.R_drewN | apply Kd.R_drew)); first | exact Kd.R_mono HO240.out (fun _ hk => ⟨hk.1.1.2, ⟨hk.1.2, hk.2⟩⟩) | exact Kd.R_mono (Kd.R_mono HO240.out (fun _ hk => ⟨hk.1.1.2, ⟨hk.1.2, hk.2⟩⟩)) (fun _ h_ => h_.2))); (case aS => exact (below_size (au5))); (case aL => have := LMc13.out; omega); intro v254 w38 ho hb hg hat; rw [← Ny253.out] at ho; have n_ := sq_n6 (blk_grown (g := gb221) (o := .cells #[.slice A0_0 l0_0.length c0_0, .slice A0_1 l0_1.length c0_1, .int .u8 a0_2, .bool true, .int .i64 a0_4, .int .i64 a0_5, .int .i64 a0_6, .slice A0_7 l0_7.length c0_7] 47 (0, 0)) (au39) hg (Kd.R_ne HO240.out BK221.out (by decide))) (Kd.R_after (ok := (fun k_ => some k_ ≠ (v247 : Value).ownBlock ∧ some k_ ≠ (v251 : Value).ownBlock)) (by (with_reducible repeat (first | apply Kd.R_alloc | apply Kd.R_drewN | apply Kd.R_drew)); first | exact Kd.R_mono HO244.out (fun _ hk => ⟨⟨hk.1.2, hk.2⟩, hk.1.1.2⟩) | exact Kd.R_mono (Kd.R_mono HO244.out (fun _ hk => ⟨⟨hk.1.2, hk.2⟩, hk.1.1.2⟩)) (fun _ h_ => h_.2)) hg hat) (Kd.R_after (ok := (fun k_ => some k_ ≠ (.slice Ao39 t241.length co39 : Value).ownBlock ∧ some k_ ≠ (v251 : Value).ownBlock)) (by (with_reducible repeat (first | apply Kd.R_alloc | apply Kd.R_drewN | apply Kd.R_drew)); first | exact Kd.R_mono HO248.out (fun _ hk => ⟨⟨hk.1.2, hk.2⟩, hk.1.1.2⟩) | exact Kd.R_mono (Kd.R_mono HO248.out (fun _ hk => ⟨⟨hk.1.2, hk.2⟩, hk.1.1.2⟩)) (fun _ h_ => h_.2)) hg hat) (Kd.R_after (ok := (fun k_ => some k_ ≠ (.slice Ao39 t241.length co39 : Value).ownBlock ∧ some k_ ≠ (v247 : Value).ownBlock)) (by (with_reducible repeat (first | apply Kd.R_alloc | apply Kd.R_drewN | apply Kd.R_drew)); first | exact Kd.R_mono HO252.out (fun _ hk => ⟨⟨hk.1.2, hk.2⟩, hk.1.1.2⟩) | exact Kd.R_mono (Kd.R_mono HO252.out (fun _ hk => ⟨⟨hk.1.2, hk.2⟩, hk.1.1.2⟩)) (fun _ h_ => h_.2)) hg hat) hb ho; clear BK221 HO244 HO248 HO252 HB HO240; obtain ⟨BK221, HO244, HO248, HO252, HB, HO255⟩ := n_; clear ho hb hg hat; obtain ⟨Ao41, co41, eo41⟩ := Kd.R_slice HO248.out; subst eo41) | ((with_reducible refine gate_builtin (b := .append) (xs := #[.tmp 68, .tmp 69]) rfl ?_); at_builtin; refine Kd.R_append_rows (Kd.int .u8) (w0 := w) w.heap.size rfl (.tmp 68) (.tmp 69) 22 5 (.int .u8 0) 1 rfl Tryd.underlying22 info5 rfl (by decide) (by omega) v254 y253 t245 _ _ _ (fun k_ => some k_ ≠ (.slice Ao39 t241.length co39 : Value).ownBlock ∧ some k_ ≠ (.slice Ao41 t245.length co41 : Value).ownBlock ∧ some k_ ≠ (v251 : Value).ownBlock) (fun _ => False) rfl rfl ?aO ?aR (fun _ _ h => h) (fun _ h => h.elim) ?aF ?aB ?aS ?aL ?_; (case aR => repeat (first | exact (Kd.R_reads' HO248.out).2.2 | (with_reducible refine Kd.C_alloc ?_ _) | (with_reducible refine Kd.C_drewN ?_ _) | (with_reducible refine Kd.C_drew ?_))); (case aB => exact (au5)); (case aF => exact (fun k_ hk => ⟨Kd.fresh' (Kd.R_lt (au87)) k_ hk, Kd.fresh' (Kd.R_lt (au103)) k_ hk, Kd.fresh' (Kd.R_lt (au129)) k_ hk⟩)); (case aO => exact (by (with_reducible repeat (first | apply Kd.R_alloc | apply Kd.R_drewN | apply Kd.R_drew)); first | exact HO255.out | exact Kd.R_mono (HO255.out) (fun _ h_ => h_.2))); (case aS => exact (below_size (au5))); (case aL => have := LMc14.out; omega); intro v257 w40 ho hb hg hat; rw [← Ny256.out] at ho; have n_ := sq_n6 (blk_grown (g := gb221) (o := .cells #[.slice A0_0 l0_0.length c0_0, .slice A0_1 l0_1.length c0_1, .int .u8 a0_2, .bool true, .int .i64 a0_4, .int .i64 a0_5, .int .i64 a0_6, .slice A0_7 l0_7.length c0_7] 47 (0, 0)) (au39) hg (Kd.R_ne HO255.out BK221.out (by decide))) (Kd.R_after (ok := (fun k_ => some k_ ≠ (.slice Ao41 t245.length co41 : Value).ownBlock ∧ some k_ ≠ (v251 : Value).ownBlock)) (au87) hg hat) (Kd.R_after (ok := (fun k_ => some k_ ≠ (.slice Ao39 t241.length co39 : Value).ownBlock ∧ some k_ ≠ (v251 : Value).ownBlock)) (au103) hg hat) (Kd.R_after (ok := (fun k_ => some k_ ≠ (.slice Ao39 t241.length co39 : Value).ownBlock ∧ some k_ ≠ (.slice Ao41 t245.length co41 : Value).ownBlock)) (au129) hg hat) hb ho; clear BK221 HO244 HO248 HO252 HB HO255; obtain ⟨BK221, HO244, HO248, HO252, HB, HO258⟩ := n_; clear ho hb hg hat; obtain ⟨Ao43, co43, eo43⟩ := Kd.R_slice HO252.out; subst eo43) | ((with_reducible refine gate_builtin (b := .append) (xs := #[.tmp 71, .tmp 72]) rfl ?_); at_builtin; refine Kd.R_append_rows (Kd.int .u8) (w0 := w) w.heap.size rfl (.tmp 71) (.tmp 72) 22 5 (.int .u8 0) 1 rfl Tryd.underlying22 info5 rfl (by decide) (by omega) v257 y256 t249 _ _ _ (fun k_ => some k_ ≠ (.slice Ao39 t241.length co39 : Value).ownBlock ∧ some k_ ≠ (.slice Ao41 t245.length co41 : Value).ownBlock ∧ some k_ ≠ (.slice Ao43 t249.length co43 : Value).ownBlock) (fun _ => False) rfl rfl ?aO ?aR (fun _ _ h => h) (fun _ h => h.elim) ?aF ?aB ?aS ?aL ?_; (case aR => repeat (first | exact (Kd.R_reads' HO252.out).2.2 | (with_reducible refine Kd.C_alloc ?_ _) | (with_reducible refine Kd.C_drewN ?_ _) | (with_reducible refine Kd.C_drew ?_))); (case aB => exact (au5)); (case aF => exact (fun k_ hk => ⟨Kd.fresh' (Kd.R_lt (au87)) k_ hk, Kd.fresh' (Kd.R_lt (au103)) k_ hk, Kd.fresh' (Kd.R_lt (au129)) k_ hk⟩)); (case aO => exact (by (with_reducible repeat (first | apply Kd.R_alloc | apply Kd.R_drewN | apply Kd.R_drew)); first | exact HO258.out | exact Kd.R_mono (HO258.out) (fun _ h_ => h_.2))); (case aS => exact (below_size (au5))); (case aL => have := LMc15.out; omega); intro v260 w42 ho hb hg hat; rw [← Ny259.out] at ho; have n_ := sq_n6 (blk_grown (g := gb221) (o := .cells #[.slice A0_0 l0_0.length c0_0, .slice A0_1 l0_1.length c0_1, .int .u8 a0_2, .bool true, .int .i64 a0_4, .int .i64 a0_5, .int .i64 a0_6, .slice A0_7 l0_7.length c0_7] 47 (0, 0)) (au39) hg (Kd.R_ne HO258.out BK221.out (by decide))) (Kd.R_after (ok := (fun k_ => some k_ ≠ (.slice Ao41 t245.length co41 : Value).ownBlock ∧ some k_ ≠ (.slice Ao43 t249.length co43 : Value).ownBlock)) (au87) hg hat) (Kd.R_after (ok := (fun k_ => some k_ ≠ (.slice Ao39 t241.length co39 : Value).ownBlock ∧ some k_ ≠ (.slice Ao43 t249.length co43 : Value).ownBlock)) (au103) hg hat) (Kd.R_after (ok := (fun k_ => some k_ ≠ (.slice Ao39 t241.length co39 : Value).ownBlock ∧ some k_ ≠ (.slice Ao41 t245.length co41 : Value).ownBlock)) (au129) hg hat) hb ho; clear BK221 HO244 HO248 HO252 HB HO258; obtain ⟨BK221, HO244, HO248, HO252, HB, HO261⟩ := n_; clear ho hb hg hat))
  go_ret2
  exact ⟨_, au4, by (with_reducible repeat (first | apply Kd.R_alloc | apply Kd.R_drewN | apply Kd.R_drew)); first | exact Kd.R_mono HO261.out (fun _ hk => trivial) | exact Kd.R_mono (Kd.R_mono HO261.out (fun _ hk => trivial)) (fun _ h_ => h_.2), au5⟩
 ·
  replace c8 := Bool.eq_false_iff.mpr c8; subst c8
  rw [sq_f] at H
  by_cases c44 : y235.length < 140737488355328
  rotate_left
  · rw [if_neg c44] at H; exact absurd H (by simp)
  rw [if_pos c44] at H; have LMc44 := Aside0.mk c44; clear c44; obtain ⟨y262, Ny262, H⟩ := sq_y H; obtain ⟨⟨t265, t266⟩, A45, H⟩ := sq_bind H; dsimp only at H; obtain ⟨⟨t269, t270⟩, A46, H⟩ := sq_bind H; dsimp only at H; obtain ⟨⟨t273, t274⟩, A47, H⟩ := sq_bind H; dsimp only at H
  by_cases c48 : y262.length + t265.length < 140737488355328
  rotate_left
  · rw [if_neg c48] at H; exact absurd H (by simp)
  rw [if_pos c48] at H; have LMc48 := Aside0.mk c48; clear c48; obtain ⟨y277, Ny277, H⟩ := sq_y H
  by_cases c49 : y277.length + t269.length < 140737488355328
  rotate_left
  · rw [if_neg c49] at H; exact absurd H (by simp)
  rw [if_pos c49] at H; have LMc49 := Aside0.mk c49; clear c49; obtain ⟨y280, Ny280, H⟩ := sq_y H
  by_cases c50 : y280.length + t273.length < 140737488355328
  rotate_left
  · rw [if_neg c50] at H; exact absurd H (by simp)
  rw [if_pos c50] at H; have LMc50 := Aside0.mk c50; clear c50; obtain ⟨y283, hy283⟩ : ∃ y_ : List Int, y_ = (y280 ++ t273) := ⟨_, rfl⟩
  replace H : (some (y283, 0)) = some (r1, r2) := by first | (rw [hy283]; with_reducible exact H) | (have H2_ := (Option.bind_some _ _).symm.trans H; rw [hy283]; with_reducible exact H2_) | (have H2_ := (Option.bind_some _ _).symm.trans H; with_reducible exact H2_) | with_reducible exact H | (rw [hy283]; exact H) | exact H
  have Ny283 := Aside0.mk hy283; clear hy283; simp only [Option.some.injEq, Prod.mk.injEq] at H; obtain ⟨rfl, rfl⟩ := H
  go_enter Tryd.func46, Tryd.ntmps46
  go_wp2_with (first | ((with_reducible refine gate_dst (N := 1) rfl ?_); refine sq_box (N := 1) (cs := #[.slice A0_0 l0_0.length c0_0, .slice A0_1 l0_1.length c0_1, .int .u8 a0_2, .bool false, .int .i64 a0_4, .int .i64 a0_5, .int .i64 a0_6, .slice A0_7 l0_7.length c0_7]) (t := 47) ?_; intro gb221 hg w51 hbox hb; have n_ := sq_n4 (below_step (au1) hb) hbox ((au26 : w.heap.size ≤ gb221)) ((au26 : w.heap.size ≤ gb221)); clear HB; obtain ⟨HB, BK221, GW221, GE221⟩ := n_; clear hb hbox hg; have hz52 := blk_all8 BK221.out) | ((with_reducible refine gate_callee (f := 81) rfl ?_); refine goesL_ (some 12) rfl rfl Tryd.func81 (by kernel_rfl) rfl #[.agg #[.slice A0_0 l0_0.length c0_0, .slice A0_1 l0_1.length c0_1, .int .u8 a0_2, .bool false, .int .i64 a0_4, .int .i64 a0_5, .int .i64 a0_6, .slice A0_7 l0_7.length c0_7]] rfl (au2) ?_; (with_reducible refine (capstanref07_May.calls k _ _ l0_0 _ _ l0_1 a0_2 false a0_4 a0_5 a0_6 _ _ l0_7 true _ ?side1 ?side2 ?side3 ?side4 ?side5 ?side6 A2.out).mono ?_); (case side1 => exact au12); (case side2 => exact HC0_0.out); (case side3 => exact au30); (case side4 => exact HC0_1.out); (case side5 => exact au81); (case side6 => exact HC0_7.out); rintro e w53 ⟨rfl, hb⟩; refine ⟨_, rfl, ?_⟩; have n_ := sq_n2 (blk_below (g := gb221) (o := .cells #[.slice A0_0 l0_0.length c0_0, .slice A0_1 l0_1.length c0_1, .int .u8 a0_2, .bool false, .int .i64 a0_4, .int .i64 a0_5, .int .i64 a0_6, .slice A0_7 l0_7.length c0_7] 47 (0, 0)) (au39) hb) (below_step (au5) hb); clear BK221 HB; obtain ⟨BK221, HB⟩ := n_; (try clear hb); have hz54 := blk_all8 BK221.out) | ((with_reducible refine gate_dst (N := 18) rfl ?_); refine Kd.R_lit (Kd.int .u8) _ 5 ?hg (N := 18) ?hd (xs := ([((l0_0.length : Int)) % 256] : List Int)) (inner := [.int .u8 (((l0_0.length : Int)) % 256)]) (ok := fun _ => True) (okp := fun _ => True) ?hr ?hp (fun _ hk => hk) trivial (Below.refl _ _) (Nat.le_refl _) (by simp) ?_; (case hd => rfl); (case hg => rfl); (case hr => first | (go_simp; done) | (go_simp; rfl)); (case hp => exact (Reps.one (show Kd.M (Kd.int .u8) _ _ _ (((l0_0.length : Int)) % 256) [.int .u8 (((l0_0.length : Int)) % 256)] from rfl) (Reps.none _ _))); intro v224 w55 ho56 hb hg_ hnew_; clear hg_ hnew_; (first | rw [← Ny223.out] at ho56 | (simp only [Int.reduceToNat] at ho56; rw [← Ny223.out] at ho56)); have n_ := sq_n3 (Kd.R_lower ho56 (below_size (au5))) (blk_below (g := gb221) (o := .cells #[.slice A0_0 l0_0.length c0_0, .slice A0_1 l0_1.length c0_1, .int .u8 a0_2, .bool false, .int .i64 a0_4, .int .i64 a0_5, .int .i64 a0_6, .slice A0_7 l0_7.length c0_7] 47 (0, 0)) (au39) hb) (below_step (au5) hb); clear BK221 HB; obtain ⟨HO225, BK221, HB⟩ := n_; clear hb ho56; have hz57 := blk_all8 BK221.out) | ((with_reducible refine gate_builtin (b := .append) (xs := #[.tmp 19, .tmp 21]) rfl ?_); at_builtin; refine Kd.R_append_rows (Kd.int .u8) (w0 := w) w.heap.size rfl (.tmp 19) (.tmp 21) 22 5 (.int .u8 0) 1 rfl Tryd.underlying22 info5 rfl (by decide) (by omega) v224 y223 l0_0 _ _ _ (fun _ => True) (fun _ => False) rfl rfl ?aO ?aR (fun _ _ h => h) (fun _ h => h.elim) ?aF ?aB ?aS ?aL ?_; (case aR => repeat (first | exact (Kd.C_below HR0_0.out HB.out) | (with_reducible refine Kd.C_alloc ?_ _) | (with_reducible refine Kd.C_drewN ?_ _) | (with_reducible refine Kd.C_drew ?_))); (case aB => exact (au5)); (case aF => exact (fun _ _ => trivial)); (case aO => exact (by (with_reducible repeat (first | apply Kd.R_alloc | apply Kd.R_drewN | apply Kd.R_drew)); first | exact HO225.out | exact Kd.R_mono (HO225.out) (fun _ h_ => h_.2))); (case aS => exact (below_size (au5))); (case aL => have := LMc4.out; omega); intro v227 w58 ho hb hg hat; rw [← Ny226.out] at ho; have n_ := sq_n3 (blk_grown (g := gb221) (o := .cells #[.slice A0_0 l0_0.length c0_0, .slice A0_1 l0_1.length c0_1, .int .u8 a0_2, .bool false, .int .i64 a0_4, .int .i64 a0_5, .int .i64 a0_6, .slice A0_7 l0_7.length c0_7] 47 (0, 0)) (au39) hg (Kd.R_ne HO225.out BK221.out (by decide))) hb ho; clear BK221 HB HO225; obtain ⟨BK221, HB, HO228⟩ := n_; clear ho hb hg hat; have hz59 := blk_all8 BK221.out) | ((with_reducible refine gate_builtin (b := .append) (xs := #[.tmp 23, .tmp 28]) rfl ?_); at_builtin; refine Kd.R_append (Kd.int .u8) (w0 := w) w.heap.size rfl (.tmp 23) (.tmp 28) 22 5 (.int .u8 0) 1 rfl Tryd.underlying22 info5 rfl (by decide) (by omega) v227 y226 (((l0_1.length : Int)) % 256) [.int .u8 (((l0_1.length : Int)) % 256)] (fun _ => True) (fun _ => False) rfl rfl ?aP (fun _ hk => hk.elim) ?aF ?aO ?aB ?aS ?aL ?_; (case aP => exact rfl); (case aB => exact (au5)); (case aF => exact (fun _ _ => trivial)); (case aO => exact (by (with_reducible repeat (first | apply Kd.R_alloc | apply Kd.R_drewN | apply Kd.R_drew)); first | exact HO228.out | exact Kd.R_mono (HO228.out) (fun _ h_ => h_.2))); (case aS => exact (below_size (au5))); (case aL => have := LMc5.out; omega); intro v230 w60 ho hb hg hat; rw [← Ny229.out] at ho; have n_ := sq_n3 (blk_grown (g := gb221) (o := .cells #[.slice A0_0 l0_0.length c0_0, .slice A0_1 l0_1.length c0_1, .int .u8 a0_2, .bool false, .int .i64 a0_4, .int .i64 a0_5, .int .i64 a0_6, .slice A0_7 l0_7.length c0_7] 47 (0, 0)) (au39) hg (Kd.R_ne HO228.out BK221.out (by decide))) hb ho; clear BK221 HB HO228; obtain ⟨BK221, HB, HO231⟩ := n_; clear ho hb hg hat; have hz61 := blk_all8 BK221.out) | ((with_reducible refine gate_builtin (b := .append) (xs := #[.tmp 30, .tmp 32]) rfl ?_); at_builtin; refine Kd.R_append_rows (Kd.int .u8) (w0 := w) w.heap.size rfl (.tmp 30) (.tmp 32) 22 5 (.int .u8 0) 1 rfl Tryd.underlying22 info5 rfl (by decide) (by omega) v230 y229 l0_1 _ _ _ (fun _ => True) (fun _ => False) rfl rfl ?aO ?aR (fun _ _ h => h) (fun _ h => h.elim) ?aF ?aB ?aS ?aL ?_; (case aR => repeat (first | exact (Kd.C_below HR0_1.out HB.out) | (with_reducible refine Kd.C_alloc ?_ _) | (with_reducible refine Kd.C_drewN ?_ _) | (with_reducible refine Kd.C_drew ?_))); (case aB => exact (au5)); (case aF => exact (fun _ _ => trivial)); (case aO => exact (by (with_reducible repeat (first | apply Kd.R_alloc | apply Kd.R_drewN | apply Kd.R_drew)); first | exact HO231.out | exact Kd.R_mono (HO231.out) (fun _ h_ => h_.2))); (case aS => exact (below_size (au5))); (case aL => have := LMc6.out; omega); intro v233 w62 ho hb hg hat; rw [← Ny232.out] at ho; have n_ := sq_n3 (blk_grown (g := gb221) (o := .cells #[.slice A0_0 l0_0.length c0_0, .slice A0_1 l0_1.length c0_1, .int .u8 a0_2, .bool false, .int .i64 a0_4, .int .i64 a0_5, .int .i64 a0_6, .slice A0_7 l0_7.length c0_7] 47 (0, 0)) (au39) hg (Kd.R_ne HO231.out BK221.out (by decide))) hb ho; clear BK221 HB HO231; obtain ⟨BK221, HB, HO234⟩ := n_; clear ho hb hg hat; have hz63 := blk_all8 BK221.out) | ((with_reducible refine gate_builtin (b := .append) (xs := #[.tmp 34, .tmp 37]) rfl ?_); at_builtin; refine Kd.R_append (Kd.int .u8) (w0 := w) w.heap.size rfl (.tmp 34) (.tmp 37) 22 5 (.int .u8 0) 1 rfl Tryd.underlying22 info5 rfl (by decide) (by omega) v233 y232 a0_2 [.int .u8 a0_2] (fun _ => True) (fun _ => False) rfl rfl ?aP (fun _ hk => hk.elim) ?aF ?aO ?aB ?aS ?aL ?_; (case aP => exact rfl); (case aB => exact (au5)); (case aF => exact (fun _ _ => trivial)); (case aO => exact (by (with_reducible repeat (first | apply Kd.R_alloc | apply Kd.R_drewN | apply Kd.R_drew)); first | exact HO234.out | exact Kd.R_mono (HO234.out) (fun _ h_ => h_.2))); (case aS => exact (below_size (au5))); (case aL => have := LMc7.out; omega); intro v236 w64 ho hb hg hat; rw [← Ny235.out] at ho; have n_ := sq_n3 (blk_grown (g := gb221) (o := .cells #[.slice A0_0 l0_0.length c0_0, .slice A0_1 l0_1.length c0_1, .int .u8 a0_2, .bool false, .int .i64 a0_4, .int .i64 a0_5, .int .i64 a0_6, .slice A0_7 l0_7.length c0_7] 47 (0, 0)) (au39) hg (Kd.R_ne HO234.out BK221.out (by decide))) hb ho; clear BK221 HB HO234; obtain ⟨BK221, HB, HO237⟩ := n_; clear ho hb hg hat; have hz65 := blk_all8 BK221.out) | ((with_reducible refine gate_builtin (b := .append) (xs := #[.tmp 44, .tmp 45]) rfl ?_); at_builtin; refine Kd.R_append (Kd.int .u8) (w0 := w) w.heap.size rfl (.tmp 44) (.tmp 45) 22 5 (.int .u8 0) 1 rfl Tryd.underlying22 info5 rfl (by decide) (by omega) v236 y235 0 [.int .u8 0] (fun _ => True) (fun _ => False) rfl rfl ?aP (fun _ hk => hk.elim) ?aF ?aO ?aB ?aS ?aL ?_; (case aP => exact rfl); (case aB => exact (au5)); (case aF => exact (fun _ _ => trivial)); (case aO => exact (by (with_reducible repeat (first | apply Kd.R_alloc | apply Kd.R_drewN | apply Kd.R_drew)); first | exact HO237.out | exact Kd.R_mono (HO237.out) (fun _ h_ => h_.2))); (case aS => exact (below_size (au5))); (case aL => have := LMc44.out; omega); intro v263 w66 ho hb hg hat; rw [← Ny262.out] at ho; have n_ := sq_n3 (blk_grown (g := gb221) (o := .cells #[.slice A0_0 l0_0.length c0_0, .slice A0_1 l0_1.length c0_1, .int .u8 a0_2, .bool false, .int .i64 a0_4, .int .i64 a0_5, .int .i64 a0_6, .slice A0_7 l0_7.length c0_7] 47 (0, 0)) (au39) hg (Kd.R_ne HO237.out BK221.out (by decide))) hb ho; clear BK221 HB HO237; obtain ⟨BK221, HB, HO264⟩ := n_; clear ho hb hg hat; have hz67 := blk_all8 BK221.out) | ((with_reducible refine gate_callee (f := 82) rfl ?_); refine goesL_ (some 50) rfl rfl Tryd.func82 (by kernel_rfl) rfl #[.int .i64 3, .int .i64 a0_4] rfl (au2) ?_; (with_reducible refine (capstanref01_Put.calls k 3 a0_4 t265 t266 _ A45.out).mono ?_); rintro e w68 ⟨v267, rfl, ho0, hb⟩; refine ⟨_, rfl, ?_⟩; have n_ := sq_n4 (Kd.R_elder' (au118) (Kd.R_base ho0) hb) (Kd.R_lower (Kd.R_new' ho0 (Kd.R_lt (au118))) (below_size (au5))) (blk_below (g := gb221) (o := .cells #[.slice A0_0 l0_0.length c0_0, .slice A0_1 l0_1.length c0_1, .int .u8 a0_2, .bool false, .int .i64 a0_4, .int .i64 a0_5, .int .i64 a0_6, .slice A0_7 l0_7.length c0_7] 47 (0, 0)) (au39) hb) (below_step (au5) hb); clear HO264 BK221 HB; obtain ⟨HO264, HO268, BK221, HB⟩ := n_; (try clear hb); (try clear ho0); have hz69 := blk_all8 BK221.out) | ((with_reducible refine gate_callee (f := 82) rfl ?_); refine goesL_ (some 56) rfl rfl Tryd.func82 (by kernel_rfl) rfl #[.int .i64 2, .int .i64 a0_5] rfl (au2) ?_; (with_reducible refine (capstanref01_Put.calls k 2 a0_5 t269 t270 _ A46.out).mono ?_); rintro e w70 ⟨v271, rfl, ho0, hb⟩; refine ⟨_, rfl, ?_⟩; have n_ := sq_n5 (Kd.R_elder' (au118) (Kd.R_base ho0) hb) (Kd.R_elder' (au88) (Kd.R_base ho0) hb) (Kd.R_lower (Kd.R_new' (Kd.R_new' ho0 (Kd.R_lt (au118))) (Kd.R_lt (au88))) (below_size (au5))) (blk_below (g := gb221) (o := .cells #[.slice A0_0 l0_0.length c0_0, .slice A0_1 l0_1.length c0_1, .int .u8 a0_2, .bool false, .int .i64 a0_4, .int .i64 a0_5, .int .i64 a0_6, .slice A0_7 l0_7.length c0_7] 47 (0, 0)) (au39) hb) (below_step (au5) hb); clear HO264 HO268 BK221 HB; obtain ⟨HO264, HO268, HO272, BK221, HB⟩ := n_; (try clear hb); (try clear ho0); have hz71 := blk_all8 BK221.out) | ((with_reducible refine gate_callee (f := 82) rfl ?_); refine goesL_ (some 62) rfl rfl Tryd.func82 (by kernel_rfl) rfl #[.int .i64 2, .int .i64 a0_6] rfl (au2) ?_; (with_reducible refine (capstanref01_Put.calls k 2 a0_6 t273 t274 _ A47.out).mono ?_); rintro e w72 ⟨v275, rfl, ho0, hb⟩; refine ⟨_, rfl, ?_⟩; have n_ := sq_n6 (Kd.R_elder' (au118) (Kd.R_base ho0) hb) (Kd.R_elder' (au88) (Kd.R_base ho0) hb) (Kd.R_elder' (au104) (Kd.R_base ho0) hb) (Kd.R_lower (Kd.R_new' (Kd.R_new' (Kd.R_new' ho0 (Kd.R_lt (au118))) (Kd.R_lt (au88))) (Kd.R_lt (au104))) (below_size (au5))) (blk_below (g := gb221) (o := .cells #[.slice A0_0 l0_0.length c0_0, .slice A0_1 l0_1.length c0_1, .int .u8 a0_2, .bool false, .int .i64 a0_4, .int .i64 a0_5, .int .i64 a0_6, .slice A0_7 l0_7.length c0_7] 47 (0, 0)) (au39) hb) (below_step (au5) hb); clear HO264 HO268 HO272 BK221 HB; obtain ⟨HO264, HO268, HO272, HO276, BK221, HB⟩ := n_; (try clear hb); (try clear ho0); obtain ⟨Ao74, co74, eo74⟩ := Kd.R_slice HO268.out; subst eo74) | ((with_reducible refine gate_builtin (b := .append) (xs := #[.tmp 65, .tmp 66]) rfl ?_); at_builtin; refine Kd.R_append_rows (Kd.int .u8) (w0 := w) w.heap.size rfl (.tmp 65) (.tmp 66) 22 5 (.int .u8 0) 1 rfl Tryd.underlying22 info5 rfl (by decide) (by omega) v263 y262 t265 _ _ _ (fun k_ => some k_ ≠ (.slice Ao74 t265.length co74 : Value).ownBlock ∧ some k_ ≠ (v271 : Value).ownBlock ∧ some k_ ≠ (v275 : Value).ownBlock) (fun _ => False) rfl rfl ?aO ?aR (fun _ _ h => h) (fun _ h => h.elim) ?aF ?aB ?aS ?aL ?_; (case aR => repeat (first | exact (Kd.R_reads' HO268.out).2.2 | (with_reducible refine Kd.C_alloc ?_ _) | (with_reducible refine Kd.C_drewN ?_ _) | (with_reducible refine Kd.C_drew ?_))); (case aB => exact (au5)); (case aF => exact (fun k_ hk => ⟨Kd.fresh' (Kd.R_lt (au88)) k_ hk, Kd.fresh' (Kd.R_lt (au104)) k_ hk, Kd.fresh' (Kd.R_lt (au130)) k_ hk⟩)); (case aO => exact (by (with_reducible repeat (first | apply Kd.R_alloc | apply Kd.R_drewN | apply Kd.R_drew)); first | exact Kd.R_mono HO264.out (fun _ hk => ⟨hk.1.1.2, ⟨hk.1.2, hk.2⟩⟩) | exact Kd.R_mono (Kd.R_mono HO264.out (fun _ hk => ⟨hk.1.1.2, ⟨hk.1.2, hk.2⟩⟩)) (fun _ h_ => h_.2))); (case aS => exact (below_size (au5))); (case aL => have := LMc48.out; omega); intro v278 w73 ho hb hg hat; rw [← Ny277.out] at ho; have n_ := sq_n6 (blk_grown (g := gb221) (o := .cells #[.slice A0_0 l0_0.length c0_0, .slice A0_1 l0_1.length c0_1, .int .u8 a0_2, .bool false, .int .i64 a0_4, .int .i64 a0_5, .int .i64 a0_6, .slice A0_7 l0_7.length c0_7] 47 (0, 0)) (au39) hg (Kd.R_ne HO264.out BK221.out (by decide))) (Kd.R_after (ok := (fun k_ => some k_ ≠ (v271 : Value).ownBlock ∧ some k_ ≠ (v275 : Value).ownBlock)) (by (with_reducible repeat (first | apply Kd.R_alloc | apply Kd.R_drewN | apply Kd.R_drew)); first | exact Kd.R_mono HO268.out (fun _ hk => ⟨⟨hk.1.2, hk.2⟩, hk.1.1.2⟩) | exact Kd.R_mono (Kd.R_mono HO268.out (fun _ hk => ⟨⟨hk.1.2, hk.2⟩, hk.1.1.2⟩)) (fun _ h_ => h_.2)) hg hat) (Kd.R_after (ok := (fun k_ => some k_ ≠ (.slice Ao74 t265.length co74 : Value).ownBlock ∧ some k_ ≠ (v275 : Value).ownBlock)) (by (with_reducible repeat (first | apply Kd.R_alloc | apply Kd.R_drewN | apply Kd.R_drew)); first | exact Kd.R_mono HO272.out (fun _ hk => ⟨⟨hk.1.2, hk.2⟩, hk.1.1.2⟩) | exact Kd.R_mono (Kd.R_mono HO272.out (fun _ hk => ⟨⟨hk.1.2, hk.2⟩, hk.1.1.2⟩)) (fun _ h_ => h_.2)) hg hat) (Kd.R_after (ok := (fun k_ => some k_ ≠ (.slice Ao74 t265.length co74 : Value).ownBlock ∧ some k_ ≠ (v271 : Value).ownBlock)) (by (with_reducible repeat (first | apply Kd.R_alloc | apply Kd.R_drewN | apply Kd.R_drew)); first | exact Kd.R_mono HO276.out (fun _ hk => ⟨⟨hk.1.2, hk.2⟩, hk.1.1.2⟩) | exact Kd.R_mono (Kd.R_mono HO276.out (fun _ hk => ⟨⟨hk.1.2, hk.2⟩, hk.1.1.2⟩)) (fun _ h_ => h_.2)) hg hat) hb ho; clear BK221 HO268 HO272 HO276 HB HO264; obtain ⟨BK221, HO268, HO272, HO276, HB, HO279⟩ := n_; clear ho hb hg hat; obtain ⟨Ao76, co76, eo76⟩ := Kd.R_slice HO272.out; subst eo76) | ((with_reducible refine gate_builtin (b := .append) (xs := #[.tmp 68, .tmp 69]) rfl ?_); at_builtin; refine Kd.R_append_rows (Kd.int .u8) (w0 := w) w.heap.size rfl (.tmp 68) (.tmp 69) 22 5 (.int .u8 0) 1 rfl Tryd.underlying22 info5 rfl (by decide) (by omega) v278 y277 t269 _ _ _ (fun k_ => some k_ ≠ (.slice Ao74 t265.length co74 : Value).ownBlock ∧ some k_ ≠ (.slice Ao76 t269.length co76 : Value).ownBlock ∧ some k_ ≠ (v275 : Value).ownBlock) (fun _ => False) rfl rfl ?aO ?aR (fun _ _ h => h) (fun _ h => h.elim) ?aF ?aB ?aS ?aL ?_; (case aR => repeat (first | exact (Kd.R_reads' HO272.out).2.2 | (with_reducible refine Kd.C_alloc ?_ _) | (with_reducible refine Kd.C_drewN ?_ _) | (with_reducible refine Kd.C_drew ?_))); (case aB => exact (au5)); (case aF => exact (fun k_ hk => ⟨Kd.fresh' (Kd.R_lt (au88)) k_ hk, Kd.fresh' (Kd.R_lt (au104)) k_ hk, Kd.fresh' (Kd.R_lt (au130)) k_ hk⟩)); (case aO => exact (by (with_reducible repeat (first | apply Kd.R_alloc | apply Kd.R_drewN | apply Kd.R_drew)); first | exact HO279.out | exact Kd.R_mono (HO279.out) (fun _ h_ => h_.2))); (case aS => exact (below_size (au5))); (case aL => have := LMc49.out; omega); intro v281 w75 ho hb hg hat; rw [← Ny280.out] at ho; have n_ := sq_n6 (blk_grown (g := gb221) (o := .cells #[.slice A0_0 l0_0.length c0_0, .slice A0_1 l0_1.length c0_1, .int .u8 a0_2, .bool false, .int .i64 a0_4, .int .i64 a0_5, .int .i64 a0_6, .slice A0_7 l0_7.length c0_7] 47 (0, 0)) (au39) hg (Kd.R_ne HO279.out BK221.out (by decide))) (Kd.R_after (ok := (fun k_ => some k_ ≠ (.slice Ao76 t269.length co76 : Value).ownBlock ∧ some k_ ≠ (v275 : Value).ownBlock)) (au88) hg hat) (Kd.R_after (ok := (fun k_ => some k_ ≠ (.slice Ao74 t265.length co74 : Value).ownBlock ∧ some k_ ≠ (v275 : Value).ownBlock)) (au104) hg hat) (Kd.R_after (ok := (fun k_ => some k_ ≠ (.slice Ao74 t265.length co74 : Value).ownBlock ∧ some k_ ≠ (.slice Ao76 t269.length co76 : Value).ownBlock)) (au130) hg hat) hb ho; clear BK221 HO268 HO272 HO276 HB HO279; obtain ⟨BK221, HO268, HO272, HO276, HB, HO282⟩ := n_; clear ho hb hg hat; obtain ⟨Ao78, co78, eo78⟩ := Kd.R_slice HO276.out; subst eo78) | ((with_reducible refine gate_builtin (b := .append) (xs := #[.tmp 71, .tmp 72]) rfl ?_); at_builtin; refine Kd.R_append_rows (Kd.int .u8) (w0 := w) w.heap.size rfl (.tmp 71) (.tmp 72) 22 5 (.int .u8 0) 1 rfl Tryd.underlying22 info5 rfl (by decide) (by omega) v281 y280 t273 _ _ _ (fun k_ => some k_ ≠ (.slice Ao74 t265.length co74 : Value).ownBlock ∧ some k_ ≠ (.slice Ao76 t269.length co76 : Value).ownBlock ∧ some k_ ≠ (.slice Ao78 t273.length co78 : Value).ownBlock) (fun _ => False) rfl rfl ?aO ?aR (fun _ _ h => h) (fun _ h => h.elim) ?aF ?aB ?aS ?aL ?_; (case aR => repeat (first | exact (Kd.R_reads' HO276.out).2.2 | (with_reducible refine Kd.C_alloc ?_ _) | (with_reducible refine Kd.C_drewN ?_ _) | (with_reducible refine Kd.C_drew ?_))); (case aB => exact (au5)); (case aF => exact (fun k_ hk => ⟨Kd.fresh' (Kd.R_lt (au88)) k_ hk, Kd.fresh' (Kd.R_lt (au104)) k_ hk, Kd.fresh' (Kd.R_lt (au130)) k_ hk⟩)); (case aO => exact (by (with_reducible repeat (first | apply Kd.R_alloc | apply Kd.R_drewN | apply Kd.R_drew)); first | exact HO282.out | exact Kd.R_mono (HO282.out) (fun _ h_ => h_.2))); (case aS => exact (below_size (au5))); (case aL => have := LMc50.out; omega); intro v284 w77 ho hb hg hat; rw [← Ny283.out] at ho; have n_ := sq_n6 (blk_grown (g := gb221) (o := .cells #[.slice A0_0 l0_0.length c0_0, .slice A0_1 l0_1.length c0_1, .int .u8 a0_2, .bool false, .int .i64 a0_4, .int .i64 a0_5, .int .i64 a0_6, .slice A0_7 l0_7.length c0_7] 47 (0, 0)) (au39) hg (Kd.R_ne HO282.out BK221.out (by decide))) (Kd.R_after (ok := (fun k_ => some k_ ≠ (.slice Ao76 t269.length co76 : Value).ownBlock ∧ some k_ ≠ (.slice Ao78 t273.length co78 : Value).ownBlock)) (au88) hg hat) (Kd.R_after (ok := (fun k_ => some k_ ≠ (.slice Ao74 t265.length co74 : Value).ownBlock ∧ some k_ ≠ (.slice Ao78 t273.length co78 : Value).ownBlock)) (au104) hg hat) (Kd.R_after (ok := (fun k_ => some k_ ≠ (.slice Ao74 t265.length co74 : Value).ownBlock ∧ some k_ ≠ (.slice Ao76 t269.length co76 : Value).ownBlock)) (au130) hg hat) hb ho; clear BK221 HO268 HO272 HO276 HB HO282; obtain ⟨BK221, HO268, HO272, HO276, HB, HO285⟩ := n_; clear ho hb hg hat))
  go_ret2
  exact ⟨_, au4, by (with_reducible repeat (first | apply Kd.R_alloc | apply Kd.R_drewN | apply Kd.R_drew)); first | exact Kd.R_mono HO285.out (fun _ hk => trivial) | exact Kd.R_mono (Kd.R_mono HO285.out (fun _ hk => trivial)) (fun _ h_ => h_.2), au5⟩
/-! ### capstanref04_Known: function 69 -/
def capstanref04_Known.f (a0 : Int) : Option (Bool) := some (decide (a0 < 33))
set_option maxHeartbeats 8000000 in
set_option maxRecDepth 100000 in
theorem capstanref04_Known.calls (a0 : Int) (r : Bool) (w : World) (h : capstanref04_Known.f a0 = some r) :
  Calls Tryd.prog 69 #[.int .u8 a0] w fun e w' => e = .returned (.bool r) ∧ Drawn0 w w' := by
 have H : (some (decide (a0 < 33))) = some r := h; clear h; obtain rfl := Option.some.inj H
 go_enter Tryd.func69, Tryd.ntmps69
 go_wp2; go_ret; exact ⟨au11, au25⟩

/-! ### capstanref04_Bounds: function 102 -/
mutual
def capstanref04_Bounds.j0 : Nat → Int → Int → Bool → Option (Int × Int)
 | 0, _, _, _ => none
 | k + 1, x0, x4, x7 => if x7 = true then (some (0, 15)) else (if x4 = 4 then (capstanref04_Bounds.j1 k x0 x4 (x4 == 4)) else (capstanref04_Bounds.j1 k x0 x4 (x4 == 5)))
def capstanref04_Bounds.j1 : Nat → Int → Int → Bool → Option (Int × Int)
 | 0, _, _, _ => none
 | k + 1, x0, x4, x11 => if x11 = true then (some (0, 3)) else (if x4 = 22 then (some (0, 1024)) else (if x4 = 26 then (capstanref04_Bounds.j2 k x0 x4 (x4 == 26)) else (if x4 = 27 then (capstanref04_Bounds.j2 k x0 x4 (x4 == 27)) else (capstanref04_Bounds.j2 k x0 x4 (x4 == 29)))))
def capstanref04_Bounds.j2 : Nat → Int → Int → Bool → Option (Int × Int)
 | 0, _, _, _ => none
 | k + 1, x0, x4, x16 => if x16 = true then (some (0, 199)) else (if x4 = 32 then (some (0, 255)) else (if x4 = 28 then (some (1, 100)) else ((capstanref04_Known.f x0).bind fun t286 => (if t286 = true then (some (0, 0)) else (some (0, (-1)))))))
end
def capstanref04_Bounds.f (k : Nat) (a0 : Int) : Option (Int × Int) := if a0 = 1 then (some (0, 31)) else (if a0 = 2 then (capstanref04_Bounds.j0 k a0 a0 (a0 == 2)) else (if a0 = 3 then (capstanref04_Bounds.j0 k a0 a0 (a0 == 3)) else (capstanref04_Bounds.j0 k a0 a0 (a0 == 30))))
theorem capstanref04_Bounds.mono_l : ∀ k, (∀ y0 y1 y2, LeO (capstanref04_Bounds.j0 k y0 y1 y2) (capstanref04_Bounds.j0 (k + 1) y0 y1 y2)) ∧ (∀ y0 y1 y2, LeO (capstanref04_Bounds.j1 k y0 y1 y2) (capstanref04_Bounds.j1 (k + 1) y0 y1 y2)) ∧ (∀ y0 y1 y2, LeO (capstanref04_Bounds.j2 k y0 y1 y2) (capstanref04_Bounds.j2 (k + 1) y0 y1 y2))
 | 0 => ⟨fun _ _ _ r h => by simp [capstanref04_Bounds.j0] at h, fun _ _ _ r h => by simp [capstanref04_Bounds.j1] at h, fun _ _ _ r h => by simp [capstanref04_Bounds.j2] at h⟩
 | k + 1 => by
  obtain ⟨ih0, ih1, ih2⟩ := capstanref04_Bounds.mono_l k; refine ⟨?_, ?_, ?_⟩
  ·
   intro y0 y1 y2
   unfold capstanref04_Bounds.j0
   repeat' first | (with_reducible first | apply ih0 | apply ih1 | apply ih2 | apply LeO.refl | apply LeO.none | refine LeO.ite ?_ ?_ | refine LeO.bind ?_ (fun _ => ?_)) | apply ih0 | apply ih1 | apply ih2 | apply LeO.none | refine LeO.ite ?_ ?_ | refine LeO.bind ?_ (fun _ => ?_)
  ·
   intro y0 y1 y2
   unfold capstanref04_Bounds.j1
   repeat' first | (with_reducible first | apply ih0 | apply ih1 | apply ih2 | apply LeO.refl | apply LeO.none | refine LeO.ite ?_ ?_ | refine LeO.bind ?_ (fun _ => ?_)) | apply ih0 | apply ih1 | apply ih2 | apply LeO.none | refine LeO.ite ?_ ?_ | refine LeO.bind ?_ (fun _ => ?_)
  ·
   intro y0 y1 y2
   unfold capstanref04_Bounds.j2
   repeat' first | (with_reducible first | apply ih0 | apply ih1 | apply ih2 | apply LeO.refl | apply LeO.none | refine LeO.ite ?_ ?_ | refine LeO.bind ?_ (fun _ => ?_)) | apply ih0 | apply ih1 | apply ih2 | apply LeO.none | refine LeO.ite ?_ ?_ | refine LeO.bind ?_ (fun _ => ?_)
theorem capstanref04_Bounds.mono : ∀ a0 k, LeO (capstanref04_Bounds.f k a0) (capstanref04_Bounds.f (k + 1) a0) := by
 intro a0 k; obtain ⟨ih0, ih1, ih2⟩ := capstanref04_Bounds.mono_l k
 unfold capstanref04_Bounds.f
 repeat' first | (with_reducible first | apply ih0 | apply ih1 | apply ih2 | apply LeO.refl | apply LeO.none | refine LeO.ite ?_ ?_ | refine LeO.bind ?_ (fun _ => ?_)) | apply ih0 | apply ih1 | apply ih2 | apply LeO.none | refine LeO.ite ?_ ?_ | refine LeO.bind ?_ (fun _ => ?_)
set_option maxHeartbeats 8000000 in
set_option maxRecDepth 100000 in
theorem capstanref04_Bounds.calls (k : Nat) (a0 : Int) (r1 : Int) (r2 : Int) (w : World) (h : capstanref04_Bounds.f k a0 = some (r1, r2)) :
  Calls Tryd.prog 102 #[.int .u8 a0] w fun e w' => e = .returned (.tuple #[.int .i64 r1, .int .i64 r2]) ∧ Drawn0 w w' := by
 have H := h; unfold capstanref04_Bounds.f at H; clear h
 by_cases c2 : a0 = 1
 ·
  rw [if_pos c2] at H; have c2b0 := beq_iff_eq.mpr c2; have c2b1 := bne_eq_false_iff_eq.mpr c2; clear c2; simp only [Option.some.injEq, Prod.mk.injEq] at H; obtain ⟨rfl, rfl⟩ := H
  go_enter Tryd.func102, Tryd.ntmps102
  go_wp2
  go_ret2
  exact ⟨au11, au25⟩
 ·
  rw [if_neg c2] at H; have c2b0 := beq_eq_false_iff_ne.mpr c2; have c2b1 := bne_iff_ne.mpr c2; have HC3 := Aside0.mk H; clear H
  go_enter Tryd.func102, Tryd.ntmps102
  go_upto_if 7 with (fail)
  go_cut [7] (fun v7 wc => ∃ (kq : Nat) (x7_2 : Bool), v7 = .bool x7_2 ∧ Aside0 (capstanref04_Bounds.j0 kq a0 a0 x7_2 = some (r1, r2)) ∧ Aside0 (kq ≤ k) ∧ Drawn0 w wc)
  case first =>
   have H := HC3.out; clear HC3
   by_cases c4 : a0 = 2
   ·
    rw [if_pos c4] at H; have c4b0 := beq_iff_eq.mpr c4; have c4b1 := bne_eq_false_iff_eq.mpr c4; clear c4
    (first | rw [c4b0] | (simp only [i64_w, i32_w]; rw [c4b0]) | skip)
    have H' := Aside0.mk H; clear H; go_wp2; go_meet
    case rel => exact ⟨_, ((a0 == 2)), (au11), H', ⟨au95⟩, au25⟩
   ·
    rw [if_neg c4] at H; have c4b0 := beq_eq_false_iff_ne.mpr c4; have c4b1 := bne_iff_ne.mpr c4
    (first | rw [c4b0] | (simp only [i64_w, i32_w]; rw [c4b0]) | skip)
    by_cases c5 : a0 = 3
    rotate_left
    ·
     rw [if_neg c5] at H; have c5b0 := beq_eq_false_iff_ne.mpr c5; have c5b1 := bne_iff_ne.mpr c5; have H' := Aside0.mk H; clear H; go_wp2; go_meet
     case rel => exact ⟨_, ((a0 == 30)), (au11), H', ⟨au95⟩, au25⟩
    rw [if_pos c5] at H; have c5b0 := beq_iff_eq.mpr c5; have c5b1 := bne_eq_false_iff_eq.mpr c5; clear c5; have H' := Aside0.mk H; clear H; go_wp2; go_meet
    case rel => exact ⟨_, ((a0 == 3)), (au11), H', ⟨au95⟩, au25⟩
  case rest =>
   clear HC3; (try clear c2); (try clear c2b0); (try clear c2b1); obtain ⟨kq, x7_2, rfl, HA, HJ2, ⟨mc2, rfl⟩⟩ := hcut
   cases kq with
   | zero => exact absurd HA.out (by simp [capstanref04_Bounds.j0])
   | succ kj2 =>
    have H := HA.out; clear HA; simp only [capstanref04_Bounds.j0] at H
    by_cases c6 : x7_2 = true
    ·
     subst c6
     rw [if_pos rfl] at H; simp only [Option.some.injEq, Prod.mk.injEq] at H; obtain ⟨rfl, rfl⟩ := H; go_wp2
     go_ret2
     exact ⟨au11, au25⟩
    ·
     replace c6 := Bool.eq_false_iff.mpr c6; subst c6
     rw [sq_f] at H; have HC7 := Aside0.mk H; clear H
     go_upto_if 11 with (fail)
     go_cut [11] (fun v11 wc => ∃ (kq : Nat) (x11_6 : Bool), v11 = .bool x11_6 ∧ Aside0 (capstanref04_Bounds.j1 kq a0 a0 x11_6 = some (r1, r2)) ∧ Aside0 (kq ≤ kj2) ∧ Drawn0 w wc)
     case first =>
      have H := HC7.out; clear HC7
      by_cases c8 : a0 = 4
      rotate_left
      ·
       rw [if_neg c8] at H; have c8b0 := beq_eq_false_iff_ne.mpr c8; have c8b1 := bne_iff_ne.mpr c8
       (first | rw [c8b0] | (simp only [i64_w, i32_w]; rw [c8b0]) | skip)
       have H' := Aside0.mk H; clear H; go_wp2; go_meet
       case rel => exact ⟨_, ((a0 == 5)), (au11), H', ⟨by have := HJ2.out; first | omega | exact Nat.le_refl _⟩, au25⟩
      rw [if_pos c8] at H; have c8b0 := beq_iff_eq.mpr c8; have c8b1 := bne_eq_false_iff_eq.mpr c8; clear c8
      (first | rw [c8b0] | (simp only [i64_w, i32_w]; rw [c8b0]) | skip)
      have H' := Aside0.mk H; clear H; go_wp2; go_meet
      case rel => exact ⟨_, ((a0 == 4)), (au11), H', ⟨by have := HJ2.out; first | omega | exact Nat.le_refl _⟩, au25⟩
     case rest =>
      clear HC7; (try clear c1); (try clear c2); (try clear c2b0); (try clear c2b1); (try clear p2); (try clear c4); (try clear c4b0); (try clear c4b1); (try clear c5); (try clear c5b0); (try clear c5b1); (try clear c6); (try clear p2); obtain ⟨kq, x11_6, rfl, HA, HJ6, ⟨mc6, rfl⟩⟩ := hcut
      cases kq with
      | zero => exact absurd HA.out (by simp [capstanref04_Bounds.j1])
      | succ kj6 =>
       have H := HA.out; clear HA; simp only [capstanref04_Bounds.j1] at H
       by_cases c9 : x11_6 = true
       ·
        subst c9
        rw [if_pos rfl] at H; simp only [Option.some.injEq, Prod.mk.injEq] at H; obtain ⟨rfl, rfl⟩ := H; go_wp2
        go_ret2
        exact ⟨au11, au25⟩
       ·
        replace c9 := Bool.eq_false_iff.mpr c9; subst c9
        rw [sq_f] at H
        by_cases c10 : a0 = 22
        ·
         rw [if_pos c10] at H; have c10b0 := beq_iff_eq.mpr c10; have c10b1 := bne_eq_false_iff_eq.mpr c10; clear c10; simp only [Option.some.injEq, Prod.mk.injEq] at H; obtain ⟨rfl, rfl⟩ := H; go_wp2
         go_ret2
         exact ⟨au11, au25⟩
        ·
         rw [if_neg c10] at H; have c10b0 := beq_eq_false_iff_ne.mpr c10; have c10b1 := bne_iff_ne.mpr c10; have HC11 := Aside0.mk H; clear H
         go_upto_if 16 with (fail)
         go_cut [16] (fun v16 wc => ∃ (kq : Nat) (x16_10 : Bool), v16 = .bool x16_10 ∧ Aside0 (capstanref04_Bounds.j2 kq a0 a0 x16_10 = some (r1, r2)) ∧ Aside0 (kq ≤ kj6) ∧ Drawn0 w wc)
         case first =>
          have H := HC11.out; clear HC11
          by_cases c12 : a0 = 26
          ·
           rw [if_pos c12] at H; have c12b0 := beq_iff_eq.mpr c12; have c12b1 := bne_eq_false_iff_eq.mpr c12; clear c12
           (first | rw [c12b0] | (simp only [i64_w, i32_w]; rw [c12b0]) | skip)
           have H' := Aside0.mk H; clear H; go_wp2; go_meet
           case rel => exact ⟨_, ((a0 == 26)), (au11), H', ⟨by have := HJ2.out; have := HJ6.out; first | omega | exact Nat.le_refl _⟩, au25⟩
          ·
           rw [if_neg c12] at H; have c12b0 := beq_eq_false_iff_ne.mpr c12; have c12b1 := bne_iff_ne.mpr c12
           (first | rw [c12b0] | (simp only [i64_w, i32_w]; rw [c12b0]) | skip)
           by_cases c13 : a0 = 27
           rotate_left
           ·
            rw [if_neg c13] at H; have c13b0 := beq_eq_false_iff_ne.mpr c13; have c13b1 := bne_iff_ne.mpr c13; have H' := Aside0.mk H; clear H; go_wp2; go_meet
            case rel => exact ⟨_, ((a0 == 29)), (au11), H', ⟨by have := HJ2.out; have := HJ6.out; first | omega | exact Nat.le_refl _⟩, au25⟩
           rw [if_pos c13] at H; have c13b0 := beq_iff_eq.mpr c13; have c13b1 := bne_eq_false_iff_eq.mpr c13; clear c13; have H' := Aside0.mk H; clear H; go_wp2; go_meet
           case rel => exact ⟨_, ((a0 == 27)), (au11), H', ⟨by have := HJ2.out; have := HJ6.out; first | omega | exact Nat.le_refl _⟩, au25⟩
         case rest =>
          clear HC11; (try clear c1); (try clear c2); (try clear c2b0); (try clear c2b1); (try clear p2); (try clear c4); (try clear c4b0); (try clear c4b1); (try clear c5); (try clear c5b0); (try clear c5b1); (try clear c6); (try clear c8); (try clear c8b0); (try clear c8b1); (try clear c9); (try clear c10); (try clear c10b0); (try clear c10b1); (try clear p2); obtain ⟨kq, x16_10, rfl, HA, HJ10, ⟨mc10, rfl⟩⟩ := hcut
          cases kq with
          | zero => exact absurd HA.out (by simp [capstanref04_Bounds.j2])
          | succ kj10 =>
           have H := HA.out; clear HA; simp only [capstanref04_Bounds.j2] at H
           by_cases c14 : x16_10 = true
           ·
            subst c14
            rw [if_pos rfl] at H; simp only [Option.some.injEq, Prod.mk.injEq] at H; obtain ⟨rfl, rfl⟩ := H; go_wp2
            go_ret2
            exact ⟨au11, au25⟩
           ·
            replace c14 := Bool.eq_false_iff.mpr c14; subst c14
            rw [sq_f] at H
            by_cases c15 : a0 = 32
            ·
             rw [if_pos c15] at H; have c15b0 := beq_iff_eq.mpr c15; have c15b1 := bne_eq_false_iff_eq.mpr c15; clear c15; simp only [Option.some.injEq, Prod.mk.injEq] at H; obtain ⟨rfl, rfl⟩ := H; go_wp2
             go_ret2
             exact ⟨au11, au25⟩
            ·
             rw [if_neg c15] at H; have c15b0 := beq_eq_false_iff_ne.mpr c15; have c15b1 := bne_iff_ne.mpr c15
             by_cases c16 : a0 = 28
             ·
              rw [if_pos c16] at H; have c16b0 := beq_iff_eq.mpr c16; have c16b1 := bne_eq_false_iff_eq.mpr c16; clear c16; simp only [Option.some.injEq, Prod.mk.injEq] at H; obtain ⟨rfl, rfl⟩ := H; go_wp2
              go_ret2
              exact ⟨au11, au25⟩
             ·
              rw [if_neg c16] at H; have c16b0 := beq_eq_false_iff_ne.mpr c16; have c16b1 := bne_iff_ne.mpr c16; obtain ⟨t286, A17, H⟩ := sq_bind H
              by_cases c18 : t286 = true
              ·
               subst c18
               rw [if_pos rfl] at H; simp only [Option.some.injEq, Prod.mk.injEq] at H; obtain ⟨rfl, rfl⟩ := H
               go_wp2_with (first | ((with_reducible refine gate_callee (f := 69) rfl ?_); refine goesL_ (some 25) rfl rfl Tryd.func69 (by kernel_rfl) rfl #[.int .u8 a0] rfl (au2) ?_; (with_reducible refine (capstanref04_Known.calls a0 true _ A17.out).mono ?_); rintro e w' ⟨rfl, ⟨nd, rfl⟩⟩; refine ⟨_, rfl, ?_⟩))
               go_ret2
               exact ⟨au11, au25⟩
              ·
               replace c18 := Bool.eq_false_iff.mpr c18; subst c18
               rw [sq_f] at H; simp only [Option.some.injEq, Prod.mk.injEq] at H; obtain ⟨rfl, rfl⟩ := H
               go_wp2_with (first | ((with_reducible refine gate_callee (f := 69) rfl ?_); refine goesL_ (some 25) rfl rfl Tryd.func69 (by kernel_rfl) rfl #[.int .u8 a0] rfl (au2) ?_; (with_reducible refine (capstanref04_Known.calls a0 false _ A17.out).mono ?_); rintro e w' ⟨rfl, ⟨nd, rfl⟩⟩; refine ⟨_, rfl, ?_⟩))
               go_ret2
               exact ⟨au11, au25⟩

/-! ### capstanref05_Wide: function 70 -/
def capstanref05_Wide.f (k : Nat) (a0 : Int) : Option (Bool) := (capstanref04_Bounds.f k a0).bind fun bt287 => (some (decide (bt287.2 > 0)))
theorem capstanref05_Wide.mono : ∀ a0 k, LeO (capstanref05_Wide.f k a0) (capstanref05_Wide.f (k + 1) a0) := by
 intro a0 k
 unfold capstanref05_Wide.f
 repeat' first | (with_reducible first | apply capstanref04_Bounds.mono | apply LeO.refl | apply LeO.none | refine LeO.ite ?_ ?_ | refine LeO.bind ?_ (fun _ => ?_)) | apply capstanref04_Bounds.mono | apply LeO.none | refine LeO.ite ?_ ?_ | refine LeO.bind ?_ (fun _ => ?_)
set_option maxHeartbeats 8000000 in
set_option maxRecDepth 100000 in
theorem capstanref05_Wide.calls (k : Nat) (a0 : Int) (r : Bool) (w : World) (h : capstanref05_Wide.f k a0 = some r) :
  Calls Tryd.prog 70 #[.int .u8 a0] w fun e w' => e = .returned (.bool r) ∧ Drawn0 w w' := by
 have H := h; unfold capstanref05_Wide.f at H; clear h; obtain ⟨⟨t287, t288⟩, A2, H⟩ := sq_bind H; dsimp only at H; obtain rfl := Option.some.inj H
 go_enter Tryd.func70, Tryd.ntmps70
 go_wp2_with (first | ((with_reducible refine gate_callee (f := 102) rfl ?_); refine goesL_ (some 7) rfl rfl Tryd.func102 (by kernel_rfl) rfl #[.int .u8 a0] rfl (au2) ?_; (with_reducible refine (capstanref04_Bounds.calls k a0 t287 t288 _ A2.out).mono ?_); rintro e w' ⟨rfl, ⟨nd, rfl⟩⟩; refine ⟨_, rfl, ?_⟩))
 go_ret; exact ⟨au11, au25⟩

/-! ### capstanref04_May: function 71 -/
def capstanref04_May.f (k : Nat) (a0_0 : Int) (a0_1 : Int) (a0_2 : Int) : Option (Bool) := (capstanref04_Bounds.f k a0_0).bind fun bt290 => (if a0_2 = 0 then (if bt290.1 ≤ a0_1 then (some (decide (a0_1 ≤ bt290.2))) else (some false)) else (some false))
theorem capstanref04_May.mono : ∀ a0 a1 a2 k, LeO (capstanref04_May.f k a0 a1 a2) (capstanref04_May.f (k + 1) a0 a1 a2) := by
 intro a0 a1 a2 k
 unfold capstanref04_May.f
 repeat' first | (with_reducible first | apply capstanref04_Bounds.mono | apply LeO.refl | apply LeO.none | refine LeO.ite ?_ ?_ | refine LeO.bind ?_ (fun _ => ?_)) | apply capstanref04_Bounds.mono | apply LeO.none | refine LeO.ite ?_ ?_ | refine LeO.bind ?_ (fun _ => ?_)
set_option maxHeartbeats 8000000 in
set_option maxRecDepth 100000 in
theorem capstanref04_May.calls (k : Nat) (a0_0 : Int) (a0_1 : Int) (a0_2 : Int) (r : Bool) (w : World) (h : capstanref04_May.f k a0_0 a0_1 a0_2 = some r) :
  Calls Tryd.prog 71 #[.agg #[.int .u8 a0_0, .int .i64 a0_1, .int .i64 a0_2]] w fun e w' => e = .returned (.bool r) ∧ Below w.heap.size w w' := by
 have hu75 := Tryd.underlying75; have HB := Aside0.mk (Below.refl w.heap.size w); have H := h; unfold capstanref04_May.f at H; clear h; obtain ⟨⟨t290, t291⟩, A2, H⟩ := sq_bind H; dsimp only at H
 by_cases c3 : a0_2 = 0
 rotate_left
 ·
  rw [if_neg c3] at H; have c3b0 := beq_eq_false_iff_ne.mpr c3; have c3b1 := bne_iff_ne.mpr c3; obtain rfl := Option.some.inj H
  go_enter Tryd.func71, Tryd.ntmps71
  go_wp2_with (first | ((with_reducible refine gate_dst (N := 1) rfl ?_); refine sq_box (N := 1) (cs := #[.int .u8 a0_0, .int .i64 a0_1, .int .i64 a0_2]) (t := 75) ?_; intro gb289 hg w9 hbox hb; have n_ := sq_n4 (below_step (au1) hb) hbox ((au26 : w.heap.size ≤ gb289)) ((au26 : w.heap.size ≤ gb289)); clear HB; obtain ⟨HB, BK289, GW289, GE289⟩ := n_; clear hb hbox hg; have hz10 := blk_all3 BK289.out) | ((with_reducible refine gate_callee (f := 102) rfl ?_); refine goesL_ (some 8) rfl rfl Tryd.func102 (by kernel_rfl) rfl #[.int .u8 a0_0] rfl (au2) ?_; (with_reducible refine (capstanref04_Bounds.calls k a0_0 t290 t291 _ A2.out).mono ?_); rintro e w' ⟨rfl, ⟨nd, rfl⟩⟩; refine ⟨_, rfl, ?_⟩))
  go_ret; exact ⟨au4, au151⟩

 rw [if_pos c3] at H; have c3b0 := beq_iff_eq.mpr c3; have c3b1 := bne_eq_false_iff_eq.mpr c3; clear c3
 by_cases c4 : t290 ≤ a0_1
 ·
  rw [if_pos c4] at H; have c4b0 : decide (t290 ≤ a0_1) = true := decide_eq_true c4; clear c4; obtain rfl := Option.some.inj H
  go_enter Tryd.func71, Tryd.ntmps71
  go_wp2_with (first | ((with_reducible refine gate_dst (N := 1) rfl ?_); refine sq_box (N := 1) (cs := #[.int .u8 a0_0, .int .i64 a0_1, .int .i64 a0_2]) (t := 75) ?_; intro gb289 hg w5 hbox hb; have n_ := sq_n4 (below_step (au1) hb) hbox ((au26 : w.heap.size ≤ gb289)) ((au26 : w.heap.size ≤ gb289)); clear HB; obtain ⟨HB, BK289, GW289, GE289⟩ := n_; clear hb hbox hg; have hz6 := blk_all3 BK289.out) | ((with_reducible refine gate_callee (f := 102) rfl ?_); refine goesL_ (some 8) rfl rfl Tryd.func102 (by kernel_rfl) rfl #[.int .u8 a0_0] rfl (au2) ?_; (with_reducible refine (capstanref04_Bounds.calls k a0_0 t290 t291 _ A2.out).mono ?_); rintro e w' ⟨rfl, ⟨nd, rfl⟩⟩; refine ⟨_, rfl, ?_⟩))
  go_ret; exact ⟨au4, au151⟩
 ·
  rw [if_neg c4] at H; have c4b0 : decide (t290 ≤ a0_1) = false := decide_eq_false c4; clear c4; obtain rfl := Option.some.inj H
  go_enter Tryd.func71, Tryd.ntmps71
  go_wp2_with (first | ((with_reducible refine gate_dst (N := 1) rfl ?_); refine sq_box (N := 1) (cs := #[.int .u8 a0_0, .int .i64 a0_1, .int .i64 a0_2]) (t := 75) ?_; intro gb289 hg w7 hbox hb; have n_ := sq_n4 (below_step (au1) hb) hbox ((au26 : w.heap.size ≤ gb289)) ((au26 : w.heap.size ≤ gb289)); clear HB; obtain ⟨HB, BK289, GW289, GE289⟩ := n_; clear hb hbox hg; have hz8 := blk_all3 BK289.out) | ((with_reducible refine gate_callee (f := 102) rfl ?_); refine goesL_ (some 8) rfl rfl Tryd.func102 (by kernel_rfl) rfl #[.int .u8 a0_0] rfl (au2) ?_; (with_reducible refine (capstanref04_Bounds.calls k a0_0 t290 t291 _ A2.out).mono ?_); rintro e w' ⟨rfl, ⟨nd, rfl⟩⟩; refine ⟨_, rfl, ?_⟩))
  go_ret; exact ⟨au4, au151⟩
end Go.Proofs.YthmjblmdbcmjcaaDoor.P
