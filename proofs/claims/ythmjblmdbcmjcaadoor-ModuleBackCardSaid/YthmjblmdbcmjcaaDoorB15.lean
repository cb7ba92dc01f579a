/- Contracts of functions of this seat. -/
import Derived.Test.YthmjblmdbcmjcaaDoorB0
import Derived.Test.YthmjblmdbcmjcaaDoorB1
import Derived.Test.YthmjblmdbcmjcaaDoorB13
import Derived.Test.YthmjblmdbcmjcaaDoorB14
namespace Go.Proofs.YthmjblmdbcmjcaaDoor.B
open Go.RowKit Go.Proofs.YthmjblmdbcmjcaaDoorW.PrintWords Go.Proofs.YthmjblmdbcmjcaaDoorW.PrintLast Go.Proofs.YthmjblmdbcmjcaaDoorW.PrintMore
attribute [local go_sem] max2_int min2_int max_two min_two max_three min_three max_four min_four
set_option linter.unusedVariables false
set_option linter.unusedSimpArgs false

attribute [local go_sem high] eqA73
/-! ### slices_Concat_uint8_uint8: function 114 -/
mutual
def slices_Concat_uint8_uint8.l0 : Nat → List (List Int) → Int → List (List Int) → Int → Int → Option (List Int)
 | 0, _, _, _, _, _ => none
 | k + 1, x0, x3, x9, x10, x11 => if x11 < x10 then (if 0 ≤ x11 then (if x11 < (x9.length : Int) then (if (wrap64 (x3 + ((rd_L1 x9 x11).length : Int))) < 0 then (none) else (slices_Concat_uint8_uint8.l0 k x0 (wrap64 (x3 + ((rd_L1 x9 x11).length : Int))) x9 x10 (wrap64 (x11 + 1)))) else (none)) else (none)) else ((slices_Grow_uint8_uint8.f x3).bind fun t215 => (slices_Concat_uint8_uint8.l1 k t215 x0 (x0.length : Int) 0))
def slices_Concat_uint8_uint8.l1 : Nat → List Int → List (List Int) → Int → Int → Option (List Int)
 | 0, _, _, _, _ => none
 | k + 1, x6, x25, x26, x27 => if x27 < x26 then (if 0 ≤ x27 then (if x27 < (x25.length : Int) then (if x6.length + (rd_L1 x25 x27).length < 140737488355328 then (slices_Concat_uint8_uint8.l1 k (x6 ++ (rd_L1 x25 x27)) x25 x26 (wrap64 (x27 + 1))) else (none)) else (none)) else (none)) else (some x6)
end
def slices_Concat_uint8_uint8.f (k : Nat) (l0 : List (List Int)) : Option (List Int) := slices_Concat_uint8_uint8.l0 k l0 0 l0 (l0.length : Int) 0
theorem slices_Concat_uint8_uint8.mono_l : ∀ k, (∀ y0 y1 y2 y3 y4, LeO (slices_Concat_uint8_uint8.l0 k y0 y1 y2 y3 y4) (slices_Concat_uint8_uint8.l0 (k + 1) y0 y1 y2 y3 y4)) ∧ (∀ y0 y1 y2 y3, LeO (slices_Concat_uint8_uint8.l1 k y0 y1 y2 y3) (slices_Concat_uint8_uint8.l1 (k + 1) y0 y1 y2 y3))
 | 0 => ⟨fun _ _ _ _ _ r h => by simp [slices_Concat_uint8_uint8.l0] at h, fun _ _ _ _ r h => by simp [slices_Concat_uint8_uint8.l1] at h⟩
 | k + 1 => by
  obtain ⟨ih0, ih1⟩ := slices_Concat_uint8_uint8.mono_l k; refine ⟨?_, ?_⟩
  ·
   intro y0 y1 y2 y3 y4
   unfold slices_Concat_uint8_uint8.l0
   repeat' first | (with_reducible first | apply ih0 | apply ih1 | apply LeO.refl | apply LeO.none | refine LeO.ite ?_ ?_ | refine LeO.bind ?_ (fun _ => ?_)) | apply ih0 | apply ih1 | apply LeO.none | refine LeO.ite ?_ ?_ | refine LeO.bind ?_ (fun _ => ?_)
  ·
   intro y0 y1 y2 y3
   unfold slices_Concat_uint8_uint8.l1
   repeat' first | (with_reducible first | apply ih0 | apply ih1 | apply LeO.refl | apply LeO.none | refine LeO.ite ?_ ?_ | refine LeO.bind ?_ (fun _ => ?_)) | apply ih0 | apply ih1 | apply LeO.none | refine LeO.ite ?_ ?_ | refine LeO.bind ?_ (fun _ => ?_)
theorem slices_Concat_uint8_uint8.mono : ∀ a0 k, LeO (slices_Concat_uint8_uint8.f k a0) (slices_Concat_uint8_uint8.f (k + 1) a0) := by
 intro a0 k; obtain ⟨ih0, ih1⟩ := slices_Concat_uint8_uint8.mono_l k
 unfold slices_Concat_uint8_uint8.f
 repeat' first | (with_reducible first | apply ih0 | apply ih1 | apply LeO.refl | apply LeO.none | refine LeO.ite ?_ ?_ | refine LeO.bind ?_ (fun _ => ?_)) | apply ih0 | apply ih1 | apply LeO.none | refine LeO.ite ?_ ?_ | refine LeO.bind ?_ (fun _ => ?_)
set_option maxHeartbeats 8000000 in
set_option maxRecDepth 100000 in
theorem slices_Concat_uint8_uint8.calls (k : Nat) (A0 : Option Addr) (c0 : Nat) (l0 : List (List Int)) (r : List Int) (w : World) (hr0 : Kd.C (Kd.slice 5 (Kd.int .u8)) w A0 l0.length l0) (hc0 : l0.length ≤ c0) (h : slices_Concat_uint8_uint8.f k l0 = some r) :
  Calls Tryd.prog 114 #[.slice A0 l0.length c0] w fun e w' => ∃ v0_ : Value, e = .returned (v0_) ∧ Kd.R (Kd.int .u8) 5 w' w.heap.size (fun _ => True) v0_ r ∧ Below w.heap.size w w' := by
 have HR0 := Aside0.mk hr0; have HC0 := Aside0.mk hc0; clear hr0 hc0; have HB := Aside0.mk (Below.refl w.heap.size w); have H := h; unfold slices_Concat_uint8_uint8.f at H; clear h; have H' := Aside0.mk H; clear H
 go_enter Tryd.func114, Tryd.ntmps114
 go_wp2
 go_loopg [3, 11] k (fun kq v3 v11 w' => ∃ (x3_1 : Int) (x11_1 : Int), v3 = .int .i64 x3_1 ∧ v11 = .int .i64 x11_1 ∧ Aside0 (slices_Concat_uint8_uint8.l0 kq l0 x3_1 l0 (l0.length : Int) x11_1 = some r) ∧ Aside0 (kq ≤ k) ∧ Aside0 (Below w.heap.size w w'))
 case atStart => exact ⟨(0), (0), (au16), (au16), H', ⟨Nat.le_refl _⟩, ⟨au1⟩⟩
 case round =>
  clear H'; (try clear c1); obtain ⟨x3_1, x11_1, rfl, rfl, HA, HK1, HB⟩ := hrel
  cases gk with
  | zero => exact absurd HA.out (by simp [slices_Concat_uint8_uint8.l0])
  | succ k1 =>
   have H := HA.out; clear HA; simp only [slices_Concat_uint8_uint8.l0] at H
   by_cases c2 : x11_1 < (l0.length : Int)
   ·
    rw [if_pos c2] at H; have c2b0 : decide (x11_1 < (l0.length : Int)) = true := decide_eq_true c2; clear c2
    by_cases c3 : 0 ≤ x11_1
    rotate_left
    · rw [if_neg c3] at H; exact absurd H (by simp)
    rw [if_pos c3] at H; have c3b0 : decide (0 ≤ x11_1) = true := decide_eq_true c3; clear c3
    by_cases c4 : x11_1 < (l0.length : Int)
    rotate_left
    · rw [if_neg c4] at H; exact absurd H (by simp)
    rw [if_pos c4] at H; have c4b0 : decide (x11_1 < (l0.length : Int)) = true := decide_eq_true c4; clear c4
    by_cases c5 : (wrap64 (x3_1 + ((rd_L1 l0 x11_1).length : Int))) < 0
    · rw [if_pos c5] at H; exact absurd H (by simp)
    ·
     rw [if_neg c5] at H; have c5b0 : decide ((wrap64 (x3_1 + ((rd_L1 l0 x11_1).length : Int))) < 0) = false := decide_eq_false c5; clear c5; have H' := Aside0.mk H; clear H; have p214 : 0 ≤ (x11_1 : Int) := of_decide_eq_true (au9); have q214 : x11_1 < (l0.length : Int) := of_decide_eq_true (au9); obtain ⟨ad214, A214_0, c214_0, e214, hx214_0, hl214_0, hi214_0⟩ := at_L1 HR0.out x11_1 p214 q214; cases e214; replace hx214_0 := sq_c HB hx214_0; have HR214_0 := Aside0.mk hi214_0; have HC214_0 := Aside0.mk hl214_0; clear hi214_0 hl214_0; replace p214 := eq_true p214; replace q214 := eq_true q214; go_wp2
     go_roundg k1
     case measure => have := HK1.out; omega
     case rel => exact ⟨(wrap64 (x3_1 + ((rd_L1 l0 x11_1).length : Int))), (wrap64 (x11_1 + 1)), (au16), (au16), H', ⟨by have := HK1.out; omega⟩, ⟨au1⟩⟩
   ·
    rw [if_neg c2] at H; have c2b0 : decide (x11_1 < (l0.length : Int)) = false := decide_eq_false c2; clear c2; obtain ⟨t215, A6, H⟩ := sq_bind H; have H' := Aside0.mk H; clear H
    go_wp2_with (first | ((with_reducible refine gate_callee (f := 120) rfl ?_); refine goesL_ (some 24) rfl rfl Tryd.func120 (by kernel_rfl) rfl #[.slice none 0 0, .int .i64 x3_1] rfl (au2) ?_; (with_reducible refine (slices_Grow_uint8_uint8.calls  x3_1 t215 _ A6.out).mono ?_); rintro e w7 ⟨v216, rfl, ho0, hb⟩; refine ⟨_, rfl, ?_⟩; have n_ := sq_n2 (Kd.R_lower ho0 (below_size (au1))) (below_step (au1) hb); clear HB; obtain ⟨HO217, HB⟩ := n_; (try clear hb); (try clear ho0)))
    go_loopg [6, 27] k1 (fun kq v6 v27 w' => ∃ (x6_2 : List Int) (x27_2 : Int), v27 = .int .i64 x27_2 ∧ Aside0 (slices_Concat_uint8_uint8.l1 kq x6_2 l0 (l0.length : Int) x27_2 = some r) ∧ Aside0 (kq ≤ k1) ∧ Aside0 (Kd.R (Kd.int .u8) 5 w' w.heap.size (fun _ => True) v6 x6_2) ∧ Aside0 (Below w.heap.size w w'))
    case atStart => exact ⟨(t215), (0), (au16), H', ⟨Nat.le_refl _⟩, ⟨by (with_reducible repeat (first | apply Kd.R_alloc | apply Kd.R_drewN | apply Kd.R_drew)); first | exact HO217.out | exact Kd.R_mono (HO217.out) (fun _ h_ => h_.2)⟩, ⟨au1⟩⟩
    case round =>
     clear H'; (try clear c1); (try clear c2); (try clear c2b0); (try clear p2); (try clear q2); (try clear hx2); (try clear c3); (try clear c3b0); (try clear c4); (try clear c4b0); (try clear c5); (try clear c5b0); (try clear p6); (try clear hx214_0); (try clear p214); (try clear q214); obtain ⟨x6_2, x27_2, rfl, HA, HK2, HO_6, HB⟩ := hrel
     cases gk with
     | zero => exact absurd HA.out (by simp [slices_Concat_uint8_uint8.l1])
     | succ k2 =>
      have H := HA.out; clear HA; simp only [slices_Concat_uint8_uint8.l1] at H
      by_cases c8 : x27_2 < (l0.length : Int)
      rotate_left
      · rw [if_neg c8] at H; have c8b0 : decide (x27_2 < (l0.length : Int)) = false := decide_eq_false c8; clear c8; obtain rfl := Option.some.inj H; go_wp2; go_ret; exact ⟨_, au7, by (with_reducible repeat (first | apply Kd.R_alloc | apply Kd.R_drewN | apply Kd.R_drew)); first | exact HO_6.out | exact Kd.R_mono (HO_6.out) (fun _ h_ => h_.2), au1⟩

      rw [if_pos c8] at H; have c8b0 : decide (x27_2 < (l0.length : Int)) = true := decide_eq_true c8; clear c8
      by_cases c9 : 0 ≤ x27_2
      rotate_left
      · rw [if_neg c9] at H; exact absurd H (by simp)
      rw [if_pos c9] at H; have c9b0 : decide (0 ≤ x27_2) = true := decide_eq_true c9; clear c9
      by_cases c10 : x27_2 < (l0.length : Int)
      rotate_left
      · rw [if_neg c10] at H; exact absurd H (by simp)
      rw [if_pos c10] at H; have c10b0 : decide (x27_2 < (l0.length : Int)) = true := decide_eq_true c10; clear c10
      by_cases c11 : x6_2.length + (rd_L1 l0 x27_2).length < 140737488355328
      rotate_left
      · rw [if_neg c11] at H; exact absurd H (by simp)
      rw [if_pos c11] at H; have LMc11 := Aside0.mk c11; clear c11; obtain ⟨y219, hy219⟩ : ∃ y_ : List Int, y_ = (x6_2 ++ (rd_L1 l0 x27_2)) := ⟨_, rfl⟩; rw [← hy219] at H; have Ny219 := Aside0.mk hy219; clear hy219; have H' := Aside0.mk H; clear H; have p218 : 0 ≤ (x27_2 : Int) := of_decide_eq_true (au9); have q218 : x27_2 < (l0.length : Int) := of_decide_eq_true (au9); obtain ⟨ad218, A218_0, c218_0, e218, hx218_0, hl218_0, hi218_0⟩ := at_L1 HR0.out x27_2 p218 q218; cases e218; replace hx218_0 := sq_c HB hx218_0; have HR218_0 := Aside0.mk hi218_0; have HC218_0 := Aside0.mk hl218_0; clear hi218_0 hl218_0; replace p218 := eq_true p218; replace q218 := eq_true q218
      go_wp2_with (first | ((with_reducible refine gate_builtin (b := .append) (xs := #[.tmp 31, .tmp 32]) rfl ?_); at_builtin; refine Kd.R_append_rows (Kd.int .u8) (w0 := w) w.heap.size rfl (.tmp 31) (.tmp 32) 22 5 (.int .u8 0) 1 rfl Tryd.underlying22 info5 rfl (by decide) (by omega) u6 x6_2 (rd_L1 l0 x27_2) _ _ _ (fun _ => True) (fun _ => False) rfl rfl ?aO ?aR (fun _ _ h => h) (fun _ h => h.elim) ?aF ?aB ?aS ?aL ?_; (case aR => repeat (first | exact (Kd.C_below HR218_0.out HB.out) | (with_reducible refine Kd.C_alloc ?_ _) | (with_reducible refine Kd.C_drewN ?_ _) | (with_reducible refine Kd.C_drew ?_))); (case aB => exact (au1)); (case aF => exact (fun _ _ => trivial)); (case aO => exact (by (with_reducible repeat (first | apply Kd.R_alloc | apply Kd.R_drewN | apply Kd.R_drew)); first | exact HO_6.out | exact Kd.R_mono (HO_6.out) (fun _ h_ => h_.2))); (case aS => exact (below_size (au1))); (case aL => have := LMc11.out; omega); intro v220 w12 ho hb hg hat; rw [← Ny219.out] at ho; have n_ := sq_n2 hb ho; clear HB HO_6; obtain ⟨HB, HO221⟩ := n_; clear ho hb hg hat))
      go_roundg k2
      case measure => have := HK1.out; have := HK2.out; omega
      case rel => exact ⟨(y219), (wrap64 (x27_2 + 1)), (au16), H', ⟨by have := HK1.out; have := HK2.out; omega⟩, ⟨by (with_reducible repeat (first | apply Kd.R_alloc | apply Kd.R_drewN | apply Kd.R_drew)); first | exact HO221.out | exact Kd.R_mono (HO221.out) (fun _ h_ => h_.2)⟩, ⟨au1⟩⟩
/-! ### method_Kinds: function 91 -/
def method_Kinds.f (k : Nat) (l0_0 : List Int) (l0_1 : List Int) (a0_2 : Int) (a0_3 : Bool) (a0_4 : Int) (a0_5 : Int) (a0_6 : Int) (l0_7 : List (S75)) : Option (List Int) := (slices_Concat_uint8_uint8.f k (([l0_0, l0_1] : List (List Int)))).bind fun t226 => (some t226)
theorem method_Kinds.mono : ∀ a0 a1 a2 a3 a4 a5 a6 a7 k, LeO (method_Kinds.f k a0 a1 a2 a3 a4 a5 a6 a7) (method_Kinds.f (k + 1) a0 a1 a2 a3 a4 a5 a6 a7) := by
 intro a0 a1 a2 a3 a4 a5 a6 a7 k
 unfold method_Kinds.f
 repeat' first | (with_reducible first | apply slices_Concat_uint8_uint8.mono | apply LeO.refl | apply LeO.none | refine LeO.ite ?_ ?_ | refine LeO.bind ?_ (fun _ => ?_)) | apply slices_Concat_uint8_uint8.mono | apply LeO.none | refine LeO.ite ?_ ?_ | refine LeO.bind ?_ (fun _ => ?_)
set_option maxHeartbeats 8000000 in
set_option maxRecDepth 100000 in
theorem method_Kinds.calls (k : Nat) (P0_0_ : Nat → Prop) (A0_0 : Option Addr) (c0_0 : Nat) (l0_0 : List Int) (P0_1_ : Nat → Prop) (A0_1 : Option Addr) (c0_1 : Nat) (l0_1 : List Int) (a0_2 : Int) (a0_3 : Bool) (a0_4 : Int) (a0_5 : Int) (a0_6 : Int) (A0_7 : Option Addr) (c0_7 : Nat) (l0_7 : List (S75)) (r : List Int) (w : World) (hs0_0 : Kd.V (Kd.int .u8) 5 w w.heap.size (fun k_ => P0_0_ k_) (.slice A0_0 l0_0.length c0_0) l0_0) (hs0_1 : Kd.V (Kd.int .u8) 5 w w.heap.size (fun k_ => P0_1_ k_) (.slice A0_1 l0_1.length c0_1) l0_1) (hr0_7 : Kd.C k75 w A0_7 l0_7.length l0_7) (hc0_7 : l0_7.length ≤ c0_7) (h : method_Kinds.f k l0_0 l0_1 a0_2 a0_3 a0_4 a0_5 a0_6 l0_7 = some r) :
  Calls Tryd.prog 91 #[.agg #[.slice A0_0 l0_0.length c0_0, .slice A0_1 l0_1.length c0_1, .int .u8 a0_2, .bool a0_3, .int .i64 a0_4, .int .i64 a0_5, .int .i64 a0_6, .slice A0_7 l0_7.length c0_7]] w fun e w' => ∃ v0_ : Value, e = .returned (v0_) ∧ Kd.R (Kd.int .u8) 5 w' w.heap.size (fun k_ => (w.heap.size ≤ k_)) v0_ r ∧ Below w.heap.size w w' := by
 have hu47 := Tryd.underlying47; have HO0_0 := Aside0.mk (show Kd.V (Kd.int .u8) 5 w w.heap.size (fun k_ => ((P0_0_ k_ ∨ P0_1_ k_) ∨ w.heap.size ≤ k_)) (.slice A0_0 l0_0.length c0_0) l0_0 from Kd.V_mono hs0_0 (fun k_ hk => .inl (.inl hk))); have HO0_1 := Aside0.mk (show Kd.V (Kd.int .u8) 5 w w.heap.size (fun k_ => ((P0_0_ k_ ∨ P0_1_ k_) ∨ w.heap.size ≤ k_)) (.slice A0_1 l0_1.length c0_1) l0_1 from Kd.V_mono hs0_1 (fun k_ hk => .inl (.inr hk))); have HR0_7 := Aside0.mk hr0_7; have HC0_7 := Aside0.mk hc0_7; clear hr0_7 hc0_7; have HB := Aside0.mk (Below.refl w.heap.size w); have H := h; unfold method_Kinds.f at H; clear h; obtain ⟨y223, hy223⟩ : ∃ y_ : List (List Int), y_ = (([l0_0, l0_1] : List (List Int))) := ⟨_, rfl⟩; rw [← hy223] at H; have Ny223 := Aside0.mk hy223; clear hy223; obtain ⟨t226, A2, H⟩ := sq_bind H; obtain rfl := Option.some.inj H
 go_enter Tryd.func91, Tryd.ntmps91
 go_wp2_with (first | ((with_reducible refine gate_dst (N := 1) rfl ?_); refine sq_box (N := 1) (cs := #[.slice A0_0 l0_0.length c0_0, .slice A0_1 l0_1.length c0_1, .int .u8 a0_2, .bool a0_3, .int .i64 a0_4, .int .i64 a0_5, .int .i64 a0_6, .slice A0_7 l0_7.length c0_7]) (t := 47) ?_; intro gb222 hg w3 hbox hb; have n_ := sq_n6 (Kd.V_below (Kd.V_elderB (au172) gb222 (Nat.le_of_eq hg.symm)) hb) (Kd.V_below (Kd.V_elderB (au173) gb222 (Nat.le_of_eq hg.symm)) hb) (below_step (au1) hb) hbox ((au25 : w.heap.size ≤ gb222)) ((au25 : w.heap.size ≤ gb222)); clear HO0_0 HO0_1 HB; obtain ⟨HO0_0, HO0_1, HB, BK222, GW222, GE222⟩ := n_; clear hb hbox hg; have hz4 := blk_all8 BK222.out) | ((with_reducible refine gate_dst (N := 7) rfl ?_); refine Kd.N_lit (Kd.slice 5 (Kd.int .u8)) _ 22 ?hg (N' := 7) ?hd (xs := ([l0_0, l0_1] : List (List Int))) (inner := [.slice A0_0 l0_0.length c0_0, .slice A0_1 l0_1.length c0_1]) (ok := (fun k_ => ((P0_0_ k_ ∨ P0_1_ k_) ∨ w.heap.size ≤ k_) ∧ k_ ≠ gb222)) (okp := (fun k_ => ((P0_0_ k_ ∨ P0_1_ k_) ∨ w.heap.size ≤ k_) ∧ k_ ≠ gb222)) ?hr ?hp (fun _ hk => hk) ((show ∀ k_, w3.heap.size ≤ k_ → (fun k_ => ((P0_0_ k_ ∨ P0_1_ k_) ∨ w.heap.size ≤ k_) ∧ k_ ≠ gb222) k_ from fun k_ hk => ⟨(.inr (Nat.le_trans (below_size (au68)) hk)), Kd.freshB (g := gb222) (o := .cells #[.slice A0_0 l0_0.length c0_0, .slice A0_1 l0_1.length c0_1, .int .u8 a0_2, .bool a0_3, .int .i64 a0_4, .int .i64 a0_5, .int .i64 a0_6, .slice A0_7 l0_7.length c0_7] 47 (0, 0)) (by (with_reducible repeat (first | refine blk_drewN ?_ _ | refine blk_drew ?_ | refine blk_alloc ?_ _)); exact BK222.out) k_ hk⟩) _ (Nat.le_refl _)) (Below.refl _ _) (Nat.le_refl _) (by simp) ?_; (case hd => rfl); (case hg => rfl); (case hr => first | (go_simp; done) | (go_simp; rfl)); (case hp => exact (Reps.one (show Kd.FK (Kd.slice 5 (Kd.int .u8)) _ _ l0_0 [.slice A0_0 l0_0.length c0_0] from (Kd.FK_slice_mk (Kd.V_reads' (Kd.V_mono (ok' := (fun k_ => ((P0_0_ k_ ∨ P0_1_ k_) ∨ w.heap.size ≤ k_) ∧ k_ ≠ gb222)) (HO0_0.out) (fun k_ hk => ⟨hk.1, hk.2⟩))).2.1 (Kd.V_F (Kd.V_mono (ok' := (fun k_ => ((P0_0_ k_ ∨ P0_1_ k_) ∨ w.heap.size ≤ k_) ∧ k_ ≠ gb222)) (HO0_0.out) (fun k_ hk => ⟨hk.1, hk.2⟩))))) (Reps.one (show Kd.FK (Kd.slice 5 (Kd.int .u8)) _ _ l0_1 [.slice A0_1 l0_1.length c0_1] from (Kd.FK_slice_mk (Kd.V_reads' (Kd.V_mono (ok' := (fun k_ => ((P0_0_ k_ ∨ P0_1_ k_) ∨ w.heap.size ≤ k_) ∧ k_ ≠ gb222)) (HO0_1.out) (fun k_ hk => ⟨hk.1, hk.2⟩))).2.1 (Kd.V_F (Kd.V_mono (ok' := (fun k_ => ((P0_0_ k_ ∨ P0_1_ k_) ∨ w.heap.size ≤ k_) ∧ k_ ≠ gb222)) (HO0_1.out) (fun k_ hk => ⟨hk.1, hk.2⟩))))) (Reps.none _ _)))); intro v224 w5 ho6 hb hg_ hnew_; clear hg_ hnew_; (first | rw [← Ny223.out] at ho6 | (simp only [Int.reduceToNat] at ho6; rw [← Ny223.out] at ho6)); have n_ := sq_n5 (Kd.V_elder' (au172) (Kd.N_base ho6) hb) (Kd.V_elder' (au173) (Kd.N_base ho6) hb) (Kd.N_lower ho6 (below_size (au68))) (blk_below (g := gb222) (o := .cells #[.slice A0_0 l0_0.length c0_0, .slice A0_1 l0_1.length c0_1, .int .u8 a0_2, .bool a0_3, .int .i64 a0_4, .int .i64 a0_5, .int .i64 a0_6, .slice A0_7 l0_7.length c0_7] 47 (0, 0)) (by (with_reducible repeat (first | refine blk_drewN ?_ _ | refine blk_drew ?_ | refine blk_alloc ?_ _)); exact BK222.out) hb) (below_step (au68) hb); clear HO0_0 HO0_1 BK222 HB; obtain ⟨HO0_0, HO0_1, HO225, BK222, HB⟩ := n_; clear hb ho6; obtain ⟨Ao7, co7, eo7⟩ := Kd.N_slice HO225.out; subst eo7) | ((with_reducible refine gate_callee (f := 114) rfl ?_); refine goesL_ (some 8) rfl rfl Tryd.func114 (by kernel_rfl) rfl #[.slice Ao7 y223.length co7] rfl (au2) ?_; (with_reducible refine (slices_Concat_uint8_uint8.calls k _ _ y223 t226 _ ?side1 ?side2 A2.out).mono ?_); (case side1 => repeat (first | exact (Kd.N_reads' HO225.out).2.2 | (with_reducible refine Kd.C_alloc ?_ _) | (with_reducible refine Kd.C_drewN ?_ _) | (with_reducible refine Kd.C_drew ?_))); (case side2 => exact (Kd.N_reads' HO225.out).2.1); rintro e w8 ⟨v227, rfl, ho0, hb⟩; refine ⟨_, rfl, ?_⟩; have n_ := sq_n6 (Kd.V_elder' (au172) (Kd.R_base ho0) hb) (Kd.V_elder' (au173) (Kd.R_base ho0) hb) (Kd.N_elder' (by (with_reducible repeat (first | apply Kd.N_alloc | apply Kd.N_drewN | apply Kd.N_drew)); first | exact HO225.out | exact Kd.N_mono (HO225.out) (fun _ h_ => h_.2)) (Kd.R_base ho0) hb) (Kd.R_lower (Kd.R_newM (M := fun k_ => (w.heap.size ≤ k_)) ho0 (below_size (au68)) (fun k_ h_ => h_)) (below_size (au68))) (blk_below (g := gb222) (o := .cells #[.slice A0_0 l0_0.length c0_0, .slice A0_1 l0_1.length c0_1, .int .u8 a0_2, .bool a0_3, .int .i64 a0_4, .int .i64 a0_5, .int .i64 a0_6, .slice A0_7 l0_7.length c0_7] 47 (0, 0)) (by (with_reducible repeat (first | refine blk_drewN ?_ _ | refine blk_drew ?_ | refine blk_alloc ?_ _)); exact BK222.out) hb) (below_step (au68) hb); clear HO0_0 HO0_1 HO225 BK222 HB; obtain ⟨HO0_0, HO0_1, HO225, HO228, BK222, HB⟩ := n_; (try clear hb); (try clear ho0)))
 go_ret; exact ⟨_, au7, by (with_reducible repeat (first | apply Kd.R_alloc | apply Kd.R_drewN | apply Kd.R_drew)); first | exact Kd.R_mono HO228.out (fun _ hk => hk.1) | exact Kd.R_mono (Kd.R_mono HO228.out (fun _ hk => hk.1)) (fun _ h_ => h_.2), au68⟩

/-! ### value_Inside: function 121 -/
def value_Inside.f (a0_0 : Int) (a0_1 : Int) (a0_2 : Int) : Option (Bool) := (value_May.f a0_0 a0_1 a0_2).bind fun t230 => (if t230 = true then (some true) else (some (a0_0 == 3 && (a0_1 == (mx a0_1 0) && (a0_2 == 0)))))
set_option maxHeartbeats 8000000 in
set_option maxRecDepth 100000 in
theorem value_Inside.calls (a0_0 : Int) (a0_1 : Int) (a0_2 : Int) (r : Bool) (w : World) (h : value_Inside.f a0_0 a0_1 a0_2 = some r) :
  Calls Tryd.prog 121 #[.agg #[.int .u8 a0_0, .int .i64 a0_1, .int .i64 a0_2]] w fun e w' => e = .returned (.bool r) ∧ Below w.heap.size w w' := by
 have hu73 := Tryd.underlying73; have HB := Aside0.mk (Below.refl w.heap.size w); have H := h; unfold value_Inside.f at H; clear h; obtain ⟨t230, A2, H⟩ := sq_bind H
 by_cases c3 : t230 = true
 ·
  subst c3
  rw [if_pos rfl] at H; obtain rfl := Option.some.inj H
  go_enter Tryd.func121, Tryd.ntmps121
  go_wp2_with (first | ((with_reducible refine gate_dst (N := 1) rfl ?_); (try (refine gate_guard (by rfl) ?_; dsimp only)); refine sq_box (N := 1) (cs := #[.int .u8 a0_0, .int .i64 a0_1, .int .i64 a0_2]) (t := 73) ?_; intro gb229 hg w4 hbox hb; have n_ := sq_n4 (below_step (au1) hb) hbox ((au25 : w.heap.size ≤ gb229)) ((au25 : w.heap.size ≤ gb229)); clear HB; obtain ⟨HB, BK229, GW229, GE229⟩ := n_; clear hb hbox hg; have hz5 := blk_all3 BK229.out) | ((with_reducible refine gate_callee (f := 57) rfl ?_); refine goesL_ (some 4) rfl rfl Tryd.func57 (by kernel_rfl) rfl #[.agg #[.int .u8 a0_0, .int .i64 a0_1, .int .i64 a0_2]] rfl (au2) ?_; (with_reducible refine (value_May.calls a0_0 a0_1 a0_2 true _ A2.out).mono ?_); rintro e w6 ⟨rfl, hb⟩; refine ⟨_, rfl, ?_⟩; have n_ := sq_n2 (blk_below (g := gb229) (o := .cells #[.int .u8 a0_0, .int .i64 a0_1, .int .i64 a0_2] 73 (0, 0)) (by (with_reducible repeat (first | refine blk_drewN ?_ _ | refine blk_drew ?_ | refine blk_alloc ?_ _)); exact BK229.out) hb) (below_step (au120) hb); clear BK229 HB; obtain ⟨BK229, HB⟩ := n_; (try clear hb)))
  go_ret; exact ⟨au7, au120⟩
 ·
  replace c3 := Bool.eq_false_iff.mpr c3; subst c3
  rw [sq_f] at H; obtain ⟨ji7, hji7⟩ : ∃ j_ : Int, (mx a0_1 0) = j_ := ⟨_, rfl⟩
  replace H : (some (a0_0 == 3 && (a0_1 == (ji7) && (a0_2 == 0)))) = some r := by first | (rw [hji7] at H; exact H) | (simp only [hji7] at H ⊢; exact H)
  (try rw [hji7] at A2); (try (have hji7l : 0 ≤ ji7 := by (rw [← hji7]; unfold mx; (repeat' split) <;> omega))); (try (have hji7m : 0 ≤ ji7 := by omega)); have hji7_ : (if a0_1 < 0 then 0 else a0_1) = ji7 := hji7; obtain rfl := Option.some.inj H
  go_enter Tryd.func121, Tryd.ntmps121
  go_wp2_with (first | ((with_reducible refine gate_dst (N := 1) rfl ?_); (try (refine gate_guard (by rfl) ?_; dsimp only)); refine sq_box (N := 1) (cs := #[.int .u8 a0_0, .int .i64 a0_1, .int .i64 a0_2]) (t := 73) ?_; intro gb229 hg w8 hbox hb; have n_ := sq_n4 (below_step (au1) hb) hbox ((au25 : w.heap.size ≤ gb229)) ((au25 : w.heap.size ≤ gb229)); clear HB; obtain ⟨HB, BK229, GW229, GE229⟩ := n_; clear hb hbox hg; have hz9 := blk_all3 BK229.out) | ((with_reducible refine gate_callee (f := 57) rfl ?_); refine goesL_ (some 4) rfl rfl Tryd.func57 (by kernel_rfl) rfl #[.agg #[.int .u8 a0_0, .int .i64 a0_1, .int .i64 a0_2]] rfl (au2) ?_; (with_reducible refine (value_May.calls a0_0 a0_1 a0_2 false _ A2.out).mono ?_); rintro e w10 ⟨rfl, hb⟩; refine ⟨_, rfl, ?_⟩; have n_ := sq_n2 (blk_below (g := gb229) (o := .cells #[.int .u8 a0_0, .int .i64 a0_1, .int .i64 a0_2] 73 (0, 0)) (by (with_reducible repeat (first | refine blk_drewN ?_ _ | refine blk_drew ?_ | refine blk_alloc ?_ _)); exact BK229.out) hb) (below_step (au120) hb); clear BK229 HB; obtain ⟨BK229, HB⟩ := n_; (try clear hb); have hz11 := blk_all3 BK229.out))
  go_ret; exact ⟨by first | rfl | (simp [errW_none, errW_some] <;> rfl) | (simp only [← hji7]; first | rfl | (simp [errW_none, errW_some] <;> rfl)) | (simp [*, errW_none, errW_some] <;> rfl), au120⟩

/-! ### value_Zero: function 115 -/
def value_Zero.f (a0 : Int) : Option (Int × Int × Int × Bool) := (value_Inside.f a0 0 0).bind fun t233 => (if t233 = true then (some (a0, 0, 0, true)) else (some (0, 0, 0, false)))
set_option maxHeartbeats 8000000 in
set_option maxRecDepth 100000 in
theorem value_Zero.calls (a0 : Int) (r1 : Int) (r2 : Int) (r3 : Int) (r4 : Bool) (w : World) (h : value_Zero.f a0 = some (r1, r2, r3, r4)) :
  Calls Tryd.prog 115 #[.int .u8 a0] w fun e w' => e = .returned (.tuple #[.agg #[.int .u8 r1, .int .i64 r2, .int .i64 r3], .bool r4]) ∧ Below w.heap.size w w' := by
 have hu73 := Tryd.underlying73; have HB := Aside0.mk (Below.refl w.heap.size w); have H := h; unfold value_Zero.f at H; clear h; obtain ⟨t233, A2, H⟩ := sq_bind H
 by_cases c3 : t233 = true
 ·
  subst c3
  rw [if_pos rfl] at H; simp only [Option.some.injEq, Prod.mk.injEq] at H; obtain ⟨rfl, rfl, rfl, rfl⟩ := H
  go_enter Tryd.func115, Tryd.ntmps115
  go_wp2_with (first | ((with_reducible refine gate_dst (N := 2) rfl ?_); refine sq_box (N := 2) (cs := #[.int .u8 0, .int .i64 0, .int .i64 0]) (t := 73) ?_; intro gb231 hg w4 hbox hb; have n_ := sq_n4 (below_step (au1) hb) hbox ((au25 : w.heap.size ≤ gb231)) ((au25 : w.heap.size ≤ gb231)); clear HB; obtain ⟨HB, BK231, GW231, GE231⟩ := n_; clear hb hbox hg) | ((with_reducible refine gate_dst (N := 4) rfl ?_); refine sq_box (N := 4) (cs := #[.int .u8 0, .int .i64 0, .int .i64 0]) (t := 73) ?_; intro gb232 hg w5 hbox hb; have n_ := sq_n7 (blk_below (g := gb231) (o := .cells #[.int .u8 0, .int .i64 0, .int .i64 0] 73 (0, 0)) (au131) hb) (below_step (au80) hb) hbox ((by rw [hg]; exact (below_size (au80)) : w.heap.size ≤ gb232)) ((by rw [hg]; exact (below_size (au80)) : w.heap.size ≤ gb232)) ((by rw [hg]; exact Nat.ne_of_lt (blk_lt (g := gb231) (o := .cells #[.int .u8 0, .int .i64 0, .int .i64 0] 73 (0, 0)) (au131)) : gb231 ≠ gb232)) ((by rw [hg]; exact Nat.ne_of_gt (blk_lt (g := gb231) (o := .cells #[.int .u8 0, .int .i64 0, .int .i64 0] 73 (0, 0)) (au131)) : gb232 ≠ gb231)); clear BK231 HB; obtain ⟨BK231, HB, BK232, GW232, GE232, NB231_232, NB232_231⟩ := n_; clear hb hbox hg; have hnb6 := NB232_231.out; have hnc6 := NB231_232.out; have hz7 := blk_all3 BK232.out) | ((with_reducible refine gate_callee (f := 121) rfl ?_); refine goesL_ (some 8) rfl rfl Tryd.func121 (by kernel_rfl) rfl #[.agg #[.int .u8 a0, .int .i64 0, .int .i64 0]] rfl (au2) ?_; (with_reducible refine (value_Inside.calls a0 0 0 true _ A2.out).mono ?_); rintro e w8 ⟨rfl, hb⟩; refine ⟨_, rfl, ?_⟩; have n_ := sq_n3 (blk_below (g := gb231) (o := .cells #[.int .u8 0, .int .i64 0, .int .i64 0] 73 (0, 0)) (au137) hb) (blk_below (g := gb232) (o := .cells #[.int .u8 a0, .int .i64 0, .int .i64 0] 73 (0, 0)) (au126) hb) (below_step (au108) hb); clear BK231 BK232 HB; obtain ⟨BK231, BK232, HB⟩ := n_; (try clear hb); have hz9 := blk_all3 BK232.out; have hz10 := blk_all3 BK231.out))
  refine bodyPost_ret (results_ct rfl _ _ gb231 73 #[.int .u8 a0, .int .i64 0, .int .i64 0] (0, 0) _ rfl (by (with_reducible repeat (first | refine blk_drewN ?_ _ | refine blk_drew ?_ | refine blk_alloc ?_ _)); refine blk_put (cs := #[.int .u8 a0, .int .i64 0, .int .i64 0]) ?_ 2 _ rfl; (with_reducible repeat (first | refine blk_drewN ?_ _ | refine blk_drew ?_ | refine blk_alloc ?_ _)); refine blk_put (cs := #[.int .u8 a0, .int .i64 0, .int .i64 0]) ?_ 1 _ rfl; (with_reducible repeat (first | refine blk_drewN ?_ _ | refine blk_drew ?_ | refine blk_alloc ?_ _)); refine blk_put (cs := #[.int .u8 0, .int .i64 0, .int .i64 0]) ?_ 0 _ rfl; (with_reducible repeat (first | refine blk_drewN ?_ _ | refine blk_drew ?_ | refine blk_alloc ?_ _)); exact BK231.out) Tryd.underlying73 rfl (by kernel_rfl)) rfl ?_; exact ⟨au7, au108⟩
 ·
  replace c3 := Bool.eq_false_iff.mpr c3; subst c3
  rw [sq_f] at H; simp only [Option.some.injEq, Prod.mk.injEq] at H; obtain ⟨rfl, rfl, rfl, rfl⟩ := H
  go_enter Tryd.func115, Tryd.ntmps115
  go_wp2_with (first | ((with_reducible refine gate_dst (N := 2) rfl ?_); refine sq_box (N := 2) (cs := #[.int .u8 0, .int .i64 0, .int .i64 0]) (t := 73) ?_; intro gb231 hg w11 hbox hb; have n_ := sq_n4 (below_step (au1) hb) hbox ((au25 : w.heap.size ≤ gb231)) ((au25 : w.heap.size ≤ gb231)); clear HB; obtain ⟨HB, BK231, GW231, GE231⟩ := n_; clear hb hbox hg) | ((with_reducible refine gate_dst (N := 4) rfl ?_); refine sq_box (N := 4) (cs := #[.int .u8 0, .int .i64 0, .int .i64 0]) (t := 73) ?_; intro gb232 hg w12 hbox hb; have n_ := sq_n7 (blk_below (g := gb231) (o := .cells #[.int .u8 0, .int .i64 0, .int .i64 0] 73 (0, 0)) (au131) hb) (below_step (au80) hb) hbox ((by rw [hg]; exact (below_size (au80)) : w.heap.size ≤ gb232)) ((by rw [hg]; exact (below_size (au80)) : w.heap.size ≤ gb232)) ((by rw [hg]; exact Nat.ne_of_lt (blk_lt (g := gb231) (o := .cells #[.int .u8 0, .int .i64 0, .int .i64 0] 73 (0, 0)) (au131)) : gb231 ≠ gb232)) ((by rw [hg]; exact Nat.ne_of_gt (blk_lt (g := gb231) (o := .cells #[.int .u8 0, .int .i64 0, .int .i64 0] 73 (0, 0)) (au131)) : gb232 ≠ gb231)); clear BK231 HB; obtain ⟨BK231, HB, BK232, GW232, GE232, NB231_232, NB232_231⟩ := n_; clear hb hbox hg; have hnb13 := NB232_231.out; have hnc13 := NB231_232.out; have hz14 := blk_all3 BK232.out) | ((with_reducible refine gate_callee (f := 121) rfl ?_); refine goesL_ (some 8) rfl rfl Tryd.func121 (by kernel_rfl) rfl #[.agg #[.int .u8 a0, .int .i64 0, .int .i64 0]] rfl (au2) ?_; (with_reducible refine (value_Inside.calls a0 0 0 false _ A2.out).mono ?_); rintro e w15 ⟨rfl, hb⟩; refine ⟨_, rfl, ?_⟩; have n_ := sq_n3 (blk_below (g := gb231) (o := .cells #[.int .u8 0, .int .i64 0, .int .i64 0] 73 (0, 0)) (au137) hb) (blk_below (g := gb232) (o := .cells #[.int .u8 a0, .int .i64 0, .int .i64 0] 73 (0, 0)) (au126) hb) (below_step (au108) hb); clear BK231 BK232 HB; obtain ⟨BK231, BK232, HB⟩ := n_; (try clear hb); have hz16 := blk_all3 BK231.out))
  refine bodyPost_ret (results_ct rfl _ _ gb231 73 #[.int .u8 0, .int .i64 0, .int .i64 0] (0, 0) _ rfl (by (with_reducible repeat (first | refine blk_drewN ?_ _ | refine blk_drew ?_ | refine blk_alloc ?_ _)); refine blk_put (cs := #[.int .u8 0, .int .i64 0, .int .i64 0]) ?_ 2 _ rfl; (with_reducible repeat (first | refine blk_drewN ?_ _ | refine blk_drew ?_ | refine blk_alloc ?_ _)); refine blk_put (cs := #[.int .u8 0, .int .i64 0, .int .i64 0]) ?_ 1 _ rfl; (with_reducible repeat (first | refine blk_drewN ?_ _ | refine blk_drew ?_ | refine blk_alloc ?_ _)); refine blk_put (cs := #[.int .u8 0, .int .i64 0, .int .i64 0]) ?_ 0 _ rfl; (with_reducible repeat (first | refine blk_drewN ?_ _ | refine blk_drew ?_ | refine blk_alloc ?_ _)); exact BK231.out) Tryd.underlying73 rfl (by kernel_rfl)) rfl ?_; exact ⟨au7, au108⟩

/-! ### method_local: function 92 -/
def method_local.f (a0 : Int) : Option (Bool) := (value_Zero.f a0).bind fun bt234 => (some bt234.2.2.2)
set_option maxHeartbeats 8000000 in
set_option maxRecDepth 100000 in
theorem method_local.calls (a0 : Int) (r : Bool) (w : World) (h : method_local.f a0 = some r) :
  Calls Tryd.prog 92 #[.int .u8 a0] w fun e w' => e = .returned (.bool r) ∧ Below w.heap.size w w' := by
 have hu73 := Tryd.underlying73; have HB := Aside0.mk (Below.refl w.heap.size w); have H := h; unfold method_local.f at H; clear h; obtain ⟨⟨t234, t235, t236, t237⟩, A2, H⟩ := sq_bind H; dsimp only at H; obtain rfl := Option.some.inj H
 go_enter Tryd.func92, Tryd.ntmps92
 go_wp2_with (first | ((with_reducible refine gate_callee (f := 115) rfl ?_); refine goesL_ (some 7) rfl rfl Tryd.func115 (by kernel_rfl) rfl #[.int .u8 a0] rfl (au2) ?_; (with_reducible refine (value_Zero.calls a0 t234 t235 t236 t237 _ A2.out).mono ?_); rintro e w3 ⟨rfl, hb⟩; refine ⟨_, rfl, ?_⟩; replace HB := Aside0.mk (below_step (au1) hb); (try clear hb)) | ((with_reducible refine gate_dst (N := 3) rfl ?_); refine sq_box (N := 3) (cs := #[.int .u8 0, .int .i64 0, .int .i64 0]) (t := 73) ?_; intro gb238 hg w4 hbox hb; have n_ := sq_n4 (below_step (au1) hb) hbox ((au25 : w.heap.size ≤ gb238)) ((au25 : w.heap.size ≤ gb238)); clear HB; obtain ⟨HB, BK238, GW238, GE238⟩ := n_; clear hb hbox hg; have hz5 := blk_all3 BK238.out))
 go_ret; exact ⟨au7, by repeat (first | (with_reducible first | exact HB.out | apply below_alloc | apply pw_below_drewN | apply below_drew1 | refine below_set ?_ GE238.out) | exact HB.out | exact ⟨HB.out.os, HB.out.tape, HB.out.output, HB.out.size, HB.out.block⟩)⟩

/-! ### method_within: function 93 -/
def method_within.f (a0 : Int) (a1 : Int) : Option (Bool) := if a0 ≥ 0 then (some (decide (a0 ≤ a1))) else (some false)
set_option maxHeartbeats 8000000 in
set_option maxRecDepth 100000 in
theorem method_within.calls (a0 : Int) (a1 : Int) (r : Bool) (w : World) (h : method_within.f a0 a1 = some r) :
  Calls Tryd.prog 93 #[.int .i64 a0, .int .i64 a1] w fun e w' => e = .returned (.bool r) ∧ Drawn0 w w' := by
 have H := h; unfold method_within.f at H; clear h
 by_cases c3 : a0 ≥ 0
 ·
  rw [if_pos c3] at H; have c3b0 : decide (0 ≤ a0) = true := decide_eq_true c3; clear c3; obtain rfl := Option.some.inj H
  go_enter Tryd.func93, Tryd.ntmps93
  go_wp2; go_ret; exact ⟨au16, au30⟩
 ·
  rw [if_neg c3] at H; have c3b0 : decide (0 ≤ a0) = false := decide_eq_false c3; clear c3; obtain rfl := Option.some.inj H
  go_enter Tryd.func93, Tryd.ntmps93
  go_wp2; go_ret; exact ⟨au16, au30⟩

end Go.Proofs.YthmjblmdbcmjcaaDoor.B
