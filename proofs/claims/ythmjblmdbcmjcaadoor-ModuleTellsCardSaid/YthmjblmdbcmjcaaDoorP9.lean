/- Contracts of functions of this seat. -/
import Derived.Test.YthmjblmdbcmjcaaDoorP0
import Derived.Test.YthmjblmdbcmjcaaDoorP8
namespace Go.Proofs.YthmjblmdbcmjcaaDoor.P
open Go.RowKit Go.Proofs.YthmjblmdbcmjcaaDoorW.PrintWords Go.Proofs.YthmjblmdbcmjcaaDoorW.PrintLast Go.Proofs.YthmjblmdbcmjcaaDoorW.PrintMore
attribute [local go_sem] max2_int min2_int max_two min_two max_three min_three max_four min_four
set_option linter.unusedVariables false
set_option linter.unusedSimpArgs false

/-! ### capstanref06_Bytes: function 45 -/
def capstanref06_Bytes.l0 : Nat → List (S73) → List Int → Int → Option (List Int × Int)
 | 0, _, _, _ => none
 | k + 1, x0, x4, x5 => if x5 < (x0.length : Int) then (if 0 ≤ x5 then ((capstanref03_Bytes.f k ((rd_T73 x0 x5).f0) ((rd_T73 x0 x5).f1) ((rd_T73 x0 x5).f2)).bind fun bt208 => (if x4.length + bt208.1.length < 140737488355328 then (capstanref06_Bytes.l0 k x0 (x4 ++ bt208.1) (wrap64 (x5 + 1))) else (none))) else (none)) else (some (x4, 0))
def capstanref06_Bytes.f (k : Nat) (l0 : List (S73)) : Option (List Int × Int) := (capstanref06_May.f k l0).bind fun t203 => (if t203 = true then (capstanref06_Bytes.l0 k l0 (([((l0.length : Int)) % 256] : List Int)) 0) else (some (([] : List Int), 60)))
theorem capstanref06_Bytes.mono_l : ∀ k, (∀ y0 y1 y2, LeO (capstanref06_Bytes.l0 k y0 y1 y2) (capstanref06_Bytes.l0 (k + 1) y0 y1 y2))
 | 0 => fun _ _ _ r h => by simp [capstanref06_Bytes.l0] at h
 | k + 1 => by
  have ih0 := capstanref06_Bytes.mono_l k
  ·
   intro y0 y1 y2
   unfold capstanref06_Bytes.l0
   repeat' first | (with_reducible first | apply ih0 | apply capstanref03_Bytes.mono | apply capstanref06_May.mono | apply LeO.refl | apply LeO.none | refine LeO.ite ?_ ?_ | refine LeO.bind ?_ (fun _ => ?_)) | apply ih0 | apply capstanref03_Bytes.mono | apply capstanref06_May.mono | apply LeO.none | refine LeO.ite ?_ ?_ | refine LeO.bind ?_ (fun _ => ?_)
theorem capstanref06_Bytes.mono : ∀ a0 k, LeO (capstanref06_Bytes.f k a0) (capstanref06_Bytes.f (k + 1) a0) := by
 intro a0 k; have ih0 := capstanref06_Bytes.mono_l k
 unfold capstanref06_Bytes.f
 repeat' first | (with_reducible first | apply ih0 | apply capstanref03_Bytes.mono | apply capstanref06_May.mono | apply LeO.refl | apply LeO.none | refine LeO.ite ?_ ?_ | refine LeO.bind ?_ (fun _ => ?_)) | apply ih0 | apply capstanref03_Bytes.mono | apply capstanref06_May.mono | apply LeO.none | refine LeO.ite ?_ ?_ | refine LeO.bind ?_ (fun _ => ?_)
set_option maxHeartbeats 8000000 in
set_option maxRecDepth 100000 in
theorem capstanref06_Bytes.calls (k : Nat) (A0 : Option Addr) (c0 : Nat) (l0 : List (S73)) (r1 : List Int) (r2 : Int) (w : World) (hr0 : Kd.C k73 w A0 l0.length l0) (hc0 : l0.length ≤ c0) (h : capstanref06_Bytes.f k l0 = some (r1, r2)) :
  Calls Tryd.prog 45 #[.slice A0 l0.length c0] w fun e w' => ∃ v0_ : Value, e = .returned (.tuple #[v0_, .int .i64 r2]) ∧ Kd.R (Kd.int .u8) 5 w' w.heap.size (fun _ => True) v0_ r1 ∧ Below w.heap.size w w' := by
 have hu73 := Tryd.underlying73; have HR0 := Aside0.mk hr0; have HC0 := Aside0.mk hc0; clear hr0 hc0; have HB := Aside0.mk (Below.refl w.heap.size w); have H := h; unfold capstanref06_Bytes.f at H; clear h; obtain ⟨t203, A2, H⟩ := sq_bind H
 by_cases c3 : t203 = true
 rotate_left
 ·
  replace c3 := Bool.eq_false_iff.mpr c3; subst c3
  rw [sq_f] at H; simp only [Option.some.injEq, Prod.mk.injEq] at H; obtain ⟨rfl, rfl⟩ := H
  go_enter Tryd.func45, Tryd.ntmps45
  go_wp2_with (first | ((with_reducible refine gate_callee (f := 79) rfl ?_); refine goesL_ (some 9) rfl rfl Tryd.func79 (by kernel_rfl) rfl #[.slice A0 l0.length c0] rfl (au2) ?_; (with_reducible refine (capstanref06_May.calls k _ _ l0 false _ ?side1 ?side2 A2.out).mono ?_); (case side1 => exact au62); (case side2 => exact HC0.out); rintro e w14 ⟨rfl, hb⟩; refine ⟨_, rfl, ?_⟩; replace HB := Aside0.mk (below_step (au1) hb); (try clear hb)))
  go_ret2
  exact ⟨_, au4, au27, au1⟩

 subst c3
 rw [if_pos rfl] at H; obtain ⟨y204, hy204⟩ : ∃ y_ : List Int, y_ = (([((l0.length : Int)) % 256] : List Int)) := ⟨_, rfl⟩; rw [← hy204] at H; have Ny204 := Aside0.mk hy204; clear hy204; have H' := Aside0.mk H; clear H
 go_enter Tryd.func45, Tryd.ntmps45
 go_wp2_with (first | ((with_reducible refine gate_callee (f := 79) rfl ?_); refine goesL_ (some 9) rfl rfl Tryd.func79 (by kernel_rfl) rfl #[.slice A0 l0.length c0] rfl (au2) ?_; (with_reducible refine (capstanref06_May.calls k _ _ l0 true _ ?side1 ?side2 A2.out).mono ?_); (case side1 => exact au62); (case side2 => exact HC0.out); rintro e w4 ⟨rfl, hb⟩; refine ⟨_, rfl, ?_⟩; replace HB := Aside0.mk (below_step (au1) hb); (try clear hb)) | ((with_reducible refine gate_dst (N := 14) rfl ?_); refine Kd.R_lit (Kd.int .u8) _ 5 ?hg (N := 14) ?hd (xs := ([((l0.length : Int)) % 256] : List Int)) (inner := [.int .u8 (((l0.length : Int)) % 256)]) (ok := fun _ => True) (okp := fun _ => True) ?hr ?hp (fun _ hk => hk) trivial (Below.refl _ _) (Nat.le_refl _) (by simp) ?_; (case hd => rfl); (case hg => rfl); (case hr => first | (go_simp; done) | (go_simp; rfl)); (case hp => exact (Reps.one (show Kd.M (Kd.int .u8) _ _ _ (((l0.length : Int)) % 256) [.int .u8 (((l0.length : Int)) % 256)] from rfl) (Reps.none _ _))); intro v205 w5 ho6 hb hg_ hnew_; clear hg_ hnew_; (first | rw [← Ny204.out] at ho6 | (simp only [Int.reduceToNat] at ho6; rw [← Ny204.out] at ho6)); have n_ := sq_n2 (Kd.R_lower ho6 (below_size (au1))) (below_step (au1) hb); clear HB; obtain ⟨HO206, HB⟩ := n_; clear hb ho6))
 go_loopg [4, 5] k (fun kq v4 v5 w' => ∃ (x4_1 : List Int) (x5_1 : Int), v5 = .int .i64 x5_1 ∧ Aside0 (capstanref06_Bytes.l0 kq l0 x4_1 x5_1 = some (r1, r2)) ∧ Aside0 (kq ≤ k) ∧ Aside0 (Kd.R (Kd.int .u8) 5 w' w.heap.size (fun _ => True) v4 x4_1) ∧ Aside0 (Below w.heap.size w w'))
 case atStart => exact ⟨(y204), (0), (au11), H', ⟨Nat.le_refl _⟩, ⟨by (with_reducible repeat (first | apply Kd.R_alloc | apply Kd.R_drewN | apply Kd.R_drew)); first | exact HO206.out | exact Kd.R_mono (HO206.out) (fun _ h_ => h_.2)⟩, ⟨au1⟩⟩
 case round =>
  clear H'; (try clear p2); (try clear c3); (try clear c4); obtain ⟨x4_1, x5_1, rfl, HA, HK1, HO_4, HB⟩ := hrel
  cases gk with
  | zero => exact absurd HA.out (by simp [capstanref06_Bytes.l0])
  | succ k1 =>
   have H := HA.out; clear HA; simp only [capstanref06_Bytes.l0] at H
   by_cases c7 : x5_1 < (l0.length : Int)
   rotate_left
   ·
    rw [if_neg c7] at H; have c7b0 : decide (x5_1 < (l0.length : Int)) = false := decide_eq_false c7; clear c7; simp only [Option.some.injEq, Prod.mk.injEq] at H; obtain ⟨rfl, rfl⟩ := H; go_wp2
    go_ret2
    exact ⟨_, au4, au13, au1⟩
   rw [if_pos c7] at H; have c7b0 : decide (x5_1 < (l0.length : Int)) = true := decide_eq_true c7; clear c7
   by_cases c8 : 0 ≤ x5_1
   rotate_left
   · rw [if_neg c8] at H; exact absurd H (by simp)
   rw [if_pos c8] at H; have c8b0 : decide (0 ≤ x5_1) = true := decide_eq_true c8; clear c8; obtain ⟨⟨t208, t211⟩, A9, H⟩ := sq_bind H; dsimp only at H
   by_cases c10 : x4_1.length + t208.length < 140737488355328
   rotate_left
   · rw [if_neg c10] at H; exact absurd H (by simp)
   rw [if_pos c10] at H; have LMc10 := Aside0.mk c10; clear c10; obtain ⟨y212, hy212⟩ : ∃ y_ : List Int, y_ = (x4_1 ++ t208) := ⟨_, rfl⟩; rw [← hy212] at H; have Ny212 := Aside0.mk hy212; clear hy212; have H' := Aside0.mk H; clear H; have p207 : 0 ≤ (x5_1 : Int) := of_decide_eq_true (au9); have q207 : x5_1 < (l0.length : Int) := of_decide_eq_true (au9); obtain ⟨ad207, e207, hx207_0, hx207_1, hx207_2⟩ := at_T73 HR0.out x5_1 p207 q207; cases e207; replace hx207_0 := sq_c HB hx207_0; replace hx207_1 := sq_c HB hx207_1; replace hx207_2 := sq_c HB hx207_2; replace p207 := eq_true p207; replace q207 := eq_true q207
   go_wp2_with (first | ((with_reducible refine gate_callee (f := 80) rfl ?_); refine goesL_ (some 26) rfl rfl Tryd.func80 (by kernel_rfl) rfl #[.agg #[.int .u8 ((rd_T73 l0 x5_1).f0), .int .i64 ((rd_T73 l0 x5_1).f1), .int .i64 ((rd_T73 l0 x5_1).f2)]] rfl (au2) ?_; (with_reducible refine (capstanref03_Bytes.calls k1 ((rd_T73 l0 x5_1).f0) ((rd_T73 l0 x5_1).f1) ((rd_T73 l0 x5_1).f2) t208 t211 _ A9.out).mono ?_); rintro e w11 ⟨v209, rfl, ho0, hb⟩; refine ⟨_, rfl, ?_⟩; have n_ := sq_n3 (Kd.R_elder' (au13) (Kd.R_base ho0) hb) (Kd.R_lower (Kd.R_new' ho0 (Kd.R_lt (au13))) (below_size (au1))) (below_step (au1) hb); clear HO_4 HB; obtain ⟨HO_4, HO210, HB⟩ := n_; (try clear hb); (try clear ho0); obtain ⟨Ao13, co13, eo13⟩ := Kd.R_slice HO210.out; subst eo13) | ((with_reducible refine gate_builtin (b := .append) (xs := #[.tmp 29, .tmp 30]) rfl ?_); at_builtin; refine Kd.R_append_rows (Kd.int .u8) (w0 := w) w.heap.size rfl (.tmp 29) (.tmp 30) 22 5 (.int .u8 0) 1 rfl Tryd.underlying22 info5 rfl (by decide) (by omega) u4 x4_1 t208 _ _ _ (fun k_ => some k_ ≠ (.slice Ao13 t208.length co13 : Value).ownBlock) (fun _ => False) rfl rfl ?aO ?aR (fun _ _ h => h) (fun _ h => h.elim) ?aF ?aB ?aS ?aL ?_; (case aR => repeat (first | exact (Kd.R_reads' HO210.out).2.2 | (with_reducible refine Kd.C_alloc ?_ _) | (with_reducible refine Kd.C_drewN ?_ _) | (with_reducible refine Kd.C_drew ?_))); (case aB => exact (au1)); (case aF => exact (fun k_ hk => Kd.fresh' (Kd.R_lt (by (with_reducible repeat (first | apply Kd.R_alloc | apply Kd.R_drewN | apply Kd.R_drew)); first | exact HO210.out | exact Kd.R_mono (HO210.out) (fun _ h_ => h_.2))) k_ hk)); (case aO => exact (au112)); (case aS => exact (below_size (au1))); (case aL => have := LMc10.out; omega); intro v213 w12 ho hb hg hat; rw [← Ny212.out] at ho; have n_ := sq_n3 (Kd.R_after (ok := (fun _ => True)) (by (with_reducible repeat (first | apply Kd.R_alloc | apply Kd.R_drewN | apply Kd.R_drew)); first | exact HO210.out | exact Kd.R_mono (HO210.out) (fun _ h_ => h_.2)) hg hat) hb ho; clear HO210 HB HO_4; obtain ⟨HO210, HB, HO214⟩ := n_; clear ho hb hg hat))
   go_roundg k1
   case measure => have := HK1.out; omega
   case rel => exact ⟨(y212), (wrap64 (x5_1 + 1)), (au11), H', ⟨by have := HK1.out; omega⟩, ⟨by (with_reducible repeat (first | apply Kd.R_alloc | apply Kd.R_drewN | apply Kd.R_drew)); first | exact Kd.R_mono HO214.out (fun _ hk => trivial) | exact Kd.R_mono (Kd.R_mono HO214.out (fun _ hk => trivial)) (fun _ h_ => h_.2)⟩, ⟨au1⟩⟩
/-! ### capstanref07_kinds: function 101 -/
def capstanref07_kinds.l0 : Nat → List Int → Int → Option (Bool)
 | 0, _, _ => none
 | k + 1, x0, x3 => if x3 < (x0.length : Int) then (if 0 ≤ x3 then (if (rd x0 x3) = 1 then (capstanref07_kinds.l0 k x0 (wrap64 (x3 + 1))) else (if (rd x0 x3) = 2 then (capstanref07_kinds.l0 k x0 (wrap64 (x3 + 1))) else (if (rd x0 x3) = 3 then (capstanref07_kinds.l0 k x0 (wrap64 (x3 + 1))) else (some false)))) else (none)) else (some true)
def capstanref07_kinds.f (k : Nat) (l0 : List Int) : Option (Bool) := capstanref07_kinds.l0 k l0 0
theorem capstanref07_kinds.mono_l : ∀ k, (∀ y0 y1, LeO (capstanref07_kinds.l0 k y0 y1) (capstanref07_kinds.l0 (k + 1) y0 y1))
 | 0 => fun _ _ r h => by simp [capstanref07_kinds.l0] at h
 | k + 1 => by
  have ih0 := capstanref07_kinds.mono_l k
  ·
   intro y0 y1
   unfold capstanref07_kinds.l0
   repeat' first | (with_reducible first | apply ih0 | apply LeO.refl | apply LeO.none | refine LeO.ite ?_ ?_ | refine LeO.bind ?_ (fun _ => ?_)) | apply ih0 | apply LeO.none | refine LeO.ite ?_ ?_ | refine LeO.bind ?_ (fun _ => ?_)
theorem capstanref07_kinds.mono : ∀ a0 k, LeO (capstanref07_kinds.f k a0) (capstanref07_kinds.f (k + 1) a0) := by
 intro a0 k; have ih0 := capstanref07_kinds.mono_l k
 unfold capstanref07_kinds.f
 repeat' first | (with_reducible first | apply ih0 | apply LeO.refl | apply LeO.none | refine LeO.ite ?_ ?_ | refine LeO.bind ?_ (fun _ => ?_)) | apply ih0 | apply LeO.none | refine LeO.ite ?_ ?_ | refine LeO.bind ?_ (fun _ => ?_)
set_option maxHeartbeats 8000000 in
set_option maxRecDepth 100000 in
theorem capstanref07_kinds.calls (k : Nat) (A0 : Option Addr) (c0 : Nat) (l0 : List Int) (r : Bool) (w : World) (hr0 : Kd.C (Kd.int .u8) w A0 l0.length l0) (hc0 : l0.length ≤ c0) (h : capstanref07_kinds.f k l0 = some r) :
  Calls Tryd.prog 101 #[.slice A0 l0.length c0] w fun e w' => e = .returned (.bool r) ∧ Drawn0 w w' := by
 have HR0 := Aside0.mk hr0; have HC0 := Aside0.mk hc0; clear hr0 hc0; have H : (capstanref07_kinds.l0 k l0 0) = some r := h; clear h; have H' := Aside0.mk H; clear H
 go_enter Tryd.func101, Tryd.ntmps101
 go_wp2
 go_loopg [3] k (fun kq v3 w' => ∃ (x3_1 : Int), v3 = .int .i64 x3_1 ∧ Aside0 (capstanref07_kinds.l0 kq l0 x3_1 = some r) ∧ Aside0 (kq ≤ k) ∧ Drawn0 w w')
 case atStart => exact ⟨(0), (au11), H', ⟨Nat.le_refl _⟩, au25⟩
 case round =>
  clear H'; (try clear c1); obtain ⟨x3_1, rfl, HA, HK1, ⟨m1, rfl⟩⟩ := hrel
  cases gk with
  | zero => exact absurd HA.out (by simp [capstanref07_kinds.l0])
  | succ k1 =>
   have H := HA.out; clear HA; simp only [capstanref07_kinds.l0] at H
   by_cases c2 : x3_1 < (l0.length : Int)
   rotate_left
   · rw [if_neg c2] at H; have c2b0 : decide (x3_1 < (l0.length : Int)) = false := decide_eq_false c2; clear c2; obtain rfl := Option.some.inj H; go_wp2; go_ret; exact ⟨au11, au25⟩

   rw [if_pos c2] at H; have c2b0 : decide (x3_1 < (l0.length : Int)) = true := decide_eq_true c2; clear c2
   by_cases c3 : 0 ≤ x3_1
   rotate_left
   · rw [if_neg c3] at H; exact absurd H (by simp)
   rw [if_pos c3] at H; have c3b0 : decide (0 ≤ x3_1) = true := decide_eq_true c3; clear c3
   by_cases c4 : (rd l0 x3_1) = 1
   ·
    rw [if_pos c4] at H; have c4b0 := beq_iff_eq.mpr c4; have c4b1 := bne_eq_false_iff_eq.mpr c4; clear c4; have H' := Aside0.mk H; clear H; have p215 : 0 ≤ (x3_1 : Int) := of_decide_eq_true (au9); have q215 : x3_1 < (l0.length : Int) := of_decide_eq_true (au9); obtain ⟨ad215, e215, hx215_0⟩ := Kd.at_int HR0.out x3_1 p215 q215; cases e215; replace p215 := eq_true p215; replace q215 := eq_true q215; go_wp2
    go_roundg k1
    case measure => have := HK1.out; omega
    case rel => exact ⟨(wrap64 (x3_1 + 1)), (au11), H', ⟨by have := HK1.out; omega⟩, au25⟩
   ·
    rw [if_neg c4] at H; have c4b0 := beq_eq_false_iff_ne.mpr c4; have c4b1 := bne_iff_ne.mpr c4
    by_cases c5 : (rd l0 x3_1) = 2
    ·
     rw [if_pos c5] at H; have c5b0 := beq_iff_eq.mpr c5; have c5b1 := bne_eq_false_iff_eq.mpr c5; clear c5; have H' := Aside0.mk H; clear H; have p215 : 0 ≤ (x3_1 : Int) := of_decide_eq_true (au9); have q215 : x3_1 < (l0.length : Int) := of_decide_eq_true (au9); obtain ⟨ad215, e215, hx215_0⟩ := Kd.at_int HR0.out x3_1 p215 q215; cases e215; replace p215 := eq_true p215; replace q215 := eq_true q215; have p216 : 0 ≤ (x3_1 : Int) := of_decide_eq_true (au9); have q216 : x3_1 < (l0.length : Int) := of_decide_eq_true (au9); obtain ⟨ad216, e216, hx216_0⟩ := Kd.at_int HR0.out x3_1 p216 q216; obtain rfl : ad215 = ad216 := (by injection e216); replace p216 := eq_true p216; replace q216 := eq_true q216; go_wp2
     go_roundg k1
     case measure => have := HK1.out; omega
     case rel => exact ⟨(wrap64 (x3_1 + 1)), (au11), H', ⟨by have := HK1.out; omega⟩, au25⟩
    ·
     rw [if_neg c5] at H; have c5b0 := beq_eq_false_iff_ne.mpr c5; have c5b1 := bne_iff_ne.mpr c5
     by_cases c6 : (rd l0 x3_1) = 3
     rotate_left
     · rw [if_neg c6] at H; have c6b0 := beq_eq_false_iff_ne.mpr c6; have c6b1 := bne_iff_ne.mpr c6; obtain rfl := Option.some.inj H; have p215 : 0 ≤ (x3_1 : Int) := of_decide_eq_true (au9); have q215 : x3_1 < (l0.length : Int) := of_decide_eq_true (au9); obtain ⟨ad215, e215, hx215_0⟩ := Kd.at_int HR0.out x3_1 p215 q215; cases e215; replace p215 := eq_true p215; replace q215 := eq_true q215; have p216 : 0 ≤ (x3_1 : Int) := of_decide_eq_true (au9); have q216 : x3_1 < (l0.length : Int) := of_decide_eq_true (au9); obtain ⟨ad216, e216, hx216_0⟩ := Kd.at_int HR0.out x3_1 p216 q216; obtain rfl : ad215 = ad216 := (by injection e216); replace p216 := eq_true p216; replace q216 := eq_true q216; have p217 : 0 ≤ (x3_1 : Int) := of_decide_eq_true (au9); have q217 : x3_1 < (l0.length : Int) := of_decide_eq_true (au9); obtain ⟨ad217, e217, hx217_0⟩ := Kd.at_int HR0.out x3_1 p217 q217; obtain rfl : ad215 = ad217 := (by injection e217); replace p217 := eq_true p217; replace q217 := eq_true q217; go_wp2; go_ret; exact ⟨au11, au25⟩
     rw [if_pos c6] at H; have c6b0 := beq_iff_eq.mpr c6; have c6b1 := bne_eq_false_iff_eq.mpr c6; clear c6; have H' := Aside0.mk H; clear H; have p215 : 0 ≤ (x3_1 : Int) := of_decide_eq_true (au9); have q215 : x3_1 < (l0.length : Int) := of_decide_eq_true (au9); obtain ⟨ad215, e215, hx215_0⟩ := Kd.at_int HR0.out x3_1 p215 q215; cases e215; replace p215 := eq_true p215; replace q215 := eq_true q215; have p216 : 0 ≤ (x3_1 : Int) := of_decide_eq_true (au9); have q216 : x3_1 < (l0.length : Int) := of_decide_eq_true (au9); obtain ⟨ad216, e216, hx216_0⟩ := Kd.at_int HR0.out x3_1 p216 q216; obtain rfl : ad215 = ad216 := (by injection e216); replace p216 := eq_true p216; replace q216 := eq_true q216; have p217 : 0 ≤ (x3_1 : Int) := of_decide_eq_true (au9); have q217 : x3_1 < (l0.length : Int) := of_decide_eq_true (au9); obtain ⟨ad217, e217, hx217_0⟩ := Kd.at_int HR0.out x3_1 p217 q217; obtain rfl : ad215 = ad217 := (by injection e217); replace p217 := eq_true p217; replace q217 := eq_true q217; go_wp2
     go_roundg k1
     case measure => have := HK1.out; omega
     case rel => exact ⟨(wrap64 (x3_1 + 1)), (au11), H', ⟨by have := HK1.out; omega⟩, au25⟩
end Go.Proofs.YthmjblmdbcmjcaaDoor.P
