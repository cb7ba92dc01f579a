/- Contracts of functions of this seat. -/
import Derived.Test.YthmjblmdbcmjcaaDoorP0
import Derived.Test.YthmjblmdbcmjcaaDoorP11
namespace Go.Proofs.YthmjblmdbcmjcaaDoor.P
open Go.RowKit Go.Proofs.YthmjblmdbcmjcaaDoorW.PrintWords Go.Proofs.YthmjblmdbcmjcaaDoorW.PrintLast Go.Proofs.YthmjblmdbcmjcaaDoorW.PrintMore
attribute [local go_sem] max2_int min2_int max_two min_two max_three min_three max_four min_four
set_option linter.unusedVariables false
set_option linter.unusedSimpArgs false

/-! ### capstanref05_May: function 83 -/
mutual
def capstanref05_May.l0 : Nat → List (S75) → Int → Option (Bool)
 | 0, _, _ => none
 | k + 1, x0, x3 => if x3 < (x0.length : Int) then (capstanref05_May.j1 k x0 x3 (decide (x3 ≤ 200))) else (capstanref05_May.j1 k x0 x3 false)
def capstanref05_May.j1 : Nat → List (S75) → Int → Bool → Option (Bool)
 | 0, _, _, _ => none
 | k + 1, x0, x3, x11 => if x11 = true then (if 0 ≤ x3 then (if x3 < (x0.length : Int) then ((capstanref04_May.f k ((rd_T75 x0 x3).f0) ((rd_T75 x0 x3).f1) ((rd_T75 x0 x3).f2)).bind fun t293 => (if t293 = true then (capstanref05_May.l0 k x0 (wrap64 (x3 + 1))) else (some false))) else (none)) else (none)) else (if (x0.length : Int) ≥ 1 then (some (decide ((x0.length : Int) ≤ 200))) else (some false))
end
def capstanref05_May.f (k : Nat) (l0 : List (S75)) : Option (Bool) := capstanref05_May.l0 k l0 0
theorem capstanref05_May.mono_l : ∀ k, (∀ y0 y1, LeO (capstanref05_May.l0 k y0 y1) (capstanref05_May.l0 (k + 1) y0 y1)) ∧ (∀ y0 y1 y2, LeO (capstanref05_May.j1 k y0 y1 y2) (capstanref05_May.j1 (k + 1) y0 y1 y2))
 | 0 => ⟨fun _ _ r h => by simp [capstanref05_May.l0] at h, fun _ _ _ r h => by simp [capstanref05_May.j1] at h⟩
 | k + 1 => by
  obtain ⟨ih0, ih1⟩ := capstanref05_May.mono_l k; refine ⟨?_, ?_⟩
  ·
   intro y0 y1
   unfold capstanref05_May.l0
   repeat' first | (with_reducible first | apply ih0 | apply ih1 | apply capstanref04_May.mono | apply LeO.refl | apply LeO.none | refine LeO.ite ?_ ?_ | refine LeO.bind ?_ (fun _ => ?_)) | apply ih0 | apply ih1 | apply capstanref04_May.mono | apply LeO.none | refine LeO.ite ?_ ?_ | refine LeO.bind ?_ (fun _ => ?_)
  ·
   intro y0 y1 y2
   unfold capstanref05_May.j1
   repeat' first | (with_reducible first | apply ih0 | apply ih1 | apply capstanref04_May.mono | apply LeO.refl | apply LeO.none | refine LeO.ite ?_ ?_ | refine LeO.bind ?_ (fun _ => ?_)) | apply ih0 | apply ih1 | apply capstanref04_May.mono | apply LeO.none | refine LeO.ite ?_ ?_ | refine LeO.bind ?_ (fun _ => ?_)
theorem capstanref05_May.mono : ∀ a0 k, LeO (capstanref05_May.f k a0) (capstanref05_May.f (k + 1) a0) := by
 intro a0 k; obtain ⟨ih0, ih1⟩ := capstanref05_May.mono_l k
 unfold capstanref05_May.f
 repeat' first | (with_reducible first | apply ih0 | apply ih1 | apply capstanref04_May.mono | apply LeO.refl | apply LeO.none | refine LeO.ite ?_ ?_ | refine LeO.bind ?_ (fun _ => ?_)) | apply ih0 | apply ih1 | apply capstanref04_May.mono | apply LeO.none | refine LeO.ite ?_ ?_ | refine LeO.bind ?_ (fun _ => ?_)
set_option maxHeartbeats 8000000 in
set_option maxRecDepth 100000 in
theorem capstanref05_May.calls (k : Nat) (A0 : Option Addr) (c0 : Nat) (l0 : List (S75)) (r : Bool) (w : World) (hr0 : Kd.C k75 w A0 l0.length l0) (hc0 : l0.length ≤ c0) (h : capstanref05_May.f k l0 = some r) :
  Calls Tryd.prog 83 #[.slice A0 l0.length c0] w fun e w' => e = .returned (.bool r) ∧ Below w.heap.size w w' := by
 have hu75 := Tryd.underlying75; have HR0 := Aside0.mk hr0; have HC0 := Aside0.mk hc0; clear hr0 hc0; have HB := Aside0.mk (Below.refl w.heap.size w); have H : (capstanref05_May.l0 k l0 0) = some r := h; clear h; have H' := Aside0.mk H; clear H
 go_enter Tryd.func83, Tryd.ntmps83
 go_wp2
 go_loopg [3] k (fun kq v3 w' => ∃ (x3_1 : Int), v3 = .int .i64 x3_1 ∧ Aside0 (capstanref05_May.l0 kq l0 x3_1 = some r) ∧ Aside0 (kq ≤ k) ∧ Aside0 (Below w.heap.size w w'))
 case atStart => exact ⟨(0), (au11), H', ⟨Nat.le_refl _⟩, ⟨au1⟩⟩
 case round =>
  clear H'; obtain ⟨x3_1, rfl, HA, HK1, HB⟩ := hrel
  cases gk with
  | zero => exact absurd HA.out (by simp [capstanref05_May.l0])
  | succ k1 =>
   have H := HA.out; clear HA; simp only [capstanref05_May.l0] at H; have HC2 := Aside0.mk H; clear H
   go_upto_region 2 with (fail)
   go_cut [11] (fun v11 wc => ∃ (kq : Nat) (x11_1 : Bool), v11 = .bool x11_1 ∧ Aside0 (capstanref05_May.j1 kq l0 x3_1 x11_1 = some r) ∧ Aside0 (kq ≤ k1) ∧ Aside0 (Below w.heap.size w wc))
   case first =>
    have H := HC2.out; clear HC2
    by_cases c3 : x3_1 < (l0.length : Int)
    ·
     rw [if_pos c3] at H; have c3b0 : decide (x3_1 < (l0.length : Int)) = true := decide_eq_true c3; clear c3
     (first | rw [c3b0] | (simp only [i64_w, i32_w]; rw [c3b0]) | skip)
     have H' := Aside0.mk H; clear H; go_wp2; go_meet
     case rel => exact ⟨_, (decide (x3_1 ≤ 200)), (au11), H', ⟨by have := HK1.out; first | omega | exact Nat.le_refl _⟩, ⟨au1⟩⟩
    ·
     rw [if_neg c3] at H; have c3b0 : decide (x3_1 < (l0.length : Int)) = false := decide_eq_false c3; clear c3
     (first | rw [c3b0] | (simp only [i64_w, i32_w]; rw [c3b0]) | skip)
     have H' := Aside0.mk H; clear H; go_wp2; go_meet
     case rel => exact ⟨_, (false), (au11), H', ⟨by have := HK1.out; first | omega | exact Nat.le_refl _⟩, ⟨au1⟩⟩
   case rest =>
    clear HC2; obtain ⟨kq, x11_1, rfl, HA, HJ1, HB⟩ := hcut
    cases kq with
    | zero => exact absurd HA.out (by simp [capstanref05_May.j1])
    | succ kj1 =>
     have H := HA.out; clear HA; simp only [capstanref05_May.j1] at H
     by_cases c4 : x11_1 = true
     rotate_left
     ·
      replace c4 := Bool.eq_false_iff.mpr c4; subst c4
      rw [sq_f] at H
      by_cases c11 : (l0.length : Int) ≥ 1
      · rw [if_pos c11] at H; have c11b0 : decide (1 ≤ (l0.length : Int)) = true := decide_eq_true c11; have c11b1 : decide (1 ≤ l0.length) = true := decide_eq_true (by omega); clear c11; obtain rfl := Option.some.inj H; go_wp2; go_ret; exact ⟨au4, au1⟩
      · rw [if_neg c11] at H; have c11b0 : decide (1 ≤ (l0.length : Int)) = false := decide_eq_false c11; have c11b1 : decide (1 ≤ l0.length) = false := decide_eq_false (by omega); clear c11; obtain rfl := Option.some.inj H; go_wp2; go_ret; exact ⟨au4, au1⟩

     subst c4
     rw [if_pos rfl] at H
     by_cases c5 : 0 ≤ x3_1
     rotate_left
     · rw [if_neg c5] at H; exact absurd H (by simp)
     rw [if_pos c5] at H; have c5b0 : decide (0 ≤ x3_1) = true := decide_eq_true c5; clear c5
     by_cases c6 : x3_1 < (l0.length : Int)
     rotate_left
     · rw [if_neg c6] at H; exact absurd H (by simp)
     rw [if_pos c6] at H; have c6b0 : decide (x3_1 < (l0.length : Int)) = true := decide_eq_true c6; clear c6; obtain ⟨t293, A7, H⟩ := sq_bind H
     by_cases c8 : t293 = true
     rotate_left
     ·
      replace c8 := Bool.eq_false_iff.mpr c8; subst c8
      rw [sq_f] at H; obtain rfl := Option.some.inj H; have p292 : 0 ≤ (x3_1 : Int) := of_decide_eq_true (au9); have q292 : x3_1 < (l0.length : Int) := of_decide_eq_true (au9); obtain ⟨ad292, e292, hx292_0, hx292_1, hx292_2⟩ := at_T75 HR0.out x3_1 p292 q292; cases e292; replace hx292_0 := sq_c HB hx292_0; replace hx292_1 := sq_c HB hx292_1; replace hx292_2 := sq_c HB hx292_2; replace p292 := eq_true p292; replace q292 := eq_true q292
      go_wp2_with (first | ((with_reducible refine gate_callee (f := 71) rfl ?_); refine goesL_ (some 18) rfl rfl Tryd.func71 (by kernel_rfl) rfl #[.agg #[.int .u8 ((rd_T75 l0 x3_1).f0), .int .i64 ((rd_T75 l0 x3_1).f1), .int .i64 ((rd_T75 l0 x3_1).f2)]] rfl (au2) ?_; (with_reducible refine (capstanref04_May.calls kj1 ((rd_T75 l0 x3_1).f0) ((rd_T75 l0 x3_1).f1) ((rd_T75 l0 x3_1).f2) false _ A7.out).mono ?_); rintro e w10 ⟨rfl, hb⟩; refine ⟨_, rfl, ?_⟩; replace HB := Aside0.mk (below_step (au1) hb); (try clear hb)))
      go_ret; exact ⟨au4, au1⟩
     subst c8
     rw [if_pos rfl] at H; have H' := Aside0.mk H; clear H; have p292 : 0 ≤ (x3_1 : Int) := of_decide_eq_true (au9); have q292 : x3_1 < (l0.length : Int) := of_decide_eq_true (au9); obtain ⟨ad292, e292, hx292_0, hx292_1, hx292_2⟩ := at_T75 HR0.out x3_1 p292 q292; cases e292; replace hx292_0 := sq_c HB hx292_0; replace hx292_1 := sq_c HB hx292_1; replace hx292_2 := sq_c HB hx292_2; replace p292 := eq_true p292; replace q292 := eq_true q292
     go_wp2_with (first | ((with_reducible refine gate_callee (f := 71) rfl ?_); refine goesL_ (some 18) rfl rfl Tryd.func71 (by kernel_rfl) rfl #[.agg #[.int .u8 ((rd_T75 l0 x3_1).f0), .int .i64 ((rd_T75 l0 x3_1).f1), .int .i64 ((rd_T75 l0 x3_1).f2)]] rfl (au2) ?_; (with_reducible refine (capstanref04_May.calls kj1 ((rd_T75 l0 x3_1).f0) ((rd_T75 l0 x3_1).f1) ((rd_T75 l0 x3_1).f2) true _ A7.out).mono ?_); rintro e w9 ⟨rfl, hb⟩; refine ⟨_, rfl, ?_⟩; replace HB := Aside0.mk (below_step (au1) hb); (try clear hb)))
     go_roundg kj1
     case measure => have := HK1.out; have := HJ1.out; omega
     case rel => exact ⟨(wrap64 (x3_1 + 1)), (au11), H', ⟨by have := HK1.out; have := HJ1.out; omega⟩, ⟨au1⟩⟩
/-! ### capstanref05_Bytes: function 47 -/
def capstanref05_Bytes.l0 : Nat → List (S75) → List Int → Int → Option (List Int × Int)
 | 0, _, _, _ => none
 | k + 1, x0, x4, x5 => if x5 < (x0.length : Int) then (if 0 ≤ x5 then (if x4.length < 140737488355328 then ((some (x4 ++ [(rd_T75 x0 x5).f0] : List Int)).bind fun y299 => ((capstanref05_Wide.f k ((rd_T75 x0 x5).f0)).bind fun t303 => (if t303 = true then ((some (([(Int.tmod ((rd_T75 x0 x5).f1) 256) % 256, (wrap64 (Int.tdiv ((rd_T75 x0 x5).f1) 256)) % 256] : List Int) : List Int)).bind fun y306 => (if y299.length + y306.length < 140737488355328 then (capstanref05_Bytes.l0 k x0 (y299 ++ y306) (wrap64 (x5 + 1))) else (none))) else (capstanref05_Bytes.l0 k x0 y299 (wrap64 (x5 + 1)))))) else (none)) else (none)) else (some (x4, 0))
def capstanref05_Bytes.f (k : Nat) (l0 : List (S75)) : Option (List Int × Int) := (capstanref05_May.f k l0).bind fun t294 => (if t294 = true then (capstanref05_Bytes.l0 k l0 (([((l0.length : Int)) % 256] : List Int)) 0) else (some (([] : List Int), 40)))
theorem capstanref05_Bytes.mono_l : ∀ k, (∀ y0 y1 y2, LeO (capstanref05_Bytes.l0 k y0 y1 y2) (capstanref05_Bytes.l0 (k + 1) y0 y1 y2))
 | 0 => fun _ _ _ r h => by simp [capstanref05_Bytes.l0] at h
 | k + 1 => by
  have ih0 := capstanref05_Bytes.mono_l k
  ·
   intro y0 y1 y2
   unfold capstanref05_Bytes.l0
   repeat' first | (with_reducible first | apply ih0 | apply capstanref05_May.mono | apply capstanref05_Wide.mono | apply LeO.refl | apply LeO.none | refine LeO.ite ?_ ?_ | refine LeO.bind ?_ (fun _ => ?_)) | apply ih0 | apply capstanref05_May.mono | apply capstanref05_Wide.mono | apply LeO.none | refine LeO.ite ?_ ?_ | refine LeO.bind ?_ (fun _ => ?_)
theorem capstanref05_Bytes.mono : ∀ a0 k, LeO (capstanref05_Bytes.f k a0) (capstanref05_Bytes.f (k + 1) a0) := by
 intro a0 k; have ih0 := capstanref05_Bytes.mono_l k
 unfold capstanref05_Bytes.f
 repeat' first | (with_reducible first | apply ih0 | apply capstanref05_May.mono | apply capstanref05_Wide.mono | apply LeO.refl | apply LeO.none | refine LeO.ite ?_ ?_ | refine LeO.bind ?_ (fun _ => ?_)) | apply ih0 | apply capstanref05_May.mono | apply capstanref05_Wide.mono | apply LeO.none | refine LeO.ite ?_ ?_ | refine LeO.bind ?_ (fun _ => ?_)
def capstanref05_Bytes.T9 : Bool × List (List Nat × List Nat) := (true, [([], []), ([], []), ([], []), ([1, 2], [1, 2]), ([3], [3]), ([4], [4]), ([5], [5]), ([6], [6]), ([], []), ([], []), ([8, 9], [8, 9]), ([10], [10]), ([11], [11]), ([12], [12]), ([13], [13]), ([7, 14], [7, 14]), ([0, 15], [0, 15]), ([16, 16, 0, 1, 2, 3, 4, 5, 6, 7, 8, 9, 10, 11, 12, 13, 14, 15, 16], [0, 16])])
def capstanref05_Bytes.B9 : List Nat := [0, 0, 0, 6, 14, 30, 62, 126, 0, 0, 768, 1792, 3840, 7936, 16128, 32766, 65535, 131071]
theorem capstanref05_Bytes.tab9 : rtab .any (opsOf Tryd.f47 9) = capstanref05_Bytes.T9 := by kernel_rfl
theorem capstanref05_Bytes.bits9 : waitsOk capstanref05_Bytes.T9.2 capstanref05_Bytes.B9 = true := by kernel_rfl
set_option maxHeartbeats 8000000 in
set_option maxRecDepth 100000 in
theorem capstanref05_Bytes.calls (k : Nat) (A0 : Option Addr) (c0 : Nat) (l0 : List (S75)) (r1 : List Int) (r2 : Int) (w : World) (hr0 : Kd.C k75 w A0 l0.length l0) (hc0 : l0.length ≤ c0) (h : capstanref05_Bytes.f k l0 = some (r1, r2)) :
  Calls Tryd.prog 47 #[.slice A0 l0.length c0] w fun e w' => ∃ v0_ : Value, e = .returned (.tuple #[v0_, .int .i64 r2]) ∧ Kd.R (Kd.int .u8) 5 w' w.heap.size (fun _ => True) v0_ r1 ∧ Below w.heap.size w w' := by
 have HR0 := Aside0.mk hr0; have HC0 := Aside0.mk hc0; clear hr0 hc0; have HB := Aside0.mk (Below.refl w.heap.size w); have H := h; unfold capstanref05_Bytes.f at H; clear h; obtain ⟨t294, A2, H⟩ := sq_bind H
 by_cases c3 : t294 = true
 rotate_left
 ·
  replace c3 := Bool.eq_false_iff.mpr c3; subst c3
  rw [sq_f] at H; simp only [Option.some.injEq, Prod.mk.injEq] at H; obtain ⟨rfl, rfl⟩ := H
  go_enter Tryd.func47, Tryd.ntmps47
  go_wp2_with (first | ((with_reducible refine gate_callee (f := 83) rfl ?_); refine goesL_ (some 7) rfl rfl Tryd.func83 (by kernel_rfl) rfl #[.slice A0 l0.length c0] rfl (au2) ?_; (with_reducible refine (capstanref05_May.calls k _ _ l0 false _ ?side1 ?side2 A2.out).mono ?_); (case side1 => exact au62); (case side2 => exact HC0.out); rintro e w20 ⟨rfl, hb⟩; refine ⟨_, rfl, ?_⟩; replace HB := Aside0.mk (below_step (au1) hb); (try clear hb)))
  go_ret2
  exact ⟨_, au4, au27, au1⟩

 subst c3
 rw [if_pos rfl] at H; obtain ⟨y295, hy295⟩ : ∃ y_ : List Int, y_ = (([((l0.length : Int)) % 256] : List Int)) := ⟨_, rfl⟩; rw [← hy295] at H; have Ny295 := Aside0.mk hy295; clear hy295; have H' := Aside0.mk H; clear H
 go_enter Tryd.func47, Tryd.ntmps47
 go_wp2_with (first | ((with_reducible refine gate_callee (f := 83) rfl ?_); refine goesL_ (some 7) rfl rfl Tryd.func83 (by kernel_rfl) rfl #[.slice A0 l0.length c0] rfl (au2) ?_; (with_reducible refine (capstanref05_May.calls k _ _ l0 true _ ?side1 ?side2 A2.out).mono ?_); (case side1 => exact au62); (case side2 => exact HC0.out); rintro e w4 ⟨rfl, hb⟩; refine ⟨_, rfl, ?_⟩; replace HB := Aside0.mk (below_step (au1) hb); (try clear hb)) | ((with_reducible refine gate_dst (N := 12) rfl ?_); refine Kd.R_lit (Kd.int .u8) _ 5 ?hg (N := 12) ?hd (xs := ([((l0.length : Int)) % 256] : List Int)) (inner := [.int .u8 (((l0.length : Int)) % 256)]) (ok := fun _ => True) (okp := fun _ => True) ?hr ?hp (fun _ hk => hk) trivial (Below.refl _ _) (Nat.le_refl _) (by simp) ?_; (case hd => rfl); (case hg => rfl); (case hr => first | (go_simp; done) | (go_simp; rfl)); (case hp => exact (Reps.one (show Kd.M (Kd.int .u8) _ _ _ (((l0.length : Int)) % 256) [.int .u8 (((l0.length : Int)) % 256)] from rfl) (Reps.none _ _))); intro v296 w5 ho6 hb hg_ hnew_; clear hg_ hnew_; (first | rw [← Ny295.out] at ho6 | (simp only [Int.reduceToNat] at ho6; rw [← Ny295.out] at ho6)); have n_ := sq_n2 (Kd.R_lower ho6 (below_size (au1))) (below_step (au1) hb); clear HB; obtain ⟨HO297, HB⟩ := n_; clear hb ho6))
 go_loopg [4, 5] k (fun kq v4 v5 w' => ∃ (x4_1 : List Int) (x5_1 : Int), v5 = .int .i64 x5_1 ∧ Aside0 (capstanref05_Bytes.l0 kq l0 x4_1 x5_1 = some (r1, r2)) ∧ Aside0 (kq ≤ k) ∧ Aside0 (Kd.R (Kd.int .u8) 5 w' w.heap.size (fun _ => True) v4 x4_1) ∧ Aside0 (Below w.heap.size w w'))
 case atStart => exact ⟨(y295), (0), (au11), H', ⟨Nat.le_refl _⟩, ⟨by (with_reducible repeat (first | apply Kd.R_alloc | apply Kd.R_drewN | apply Kd.R_drew)); first | exact HO297.out | exact Kd.R_mono (HO297.out) (fun _ h_ => h_.2)⟩, ⟨au1⟩⟩
 case round =>
  clear H'; (try clear p2); (try clear c3); (try clear c4); obtain ⟨x4_1, x5_1, rfl, HA, HK1, HO_4, HB⟩ := hrel
  cases gk with
  | zero => exact absurd HA.out (by simp [capstanref05_Bytes.l0])
  | succ k1 =>
   have H := HA.out; clear HA; simp only [capstanref05_Bytes.l0] at H
   by_cases c7 : x5_1 < (l0.length : Int)
   rotate_left
   ·
    rw [if_neg c7] at H; have c7b0 : decide (x5_1 < (l0.length : Int)) = false := decide_eq_false c7; clear c7; simp only [Option.some.injEq, Prod.mk.injEq] at H; obtain ⟨rfl, rfl⟩ := H; go_wp2
    go_ret2
    exact ⟨_, au4, au13, au1⟩
   rw [if_pos c7] at H; have c7b0 : decide (x5_1 < (l0.length : Int)) = true := decide_eq_true c7; clear c7
   by_cases c8 : 0 ≤ x5_1
   rotate_left
   · rw [if_neg c8] at H; exact absurd H (by simp)
   rw [if_pos c8] at H; have c8b0 : decide (0 ≤ x5_1) = true := decide_eq_true c8; clear c8
   by_cases c9 : x4_1.length < 140737488355328
   rotate_left
   · rw [if_neg c9] at H; exact absurd H (by simp)
   rw [if_pos c9] at H; have LMc9 := Aside0.mk c9; clear c9; obtain ⟨y299, Ny299, H⟩ := sq_y H; obtain ⟨t303, A10, H⟩ := sq_bind H
   by_cases c11 : t303 = true
   rotate_left
   ·
    replace c11 := Bool.eq_false_iff.mpr c11; subst c11
    rw [sq_f] at H; have H' := Aside0.mk H; clear H; have p298 : 0 ≤ (x5_1 : Int) := of_decide_eq_true (au9); have q298 : x5_1 < (l0.length : Int) := of_decide_eq_true (au9); obtain ⟨ad298, e298, hx298_0, hx298_1, hx298_2⟩ := at_T75 HR0.out x5_1 p298 q298; cases e298; replace hx298_0 := sq_c HB hx298_0; replace hx298_1 := sq_c HB hx298_1; replace hx298_2 := sq_c HB hx298_2; replace p298 := eq_true p298; replace q298 := eq_true q298
    go_wp2_with (first | ((with_reducible refine gate_builtin (b := .append) (xs := #[.tmp 19, .tmp 25]) rfl ?_); at_builtin; refine Kd.R_append (Kd.int .u8) (w0 := w) w.heap.size rfl (.tmp 19) (.tmp 25) 22 5 (.int .u8 0) 1 rfl Tryd.underlying22 info5 rfl (by decide) (by omega) u4 x4_1 ((rd_T75 l0 x5_1).f0) [.int .u8 ((rd_T75 l0 x5_1).f0)] (fun _ => True) (fun _ => False) rfl rfl ?aP (fun _ hk => hk.elim) ?aF ?aO ?aB ?aS ?aL ?_; (case aP => exact rfl); (case aB => exact (au1)); (case aF => exact (fun _ _ => trivial)); (case aO => exact (au13)); (case aS => exact (below_size (au1))); (case aL => have := LMc9.out; omega); intro v300 w19 ho hb hg hat; rw [← Ny299.out] at ho; have n_ := sq_n2 hb ho; clear HB HO_4; obtain ⟨HB, HO301⟩ := n_; clear ho hb hg hat; have p302 : 0 ≤ (x5_1 : Int) := of_decide_eq_true (au9); have q302 : x5_1 < (l0.length : Int) := of_decide_eq_true (au9); obtain ⟨ad302, e302, hx302_0, hx302_1, hx302_2⟩ := at_T75 HR0.out x5_1 p302 q302; obtain rfl : ad298 = ad302 := (by injection e302); replace hx302_0 := sq_c HB hx302_0; replace hx302_1 := sq_c HB hx302_1; replace hx302_2 := sq_c HB hx302_2; replace p302 := eq_true p302; replace q302 := eq_true q302) | ((with_reducible refine gate_callee (f := 70) rfl ?_); refine goesL_ (some 32) rfl rfl Tryd.func70 (by kernel_rfl) rfl #[.int .u8 ((rd_T75 l0 x5_1).f0)] rfl (au2) ?_; (with_reducible refine (capstanref05_Wide.calls k1 ((rd_T75 l0 x5_1).f0) false _ A10.out).mono ?_); rintro e w' ⟨rfl, ⟨nd, rfl⟩⟩; refine ⟨_, rfl, ?_⟩))
    go_roundg k1
    case measure => have := HK1.out; omega
    case rel => exact ⟨(y299), (wrap64 (x5_1 + 1)), (au11), H', ⟨by have := HK1.out; omega⟩, ⟨au158⟩, ⟨au1⟩⟩
   subst c11
   rw [if_pos rfl] at H; obtain ⟨y306, Ny306, H⟩ := sq_y H
   by_cases c12 : y299.length + y306.length < 140737488355328
   rotate_left
   · rw [if_neg c12] at H; exact absurd H (by simp)
   rw [if_pos c12] at H; have LMc12 := Aside0.mk c12; clear c12; obtain ⟨y309, hy309⟩ : ∃ y_ : List Int, y_ = (y299 ++ y306) := ⟨_, rfl⟩; rw [← hy309] at H; have Ny309 := Aside0.mk hy309; clear hy309; have H' := Aside0.mk H; clear H; have p298 : 0 ≤ (x5_1 : Int) := of_decide_eq_true (au9); have q298 : x5_1 < (l0.length : Int) := of_decide_eq_true (au9); obtain ⟨ad298, e298, hx298_0, hx298_1, hx298_2⟩ := at_T75 HR0.out x5_1 p298 q298; cases e298; replace hx298_0 := sq_c HB hx298_0; replace hx298_1 := sq_c HB hx298_1; replace hx298_2 := sq_c HB hx298_2; replace p298 := eq_true p298; replace q298 := eq_true q298
   try go_wp2_with (first | ((with_reducible refine gate_builtin (b := .append) (xs := #[.tmp 19, .tmp 25]) rfl ?_); at_builtin; refine Kd.R_append (Kd.int .u8) (w0 := w) w.heap.size rfl (.tmp 19) (.tmp 25) 22 5 (.int .u8 0) 1 rfl Tryd.underlying22 info5 rfl (by decide) (by omega) u4 x4_1 ((rd_T75 l0 x5_1).f0) [.int .u8 ((rd_T75 l0 x5_1).f0)] (fun _ => True) (fun _ => False) rfl rfl ?aP (fun _ hk => hk.elim) ?aF ?aO ?aB ?aS ?aL ?_; (case aP => exact rfl); (case aB => exact (au1)); (case aF => exact (fun _ _ => trivial)); (case aO => exact (au13)); (case aS => exact (below_size (au1))); (case aL => have := LMc9.out; omega); intro v300 w13 ho hb hg hat; rw [← Ny299.out] at ho; have n_ := sq_n2 hb ho; clear HB HO_4; obtain ⟨HB, HO301⟩ := n_; clear ho hb hg hat; have p302 : 0 ≤ (x5_1 : Int) := of_decide_eq_true (au9); have q302 : x5_1 < (l0.length : Int) := of_decide_eq_true (au9); obtain ⟨ad302, e302, hx302_0, hx302_1, hx302_2⟩ := at_T75 HR0.out x5_1 p302 q302; obtain rfl : ad298 = ad302 := (by injection e302); replace hx302_0 := sq_c HB hx302_0; replace hx302_1 := sq_c HB hx302_1; replace hx302_2 := sq_c HB hx302_2; replace p302 := eq_true p302; replace q302 := eq_true q302) | ((with_reducible refine gate_callee (f := 70) rfl ?_); refine goesL_ (some 32) rfl rfl Tryd.func70 (by kernel_rfl) rfl #[.int .u8 ((rd_T75 l0 x5_1).f0)] rfl (au2) ?_; (with_reducible refine (capstanref05_Wide.calls k1 ((rd_T75 l0 x5_1).f0) true _ A10.out).mono ?_); rintro e w' ⟨rfl, ⟨nd, rfl⟩⟩; refine ⟨_, rfl, ?_⟩))
   (try (rw [drewN_self w13]; generalize hq_ : World.drewN w13 _ = w13; have n0_ : Aside0 (Kd.R (Kd.int .u8) 5 w13 w.heap.size (fun _ => True) v300 y299) := ⟨by rw [← hq_]; exact (au158)⟩; have n1_ : Aside0 (Below w.heap.size w w13) := ⟨by rw [← hq_]; exact (au1)⟩; clear HO301 HB hq_; have HO301 := n0_; have HB := n1_; clear n0_ n1_)); have n_ := sq_n2 (Kd.R_drew HO301.out) (below_drew1 HB.out); clear HO301 HB; obtain ⟨HO301, HB⟩ := n_; have p304 : 0 ≤ (x5_1 : Int) := of_decide_eq_true (au9); have q304 : x5_1 < (l0.length : Int) := of_decide_eq_true (au9); obtain ⟨ad304, e304, hx304_0, hx304_1, hx304_2⟩ := at_T75 HR0.out x5_1 p304 q304; have hw304_2 := hx304_2; have hw304_1 := hx304_1; have hw304_0 := hx304_0; obtain rfl : ad298 = ad304 := (by injection e304); replace hx304_0 := sq_c HB hx304_0; replace hx304_1 := sq_c HB hx304_1; replace hx304_2 := sq_c HB hx304_2; replace p304 := eq_true p304; replace q304 := eq_true q304; have p305 : 0 ≤ (x5_1 : Int) := of_decide_eq_true (au9); have q305 : x5_1 < (l0.length : Int) := of_decide_eq_true (au9); obtain ⟨ad305, e305, hx305_0, hx305_1, hx305_2⟩ := at_T75 HR0.out x5_1 p305 q305; have hw305_2 := hx305_2; have hw305_1 := hx305_1; have hw305_0 := hx305_0; obtain rfl : ad298 = ad305 := (by injection e305); replace hx305_0 := sq_c HB hx305_0
   replace hx305_1 := sq_c HB hx305_1; replace hx305_2 := sq_c HB hx305_2; replace p305 := eq_true p305; replace q305 := eq_true q305; refine start_ (n := 18) (S := fun w' => w'.cell? (ad298.add ((x5_1).toNat * 3)) = some (.int .u8 ((rd_T75 l0 x5_1).f0)) ∧ w'.cell? ⟨(ad298.add ((x5_1).toNat * 3)).block, (ad298.add ((x5_1).toNat * 3)).off + 1, none⟩ = some (.int .i64 ((rd_T75 l0 x5_1).f1)) ∧ w'.cell? ⟨(ad298.add ((x5_1).toNat * 3)).block, (ad298.add ((x5_1).toNat * 3)).off + 2, none⟩ = some (.int .i64 ((rd_T75 l0 x5_1).f2)) ∧ w'.cell? (ad298.add ((x5_1).toNat * 3)) = some (.int .u8 ((rd_T75 l0 x5_1).f0)) ∧ w'.cell? ⟨(ad298.add ((x5_1).toNat * 3)).block, (ad298.add ((x5_1).toNat * 3)).off + 1, none⟩ = some (.int .i64 ((rd_T75 l0 x5_1).f1)) ∧ w'.cell? ⟨(ad298.add ((x5_1).toNat * 3)).block, (ad298.add ((x5_1).toNat * 3)).off + 2, none⟩ = some (.int .i64 ((rd_T75 l0 x5_1).f2))) (ds := []) #[false, false, false, false, false, false, false, false, false, false, false, false, false, false, false, false, false, false] (by kernel_rfl) rfl rfl ⟨((sq_e HB hw304_0).trans hw304_0), ((sq_e HB hw304_1).trans hw304_1), ((sq_e HB hw304_2).trans hw304_2), ((sq_e HB hw305_0).trans hw305_0), ((sq_e HB hw305_1).trans hw305_1), ((sq_e HB hw305_2).trans hw305_2)⟩ (fun hHeld => ?_); refine with_tabW capstanref05_Bytes.tab9 capstanref05_Bytes.bits9 (fun HT_ HW_ => ?_)
   generalize w13.drew = w14 at HO301 HB hx304_0 hx304_1 hx304_2 hx305_0 hx305_1 hx305_2 hHeld ⊢
   refine sq_p 0 33 HT_ ?_
   refine sq_p 1 34 HT_ ?_
   refine sq_p 2 35 HT_ ?_
   refine sq_p 3 36 HT_ ?_
   refine sq_p 4 37 HT_ ?_
   refine sq_p 8 41 HT_ ?_
   refine sq_p 9 42 HT_ ?_
   refine sq_p 10 43 HT_ ?_
   refine sq_p 11 44 HT_ ?_
   refine sq_t 5 38 HT_ HW_ hHeld ?_
   refine sq_p 6 39 HT_ ?_
   refine sq_p 7 40 HT_ ?_
   refine sq_t 12 45 HT_ HW_ hHeld ?_
   refine sq_p 13 46 HT_ ?_
   refine sq_p 14 47 HT_ ?_
   refine one_ (i := 15) (N := some 48) #[true, true, true, true, true, true, true, true, true, true, true, true, true, true, true, true, false, false] rfl rfl (one_of HT_.out (by kernel_rfl)) (by decide) (fun K hK => ?_); refine Kd.R_lit_step (Kd.int .u8) _ 5 ?hg (N := 48) ?hd (xs := ([(Int.tmod ((rd_T75 l0 x5_1).f1) 256) % 256, (wrap64 (Int.tdiv ((rd_T75 l0 x5_1).f1) 256)) % 256] : List Int)) (inner := [.int .u8 ((Int.tmod ((rd_T75 l0 x5_1).f1) 256) % 256), .int .u8 ((wrap64 (Int.tdiv ((rd_T75 l0 x5_1).f1) 256)) % 256)]) (ok := fun _ => True) (okp := fun _ => True) ?hr ?hp (fun _ hk => hk) trivial (Below.refl _ _) (Nat.le_refl _) (by simp) ?_; (case hd => rfl); (case hg => rfl); (case hr => first | (go_simp; done) | (go_simp; rfl)); (case hp => exact (Reps.one (show Kd.M (Kd.int .u8) _ _ _ ((Int.tmod ((rd_T75 l0 x5_1).f1) 256) % 256) [.int .u8 ((Int.tmod ((rd_T75 l0 x5_1).f1) 256) % 256)] from rfl) (Reps.one (show Kd.M (Kd.int .u8) _ _ _ ((wrap64 (Int.tdiv ((rd_T75 l0 x5_1).f1) 256)) % 256) [.int .u8 ((wrap64 (Int.tdiv ((rd_T75 l0 x5_1).f1) 256)) % 256)] from rfl) (Reps.none _ _)))); intro v307 w15 ho16 hb hg_ hnew_; clear hg_ hnew_
   (first | rw [← Ny306.out] at ho16 | (simp only [Int.reduceToNat] at ho16; rw [← Ny306.out] at ho16))
   have n_ := sq_n3 (Kd.R_elder' (au158) (Kd.R_base ho16) hb) (Kd.R_lower (Kd.R_new' ho16 (Kd.R_lt (au158))) (below_size (au1))) (below_step (au1) hb); clear HO301 HB; obtain ⟨HO301, HO308, HB⟩ := n_; clear hb ho16; obtain ⟨Ao18, co18, eo18⟩ := Kd.R_slice HO308.out
   (first | subst eo18 | (injection eo18 with f1_ f2_ f3_; have f4_ := f1_.symm; have f5_ := f3_.symm; clear f1_ f2_ f3_; subst f4_; subst f5_))
   refine hK.out _ _ ⟨((sq_e HB hw304_0).trans hw304_0), ((sq_e HB hw304_1).trans hw304_1), ((sq_e HB hw304_2).trans hw304_2), ((sq_e HB hw305_0).trans hw305_0), ((sq_e HB hw305_1).trans hw305_1), ((sq_e HB hw305_2).trans hw305_2)⟩ (fun hHeld => ?_); clear hK K; refine norm_ (a' := ?_) ?_ ?_; rotate_left
   · show Act.put _ (some 48) _ = _; simp only [Act.put, List.setIfInBounds_toArray, List.set_cons_zero, List.set_cons_succ, i64_w, i32_w]; rfl
   refine one_ (i := 16) (N := some 49) #[true, true, true, true, true, true, true, true, true, true, true, true, true, true, true, true, true, false] rfl rfl (one_of HT_.out (by kernel_rfl)) (by decide) (fun K hK => ?_); refine Kd.R_append_rows_step (Kd.int .u8) (w0 := w) w.heap.size (by rfl) (.tmp 33) (.tmp 48) 22 5 (.int .u8 0) 1 rfl Tryd.underlying22 info5 rfl (by decide) (by omega) v300 y299 y306 _ _ _ (fun k_ => some k_ ≠ (.slice Ao18 y306.length co18 : Value).ownBlock) (fun _ => False) rfl rfl ?aO ?aR (fun _ _ h => h) (fun _ h => h.elim) ?aF ?aB ?aS ?aL ?_
   (case aR => repeat (first | exact (Kd.R_reads' HO308.out).2.2 | (with_reducible refine Kd.C_alloc ?_ _) | (with_reducible refine Kd.C_drewN ?_ _) | (with_reducible refine Kd.C_drew ?_)))
   (case aB => exact (au1))
   (case aF => exact (fun k_ hk => Kd.fresh' (Kd.R_lt (by (with_reducible repeat (first | apply Kd.R_alloc | apply Kd.R_drewN | apply Kd.R_drew)); first | exact HO308.out | exact Kd.R_mono (HO308.out) (fun _ h_ => h_.2))) k_ hk))
   (case aO => exact (by (with_reducible repeat (first | apply Kd.R_alloc | apply Kd.R_drewN | apply Kd.R_drew)); first | exact Kd.R_mono HO301.out (fun _ hk => hk.2) | exact Kd.R_mono (Kd.R_mono HO301.out (fun _ hk => hk.2)) (fun _ h_ => h_.2)))
   (case aS => exact (below_size (au1)))
   (case aL => have := LMc12.out; omega)
   intro v310 w17 ho hb hg hat; rw [← Ny309.out] at ho; have n_ := sq_n3 (Kd.R_after (ok := (fun _ => True)) (by (with_reducible repeat (first | apply Kd.R_alloc | apply Kd.R_drewN | apply Kd.R_drew)); first | exact HO308.out | exact Kd.R_mono (HO308.out) (fun _ h_ => h_.2)) hg hat) hb ho; clear HO308 HB HO301; obtain ⟨HO308, HB, HO311⟩ := n_; clear ho hb hg hat; refine hK.out _ _ ⟨((sq_e HB hw304_0).trans hw304_0), ((sq_e HB hw304_1).trans hw304_1), ((sq_e HB hw304_2).trans hw304_2), ((sq_e HB hw305_0).trans hw305_0), ((sq_e HB hw305_1).trans hw305_1), ((sq_e HB hw305_2).trans hw305_2)⟩ (fun hHeld => ?_); clear hK K; refine norm_ (a' := ?_) ?_ ?_; rotate_left
   · show Act.put _ (some 49) _ = _; simp only [Act.put, List.setIfInBounds_toArray, List.set_cons_zero, List.set_cons_succ, i64_w, i32_w]; rfl
   refine sq_p 17 4 HT_ ?_
   refine done_ (done_of HT_.out (by kernel_rfl)) ?_
   try go_wp2
   go_roundg k1
   case measure => have := HK1.out; omega
   case rel => exact ⟨(y309), (wrap64 (x5_1 + 1)), (au11), H', ⟨by have := HK1.out; omega⟩, ⟨by (with_reducible repeat (first | apply Kd.R_alloc | apply Kd.R_drewN | apply Kd.R_drew)); first | exact Kd.R_mono HO311.out (fun _ hk => trivial) | exact Kd.R_mono (Kd.R_mono HO311.out (fun _ hk => trivial)) (fun _ h_ => h_.2)⟩, ⟨au1⟩⟩
end Go.Proofs.YthmjblmdbcmjcaaDoor.P
