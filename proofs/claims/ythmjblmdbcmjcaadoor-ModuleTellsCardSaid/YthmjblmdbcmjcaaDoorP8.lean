/- Contracts of functions of this seat. -/
import Derived.Test.YthmjblmdbcmjcaaDoorP0
import Derived.Test.YthmjblmdbcmjcaaDoorP7
namespace Go.Proofs.YthmjblmdbcmjcaaDoor.P
open Go.RowKit Go.Proofs.YthmjblmdbcmjcaaDoorW.PrintWords Go.Proofs.YthmjblmdbcmjcaaDoorW.PrintLast Go.Proofs.YthmjblmdbcmjcaaDoorW.PrintMore
attribute [local go_sem] max2_int min2_int max_two min_two max_three min_three max_four min_four
set_option linter.unusedVariables false
set_option linter.unusedSimpArgs false

/-! ### capstanref06_May: function 79 -/
mutual
def capstanref06_May.l0 : Nat → List (S73) → Int → Option (Bool)
 | 0, _, _ => none
 | k + 1, x0, x3 => if x3 < (x0.length : Int) then (capstanref06_May.j1 k x0 x3 (decide (x3 ≤ 32))) else (capstanref06_May.j1 k x0 x3 false)
def capstanref06_May.j1 : Nat → List (S73) → Int → Bool → Option (Bool)
 | 0, _, _, _ => none
 | k + 1, x0, x3, x11 => if x11 = true then (if 0 ≤ x3 then (if x3 < (x0.length : Int) then ((capstanref03_May.f ((rd_T73 x0 x3).f0) ((rd_T73 x0 x3).f1) ((rd_T73 x0 x3).f2)).bind fun t165 => (if t165 = true then (capstanref06_May.l0 k x0 (wrap64 (x3 + 1))) else (some false))) else (none)) else (none)) else (some (decide ((x0.length : Int) ≤ 32)))
end
def capstanref06_May.f (k : Nat) (l0 : List (S73)) : Option (Bool) := capstanref06_May.l0 k l0 0
theorem capstanref06_May.mono_l : ∀ k, (∀ y0 y1, LeO (capstanref06_May.l0 k y0 y1) (capstanref06_May.l0 (k + 1) y0 y1)) ∧ (∀ y0 y1 y2, LeO (capstanref06_May.j1 k y0 y1 y2) (capstanref06_May.j1 (k + 1) y0 y1 y2))
 | 0 => ⟨fun _ _ r h => by simp [capstanref06_May.l0] at h, fun _ _ _ r h => by simp [capstanref06_May.j1] at h⟩
 | k + 1 => by
  obtain ⟨ih0, ih1⟩ := capstanref06_May.mono_l k; refine ⟨?_, ?_⟩
  ·
   intro y0 y1
   unfold capstanref06_May.l0
   repeat' first | (with_reducible first | apply ih0 | apply ih1 | apply LeO.refl | apply LeO.none | refine LeO.ite ?_ ?_ | refine LeO.bind ?_ (fun _ => ?_)) | apply ih0 | apply ih1 | apply LeO.none | refine LeO.ite ?_ ?_ | refine LeO.bind ?_ (fun _ => ?_)
  ·
   intro y0 y1 y2
   unfold capstanref06_May.j1
   repeat' first | (with_reducible first | apply ih0 | apply ih1 | apply LeO.refl | apply LeO.none | refine LeO.ite ?_ ?_ | refine LeO.bind ?_ (fun _ => ?_)) | apply ih0 | apply ih1 | apply LeO.none | refine LeO.ite ?_ ?_ | refine LeO.bind ?_ (fun _ => ?_)
theorem capstanref06_May.mono : ∀ a0 k, LeO (capstanref06_May.f k a0) (capstanref06_May.f (k + 1) a0) := by
 intro a0 k; obtain ⟨ih0, ih1⟩ := capstanref06_May.mono_l k
 unfold capstanref06_May.f
 repeat' first | (with_reducible first | apply ih0 | apply ih1 | apply LeO.refl | apply LeO.none | refine LeO.ite ?_ ?_ | refine LeO.bind ?_ (fun _ => ?_)) | apply ih0 | apply ih1 | apply LeO.none | refine LeO.ite ?_ ?_ | refine LeO.bind ?_ (fun _ => ?_)
set_option maxHeartbeats 8000000 in
set_option maxRecDepth 100000 in
theorem capstanref06_May.calls (k : Nat) (A0 : Option Addr) (c0 : Nat) (l0 : List (S73)) (r : Bool) (w : World) (hr0 : Kd.C k73 w A0 l0.length l0) (hc0 : l0.length ≤ c0) (h : capstanref06_May.f k l0 = some r) :
  Calls Tryd.prog 79 #[.slice A0 l0.length c0] w fun e w' => e = .returned (.bool r) ∧ Below w.heap.size w w' := by
 have hu73 := Tryd.underlying73; have HR0 := Aside0.mk hr0; have HC0 := Aside0.mk hc0; clear hr0 hc0; have HB := Aside0.mk (Below.refl w.heap.size w); have H : (capstanref06_May.l0 k l0 0) = some r := h; clear h; have H' := Aside0.mk H; clear H
 go_enter Tryd.func79, Tryd.ntmps79
 go_wp2
 go_loopg [3] k (fun kq v3 w' => ∃ (x3_1 : Int), v3 = .int .i64 x3_1 ∧ Aside0 (capstanref06_May.l0 kq l0 x3_1 = some r) ∧ Aside0 (kq ≤ k) ∧ Aside0 (Below w.heap.size w w'))
 case atStart => exact ⟨(0), (au11), H', ⟨Nat.le_refl _⟩, ⟨au1⟩⟩
 case round =>
  clear H'; obtain ⟨x3_1, rfl, HA, HK1, HB⟩ := hrel
  cases gk with
  | zero => exact absurd HA.out (by simp [capstanref06_May.l0])
  | succ k1 =>
   have H := HA.out; clear HA; simp only [capstanref06_May.l0] at H; have HC2 := Aside0.mk H; clear H
   go_upto_region 2 with (fail)
   go_cut [11] (fun v11 wc => ∃ (kq : Nat) (x11_1 : Bool), v11 = .bool x11_1 ∧ Aside0 (capstanref06_May.j1 kq l0 x3_1 x11_1 = some r) ∧ Aside0 (kq ≤ k1) ∧ Aside0 (Below w.heap.size w wc))
   case first =>
    have H := HC2.out; clear HC2
    by_cases c3 : x3_1 < (l0.length : Int)
    ·
     rw [if_pos c3] at H; have c3b0 : decide (x3_1 < (l0.length : Int)) = true := decide_eq_true c3; clear c3
     (first | rw [c3b0] | (simp only [i64_w, i32_w]; rw [c3b0]) | skip)
     have H' := Aside0.mk H; clear H; go_wp2; go_meet
     case rel => exact ⟨_, (decide (x3_1 ≤ 32)), (au11), H', ⟨by have := HK1.out; first | omega | exact Nat.le_refl _⟩, ⟨au1⟩⟩
    ·
     rw [if_neg c3] at H; have c3b0 : decide (x3_1 < (l0.length : Int)) = false := decide_eq_false c3; clear c3
     (first | rw [c3b0] | (simp only [i64_w, i32_w]; rw [c3b0]) | skip)
     have H' := Aside0.mk H; clear H; go_wp2; go_meet
     case rel => exact ⟨_, (false), (au11), H', ⟨by have := HK1.out; first | omega | exact Nat.le_refl _⟩, ⟨au1⟩⟩
   case rest =>
    clear HC2; obtain ⟨kq, x11_1, rfl, HA, HJ1, HB⟩ := hcut
    cases kq with
    | zero => exact absurd HA.out (by simp [capstanref06_May.j1])
    | succ kj1 =>
     have H := HA.out; clear HA; simp only [capstanref06_May.j1] at H
     by_cases c4 : x11_1 = true
     rotate_left
     ·
      replace c4 := Bool.eq_false_iff.mpr c4; subst c4
      rw [sq_f] at H; obtain rfl := Option.some.inj H; go_wp2; go_ret; exact ⟨au4, au1⟩

     subst c4
     rw [if_pos rfl] at H
     by_cases c5 : 0 ≤ x3_1
     rotate_left
     · rw [if_neg c5] at H; exact absurd H (by simp)
     rw [if_pos c5] at H; have c5b0 : decide (0 ≤ x3_1) = true := decide_eq_true c5; clear c5
     by_cases c6 : x3_1 < (l0.length : Int)
     rotate_left
     · rw [if_neg c6] at H; exact absurd H (by simp)
     rw [if_pos c6] at H; have c6b0 : decide (x3_1 < (l0.length : Int)) = true := decide_eq_true c6; clear c6; obtain ⟨t165, A7, H⟩ := sq_bind H
     by_cases c8 : t165 = true
     rotate_left
     ·
      replace c8 := Bool.eq_false_iff.mpr c8; subst c8
      rw [sq_f] at H; obtain rfl := Option.some.inj H; have p164 : 0 ≤ (x3_1 : Int) := of_decide_eq_true (au9); have q164 : x3_1 < (l0.length : Int) := of_decide_eq_true (au9); obtain ⟨ad164, e164, hx164_0, hx164_1, hx164_2⟩ := at_T73 HR0.out x3_1 p164 q164; cases e164; replace hx164_0 := sq_c HB hx164_0; replace hx164_1 := sq_c HB hx164_1; replace hx164_2 := sq_c HB hx164_2; replace p164 := eq_true p164; replace q164 := eq_true q164
      go_wp2_with (first | ((with_reducible refine gate_callee (f := 111) rfl ?_); refine goesL_ (some 18) rfl rfl Tryd.func111 (by kernel_rfl) rfl #[.agg #[.int .u8 ((rd_T73 l0 x3_1).f0), .int .i64 ((rd_T73 l0 x3_1).f1), .int .i64 ((rd_T73 l0 x3_1).f2)]] rfl (au2) ?_; (with_reducible refine (capstanref03_May.calls ((rd_T73 l0 x3_1).f0) ((rd_T73 l0 x3_1).f1) ((rd_T73 l0 x3_1).f2) false _ A7.out).mono ?_); rintro e w10 ⟨rfl, hb⟩; refine ⟨_, rfl, ?_⟩; replace HB := Aside0.mk (below_step (au1) hb); (try clear hb)))
      go_ret; exact ⟨au4, au1⟩
     subst c8
     rw [if_pos rfl] at H; have H' := Aside0.mk H; clear H; have p164 : 0 ≤ (x3_1 : Int) := of_decide_eq_true (au9); have q164 : x3_1 < (l0.length : Int) := of_decide_eq_true (au9); obtain ⟨ad164, e164, hx164_0, hx164_1, hx164_2⟩ := at_T73 HR0.out x3_1 p164 q164; cases e164; replace hx164_0 := sq_c HB hx164_0; replace hx164_1 := sq_c HB hx164_1; replace hx164_2 := sq_c HB hx164_2; replace p164 := eq_true p164; replace q164 := eq_true q164
     go_wp2_with (first | ((with_reducible refine gate_callee (f := 111) rfl ?_); refine goesL_ (some 18) rfl rfl Tryd.func111 (by kernel_rfl) rfl #[.agg #[.int .u8 ((rd_T73 l0 x3_1).f0), .int .i64 ((rd_T73 l0 x3_1).f1), .int .i64 ((rd_T73 l0 x3_1).f2)]] rfl (au2) ?_; (with_reducible refine (capstanref03_May.calls ((rd_T73 l0 x3_1).f0) ((rd_T73 l0 x3_1).f1) ((rd_T73 l0 x3_1).f2) true _ A7.out).mono ?_); rintro e w9 ⟨rfl, hb⟩; refine ⟨_, rfl, ?_⟩; replace HB := Aside0.mk (below_step (au1) hb); (try clear hb)))
     go_roundg kj1
     case measure => have := HK1.out; have := HJ1.out; omega
     case rel => exact ⟨(wrap64 (x3_1 + 1)), (au11), H', ⟨by have := HK1.out; have := HJ1.out; omega⟩, ⟨au1⟩⟩
/-! ### capstanref01_Put: function 82 -/
mutual
def capstanref01_Put.j0 : Nat → Int → Int → Bool → Option (List Int × Int)
 | 0, _, _, _ => none
 | k + 1, x0, x1, x13 => if x13 = true then (some (([] : List Int), 2)) else (if x1 < 0 then (some (([] : List Int), 11)) else (capstanref01_Put.l0 k x0 x1 ([] : List Int) 0))
def capstanref01_Put.l0 : Nat → Int → Int → List Int → Int → Option (List Int × Int)
 | 0, _, _, _, _ => none
 | k + 1, x0, x1, x6, x7 => if x7 < x0 then (if x6.length < 140737488355328 then (capstanref01_Put.l0 k x0 (wrap64 (Int.tdiv x1 256)) (x6 ++ [(Int.tmod x1 256) % 256]) (wrap64 (x7 + 1))) else (none)) else (if x1 > 0 then (some (([] : List Int), 11)) else (some (x6, 0)))
end
def capstanref01_Put.f (k : Nat) (a0 : Int) (a1 : Int) : Option (List Int × Int) := if a0 < 1 then (capstanref01_Put.j0 k a0 a1 true) else (capstanref01_Put.j0 k a0 a1 (decide (a0 > 8)))
theorem capstanref01_Put.mono_l : ∀ k, (∀ y0 y1 y2, LeO (capstanref01_Put.j0 k y0 y1 y2) (capstanref01_Put.j0 (k + 1) y0 y1 y2)) ∧ (∀ y0 y1 y2 y3, LeO (capstanref01_Put.l0 k y0 y1 y2 y3) (capstanref01_Put.l0 (k + 1) y0 y1 y2 y3))
 | 0 => ⟨fun _ _ _ r h => by simp [capstanref01_Put.j0] at h, fun _ _ _ _ r h => by simp [capstanref01_Put.l0] at h⟩
 | k + 1 => by
  obtain ⟨ih0, ih1⟩ := capstanref01_Put.mono_l k; refine ⟨?_, ?_⟩
  ·
   intro y0 y1 y2
   unfold capstanref01_Put.j0
   repeat' first | (with_reducible first | apply ih0 | apply ih1 | apply LeO.refl | apply LeO.none | refine LeO.ite ?_ ?_ | refine LeO.bind ?_ (fun _ => ?_)) | apply ih0 | apply ih1 | apply LeO.none | refine LeO.ite ?_ ?_ | refine LeO.bind ?_ (fun _ => ?_)
  ·
   intro y0 y1 y2 y3
   unfold capstanref01_Put.l0
   repeat' first | (with_reducible first | apply ih0 | apply ih1 | apply LeO.refl | apply LeO.none | refine LeO.ite ?_ ?_ | refine LeO.bind ?_ (fun _ => ?_)) | apply ih0 | apply ih1 | apply LeO.none | refine LeO.ite ?_ ?_ | refine LeO.bind ?_ (fun _ => ?_)
theorem capstanref01_Put.mono : ∀ a0 a1 k, LeO (capstanref01_Put.f k a0 a1) (capstanref01_Put.f (k + 1) a0 a1) := by
 intro a0 a1 k; obtain ⟨ih0, ih1⟩ := capstanref01_Put.mono_l k
 unfold capstanref01_Put.f
 repeat' first | (with_reducible first | apply ih0 | apply ih1 | apply LeO.refl | apply LeO.none | refine LeO.ite ?_ ?_ | refine LeO.bind ?_ (fun _ => ?_)) | apply ih0 | apply ih1 | apply LeO.none | refine LeO.ite ?_ ?_ | refine LeO.bind ?_ (fun _ => ?_)
set_option maxHeartbeats 8000000 in
set_option maxRecDepth 100000 in
theorem capstanref01_Put.calls (k : Nat) (a0 : Int) (a1 : Int) (r1 : List Int) (r2 : Int) (w : World) (h : capstanref01_Put.f k a0 a1 = some (r1, r2)) :
  Calls Tryd.prog 82 #[.int .i64 a0, .int .i64 a1] w fun e w' => ∃ v0_ : Value, e = .returned (.tuple #[v0_, .int .i64 r2]) ∧ Kd.R (Kd.int .u8) 5 w' w.heap.size (fun _ => True) v0_ r1 ∧ Below w.heap.size w w' := by
 have HB := Aside0.mk (Below.refl w.heap.size w); have H := h; unfold capstanref01_Put.f at H; clear h; have HC3 := Aside0.mk H; clear H
 go_enter Tryd.func82, Tryd.ntmps82
 go_upto_region 1 with (fail)
 go_cut [13] (fun v13 wc => ∃ (kq : Nat) (x13_2 : Bool), v13 = .bool x13_2 ∧ Aside0 (capstanref01_Put.j0 kq a0 a1 x13_2 = some (r1, r2)) ∧ Aside0 (kq ≤ k) ∧ Aside0 (Below w.heap.size w wc))
 case first =>
  have H := HC3.out; clear HC3
  by_cases c4 : a0 < 1
  ·
   rw [if_pos c4] at H; have c4b0 : decide (a0 < 1) = true := decide_eq_true c4; clear c4
   (first | rw [c4b0] | (simp only [i64_w, i32_w]; rw [c4b0]) | skip)
   have H' := Aside0.mk H; clear H; go_wp2; go_meet
   case rel => exact ⟨_, (true), (au11), H', ⟨au95⟩, ⟨au1⟩⟩
  ·
   rw [if_neg c4] at H; have c4b0 : decide (a0 < 1) = false := decide_eq_false c4; clear c4
   (first | rw [c4b0] | (simp only [i64_w, i32_w]; rw [c4b0]) | skip)
   have H' := Aside0.mk H; clear H; go_wp2; go_meet
   case rel => exact ⟨_, (decide (a0 > 8)), (au11), H', ⟨au95⟩, ⟨au1⟩⟩
 case rest =>
  clear HC3; obtain ⟨kq, x13_2, rfl, HA, HJ2, HB⟩ := hcut
  cases kq with
  | zero => exact absurd HA.out (by simp [capstanref01_Put.j0])
  | succ kj2 =>
   have H := HA.out; clear HA; simp only [capstanref01_Put.j0] at H
   by_cases c5 : x13_2 = true
   ·
    subst c5
    rw [if_pos rfl] at H; simp only [Option.some.injEq, Prod.mk.injEq] at H; obtain ⟨rfl, rfl⟩ := H; go_wp2
    go_ret2
    exact ⟨_, au4, au27, au1⟩
   ·
    replace c5 := Bool.eq_false_iff.mpr c5; subst c5
    rw [sq_f] at H
    by_cases c6 : a1 < 0
    ·
     rw [if_pos c6] at H; have c6b0 : decide (a1 < 0) = true := decide_eq_true c6; clear c6; simp only [Option.some.injEq, Prod.mk.injEq] at H; obtain ⟨rfl, rfl⟩ := H; go_wp2
     go_ret2
     exact ⟨_, au4, au27, au1⟩
    ·
     rw [if_neg c6] at H; have c6b0 : decide (a1 < 0) = false := decide_eq_false c6; clear c6; have H' := Aside0.mk H; clear H; go_wp2
     go_loopg [1, 6, 7] kj2 (fun kq v1 v6 v7 w' => ∃ (x1_2 : Int) (x6_2 : List Int) (x7_2 : Int), v1 = .int .i64 x1_2 ∧ v7 = .int .i64 x7_2 ∧ Aside0 (capstanref01_Put.l0 kq a0 x1_2 x6_2 x7_2 = some (r1, r2)) ∧ Aside0 (kq ≤ kj2) ∧ Aside0 (Kd.R (Kd.int .u8) 5 w' w.heap.size (fun _ => True) v6 x6_2) ∧ Aside0 (Below w.heap.size w w'))
     case atStart => exact ⟨(a1), (([] : List Int)), (0), (au11), (au11), H', ⟨Nat.le_refl _⟩, ⟨au27⟩, ⟨au1⟩⟩
     case round =>
      clear H'; (try clear p2); (try clear c4); (try clear c4b0); (try clear c5); (try clear c6); (try clear c6b0); (try clear p2); obtain ⟨x1_2, x6_2, x7_2, rfl, rfl, HA, HK2, HO_6, HB⟩ := hrel
      cases gk with
      | zero => exact absurd HA.out (by simp [capstanref01_Put.l0])
      | succ k2 =>
       have H := HA.out; clear HA; simp only [capstanref01_Put.l0] at H
       by_cases c7 : x7_2 < a0
       ·
        rw [if_pos c7] at H; have c7b0 : decide (x7_2 < a0) = true := decide_eq_true c7; clear c7
        by_cases c8 : x6_2.length < 140737488355328
        rotate_left
        · rw [if_neg c8] at H; exact absurd H (by simp)
        rw [if_pos c8] at H; have LMc8 := Aside0.mk c8; clear c8; obtain ⟨y166, hy166⟩ : ∃ y_ : List Int, y_ = (x6_2 ++ [(Int.tmod x1_2 256) % 256]) := ⟨_, rfl⟩; rw [← hy166] at H; have Ny166 := Aside0.mk hy166; clear hy166; have H' := Aside0.mk H; clear H
        go_wp2_with (first | ((with_reducible refine gate_builtin (b := .append) (xs := #[.tmp 21, .tmp 25]) rfl ?_); at_builtin; refine Kd.R_append (Kd.int .u8) (w0 := w) w.heap.size rfl (.tmp 21) (.tmp 25) 22 5 (.int .u8 0) 1 rfl Tryd.underlying22 info5 rfl (by decide) (by omega) u6 x6_2 ((Int.tmod x1_2 256) % 256) [.int .u8 ((Int.tmod x1_2 256) % 256)] (fun _ => True) (fun _ => False) rfl rfl ?aP (fun _ hk => hk.elim) ?aF ?aO ?aB ?aS ?aL ?_; (case aP => exact rfl); (case aB => exact (au1)); (case aF => exact (fun _ _ => trivial)); (case aO => exact (au59)); (case aS => exact (below_size (au1))); (case aL => have := LMc8.out; omega); intro v167 w9 ho hb hg hat; rw [← Ny166.out] at ho; have n_ := sq_n2 hb ho; clear HB HO_6; obtain ⟨HB, HO168⟩ := n_; clear ho hb hg hat))
        go_roundg k2
        case measure => have := HJ2.out; have := HK2.out; omega
        case rel => exact ⟨(wrap64 (Int.tdiv x1_2 256)), (y166), (wrap64 (x7_2 + 1)), (au11), (au11), H', ⟨by have := HJ2.out; have := HK2.out; omega⟩, ⟨by (with_reducible repeat (first | apply Kd.R_alloc | apply Kd.R_drewN | apply Kd.R_drew)); first | exact HO168.out | exact Kd.R_mono (HO168.out) (fun _ h_ => h_.2)⟩, ⟨au1⟩⟩
       ·
        rw [if_neg c7] at H; have c7b0 : decide (x7_2 < a0) = false := decide_eq_false c7; clear c7
        by_cases c10 : x1_2 > 0
        ·
         rw [if_pos c10] at H; have c10b0 : decide (0 < x1_2) = true := decide_eq_true c10; clear c10; simp only [Option.some.injEq, Prod.mk.injEq] at H; obtain ⟨rfl, rfl⟩ := H; go_wp2
         go_ret2
         exact ⟨_, au4, au27, au1⟩
        ·
         rw [if_neg c10] at H; have c10b0 : decide (0 < x1_2) = false := decide_eq_false c10; clear c10; simp only [Option.some.injEq, Prod.mk.injEq] at H; obtain ⟨rfl, rfl⟩ := H; go_wp2
         go_ret2
         exact ⟨_, au4, au59, au1⟩

/-! ### capstanref01_Signed: function 112 -/
mutual
def capstanref01_Signed.j0 : Nat → Int → Bool → Option (List Int)
 | 0, _, _ => none
 | k + 1, x0, x3 => if x3 = true then (capstanref01_Signed.j1 k (wrap64 (-(wrap64 (x0 + 1)))) x3) else (capstanref01_Signed.j1 k x0 x3)
def capstanref01_Signed.j1 : Nat → Int → Bool → Option (List Int)
 | 0, _, _ => none
 | k + 1, x0, x3 => capstanref01_Signed.l0 k x0 x3 ([] : List Int) 0
def capstanref01_Signed.l0 : Nat → Int → Bool → List Int → Int → Option (List Int)
 | 0, _, _, _, _ => none
 | k + 1, x0, x3, x4, x5 => if x5 < 8 then (if x3 = true then (if x4.length < 140737488355328 then (capstanref01_Signed.l0 k (wrap64 (Int.tdiv x0 256)) x3 (x4 ++ [255 - ((Int.tmod x0 256) % 256)]) (wrap64 (x5 + 1))) else (none)) else (if x4.length < 140737488355328 then (capstanref01_Signed.l0 k (wrap64 (Int.tdiv x0 256)) x3 (x4 ++ [(Int.tmod x0 256) % 256]) (wrap64 (x5 + 1))) else (none))) else (some x4)
end
def capstanref01_Signed.f (k : Nat) (a0 : Int) : Option (List Int) := capstanref01_Signed.j0 k a0 (decide (a0 < 0))
theorem capstanref01_Signed.mono_l : ∀ k, (∀ y0 y1, LeO (capstanref01_Signed.j0 k y0 y1) (capstanref01_Signed.j0 (k + 1) y0 y1)) ∧ (∀ y0 y1, LeO (capstanref01_Signed.j1 k y0 y1) (capstanref01_Signed.j1 (k + 1) y0 y1)) ∧ (∀ y0 y1 y2 y3, LeO (capstanref01_Signed.l0 k y0 y1 y2 y3) (capstanref01_Signed.l0 (k + 1) y0 y1 y2 y3))
 | 0 => ⟨fun _ _ r h => by simp [capstanref01_Signed.j0] at h, fun _ _ r h => by simp [capstanref01_Signed.j1] at h, fun _ _ _ _ r h => by simp [capstanref01_Signed.l0] at h⟩
 | k + 1 => by
  obtain ⟨ih0, ih1, ih2⟩ := capstanref01_Signed.mono_l k; refine ⟨?_, ?_, ?_⟩
  ·
   intro y0 y1
   unfold capstanref01_Signed.j0
   repeat' first | (with_reducible first | apply ih0 | apply ih1 | apply ih2 | apply LeO.refl | apply LeO.none | refine LeO.ite ?_ ?_ | refine LeO.bind ?_ (fun _ => ?_)) | apply ih0 | apply ih1 | apply ih2 | apply LeO.none | refine LeO.ite ?_ ?_ | refine LeO.bind ?_ (fun _ => ?_)
  ·
   intro y0 y1
   unfold capstanref01_Signed.j1
   repeat' first | (with_reducible first | apply ih0 | apply ih1 | apply ih2 | apply LeO.refl | apply LeO.none | refine LeO.ite ?_ ?_ | refine LeO.bind ?_ (fun _ => ?_)) | apply ih0 | apply ih1 | apply ih2 | apply LeO.none | refine LeO.ite ?_ ?_ | refine LeO.bind ?_ (fun _ => ?_)
  ·
   intro y0 y1 y2 y3
   unfold capstanref01_Signed.l0
   repeat' first | (with_reducible first | apply ih0 | apply ih1 | apply ih2 | apply LeO.refl | apply LeO.none | refine LeO.ite ?_ ?_ | refine LeO.bind ?_ (fun _ => ?_)) | apply ih0 | apply ih1 | apply ih2 | apply LeO.none | refine LeO.ite ?_ ?_ | refine LeO.bind ?_ (fun _ => ?_)
theorem capstanref01_Signed.mono : ∀ a0 k, LeO (capstanref01_Signed.f k a0) (capstanref01_Signed.f (k + 1) a0) := by
 intro a0 k; obtain ⟨ih0, ih1, ih2⟩ := capstanref01_Signed.mono_l k
 unfold capstanref01_Signed.f
 repeat' first | (with_reducible first | apply ih0 | apply ih1 | apply ih2 | apply LeO.refl | apply LeO.none | refine LeO.ite ?_ ?_ | refine LeO.bind ?_ (fun _ => ?_)) | apply ih0 | apply ih1 | apply ih2 | apply LeO.none | refine LeO.ite ?_ ?_ | refine LeO.bind ?_ (fun _ => ?_)
set_option maxHeartbeats 8000000 in
set_option maxRecDepth 100000 in
theorem capstanref01_Signed.calls (k : Nat) (a0 : Int) (r : List Int) (w : World) (h : capstanref01_Signed.f k a0 = some r) :
  Calls Tryd.prog 112 #[.int .i64 a0] w fun e w' => ∃ v0_ : Value, e = .returned (v0_) ∧ Kd.R (Kd.int .u8) 5 w' w.heap.size (fun _ => True) v0_ r ∧ Below w.heap.size w w' := by
 have HB := Aside0.mk (Below.refl w.heap.size w); have H : (capstanref01_Signed.j0 k a0 (decide (a0 < 0))) = some r := h; clear h; have HC2 := Aside0.mk H; clear H
 go_enter Tryd.func112, Tryd.ntmps112
 go_upto_region 1 with (fail)
 go_cut [3] (fun v3 wc => ∃ (kq : Nat) (x3_1 : Bool), v3 = .bool x3_1 ∧ Aside0 (capstanref01_Signed.j0 kq a0 x3_1 = some r) ∧ Aside0 (kq ≤ k) ∧ Aside0 (Below w.heap.size w wc))
 case first =>
  have H := HC2.out; clear HC2; have H' := Aside0.mk H; clear H; go_wp2; go_meet
  case rel => exact ⟨_, (decide (a0 < 0)), (au11), H', ⟨au95⟩, ⟨au1⟩⟩
 case rest =>
  clear HC2; obtain ⟨kq, x3_1, rfl, HA, HJ1, HB⟩ := hcut
  cases kq with
  | zero => exact absurd HA.out (by simp [capstanref01_Signed.j0])
  | succ kj1 =>
   have H := HA.out; clear HA; simp only [capstanref01_Signed.j0] at H; have HC3 := Aside0.mk H; clear H
   go_upto_if 9 with (fail)
   go_cut [0] (fun v0 wc => ∃ (kq : Nat) (x0_2 : Int), v0 = .int .i64 x0_2 ∧ Aside0 (capstanref01_Signed.j1 kq x0_2 x3_1 = some r) ∧ Aside0 (kq ≤ kj1) ∧ Aside0 (Below w.heap.size w wc))
   case first =>
    have H := HC3.out; clear HC3
    by_cases c4 : x3_1 = true
    ·
     subst c4
     rw [if_pos rfl] at H; have H' := Aside0.mk H; clear H; go_wp2; go_meet
     case rel => exact ⟨_, (wrap64 (-(wrap64 (a0 + 1)))), (au11), H', ⟨by have := HJ1.out; first | omega | exact Nat.le_refl _⟩, ⟨au1⟩⟩
    ·
     replace c4 := Bool.eq_false_iff.mpr c4; subst c4
     rw [sq_f] at H; have H' := Aside0.mk H; clear H; go_wp2; go_meet
     case rel => exact ⟨_, (a0), (au11), H', ⟨by have := HJ1.out; first | omega | exact Nat.le_refl _⟩, ⟨au1⟩⟩
   case rest =>
    clear HC3; (try clear c1); (try clear p2); (try clear p2); obtain ⟨kq, x0_2, rfl, HA, HJ2, HB⟩ := hcut
    cases kq with
    | zero => exact absurd HA.out (by simp [capstanref01_Signed.j1])
    | succ kj2 =>
     have H := HA.out; clear HA; simp only [capstanref01_Signed.j1] at H; have H' := Aside0.mk H; clear H; go_wp2
     go_loopg [0, 4, 5] kj2 (fun kq v0 v4 v5 w' => ∃ (x0_3 : Int) (x4_3 : List Int) (x5_3 : Int), v0 = .int .i64 x0_3 ∧ v5 = .int .i64 x5_3 ∧ Aside0 (capstanref01_Signed.l0 kq x0_3 x3_1 x4_3 x5_3 = some r) ∧ Aside0 (kq ≤ kj2) ∧ Aside0 (Kd.R (Kd.int .u8) 5 w' w.heap.size (fun _ => True) v4 x4_3) ∧ Aside0 (Below w.heap.size w w'))
     case atStart => exact ⟨(x0_2), (([] : List Int)), (0), (au11), (au11), H', ⟨Nat.le_refl _⟩, ⟨au27⟩, ⟨au1⟩⟩
     case round =>
      clear H'; (try clear c1); (try clear p2); (try clear c4); (try clear p2); obtain ⟨x0_3, x4_3, x5_3, rfl, rfl, HA, HK3, HO_4, HB⟩ := hrel
      cases gk with
      | zero => exact absurd HA.out (by simp [capstanref01_Signed.l0])
      | succ k3 =>
       have H := HA.out; clear HA; simp only [capstanref01_Signed.l0] at H
       by_cases c5 : x5_3 < 8
       rotate_left
       · rw [if_neg c5] at H; have c5b0 : decide (x5_3 < 8) = false := decide_eq_false c5; clear c5; obtain rfl := Option.some.inj H; go_wp2; go_ret; exact ⟨_, au4, au13, au1⟩

       rw [if_pos c5] at H; have c5b0 : decide (x5_3 < 8) = true := decide_eq_true c5; clear c5
       by_cases c6 : x3_1 = true
       ·
        subst c6
        rw [if_pos rfl] at H
        by_cases c7 : x4_3.length < 140737488355328
        rotate_left
        · rw [if_neg c7] at H; exact absurd H (by simp)
        rw [if_pos c7] at H; have LMc7 := Aside0.mk c7; clear c7; obtain ⟨y169, hy169⟩ : ∃ y_ : List Int, y_ = (x4_3 ++ [255 - ((Int.tmod x0_3 256) % 256)]) := ⟨_, rfl⟩; rw [← hy169] at H; have Ny169 := Aside0.mk hy169; clear hy169; have H' := Aside0.mk H; clear H
        go_wp2_with (first | ((with_reducible refine gate_builtin (b := .append) (xs := #[.tmp 23, .tmp 25]) rfl ?_); at_builtin; refine Kd.R_append (Kd.int .u8) (w0 := w) w.heap.size rfl (.tmp 23) (.tmp 25) 22 5 (.int .u8 0) 1 rfl Tryd.underlying22 info5 rfl (by decide) (by omega) u4 x4_3 (255 - ((Int.tmod x0_3 256) % 256)) [.int .u8 (255 - ((Int.tmod x0_3 256) % 256))] (fun _ => True) (fun _ => False) rfl rfl ?aP (fun _ hk => hk.elim) ?aF ?aO ?aB ?aS ?aL ?_; (case aP => exact rfl); (case aB => exact (au1)); (case aF => exact (fun _ _ => trivial)); (case aO => exact (au13)); (case aS => exact (below_size (au1))); (case aL => have := LMc7.out; omega); intro v170 w8 ho hb hg hat; rw [← Ny169.out] at ho; have n_ := sq_n2 hb ho; clear HB HO_4; obtain ⟨HB, HO171⟩ := n_; clear ho hb hg hat))
        go_roundg k3
        case measure => have := HJ1.out; have := HJ2.out; have := HK3.out; omega
        case rel => exact ⟨(wrap64 (Int.tdiv x0_3 256)), (y169), (wrap64 (x5_3 + 1)), (au11), (au11), H', ⟨by have := HJ1.out; have := HJ2.out; have := HK3.out; omega⟩, ⟨by (with_reducible repeat (first | apply Kd.R_alloc | apply Kd.R_drewN | apply Kd.R_drew)); first | exact HO171.out | exact Kd.R_mono (HO171.out) (fun _ h_ => h_.2)⟩, ⟨au1⟩⟩
       ·
        replace c6 := Bool.eq_false_iff.mpr c6; subst c6
        rw [sq_f] at H
        by_cases c9 : x4_3.length < 140737488355328
        rotate_left
        · rw [if_neg c9] at H; exact absurd H (by simp)
        rw [if_pos c9] at H; have LMc9 := Aside0.mk c9; clear c9; obtain ⟨y172, hy172⟩ : ∃ y_ : List Int, y_ = (x4_3 ++ [(Int.tmod x0_3 256) % 256]) := ⟨_, rfl⟩; rw [← hy172] at H; have Ny172 := Aside0.mk hy172; clear hy172; have H' := Aside0.mk H; clear H
        go_wp2_with (first | ((with_reducible refine gate_builtin (b := .append) (xs := #[.tmp 23, .tmp 25]) rfl ?_); at_builtin; refine Kd.R_append (Kd.int .u8) (w0 := w) w.heap.size rfl (.tmp 23) (.tmp 25) 22 5 (.int .u8 0) 1 rfl Tryd.underlying22 info5 rfl (by decide) (by omega) u4 x4_3 ((Int.tmod x0_3 256) % 256) [.int .u8 ((Int.tmod x0_3 256) % 256)] (fun _ => True) (fun _ => False) rfl rfl ?aP (fun _ hk => hk.elim) ?aF ?aO ?aB ?aS ?aL ?_; (case aP => exact rfl); (case aB => exact (au1)); (case aF => exact (fun _ _ => trivial)); (case aO => exact (au13)); (case aS => exact (below_size (au1))); (case aL => have := LMc9.out; omega); intro v173 w10 ho hb hg hat; rw [← Ny172.out] at ho; have n_ := sq_n2 hb ho; clear HB HO_4; obtain ⟨HB, HO174⟩ := n_; clear ho hb hg hat))
        go_roundg k3
        case measure => have := HJ1.out; have := HJ2.out; have := HK3.out; omega
        case rel => exact ⟨(wrap64 (Int.tdiv x0_3 256)), (y172), (wrap64 (x5_3 + 1)), (au11), (au11), H', ⟨by have := HJ1.out; have := HJ2.out; have := HK3.out; omega⟩, ⟨by (with_reducible repeat (first | apply Kd.R_alloc | apply Kd.R_drewN | apply Kd.R_drew)); first | exact HO174.out | exact Kd.R_mono (HO174.out) (fun _ h_ => h_.2)⟩, ⟨au1⟩⟩
/-! ### capstanref03_Bytes: function 80 -/
def capstanref03_Bytes.f (k : Nat) (a0_0 : Int) (a0_1 : Int) (a0_2 : Int) : Option (List Int × Int) := (capstanref03_May.f a0_0 a0_1 a0_2).bind fun t176 => (if t176 = true then (if a0_0 = 1 then ((some (([1] : List Int) : List Int)).bind fun y177 => ((capstanref01_Signed.f k a0_1).bind fun t180 => (if y177.length + t180.length < 140737488355328 then (some ((y177 ++ t180), 0)) else (none)))) else ((capstanref01_Put.f k 3 (wrap64 (a0_1 + 1048576))).bind fun bt186 => ((capstanref01_Put.f k 3 (wrap64 (a0_2 + 1048576))).bind fun bt190 => ((some (([2] : List Int) : List Int)).bind fun y194 => (if y194.length + bt186.1.length < 140737488355328 then ((some (y194 ++ bt186.1 : List Int)).bind fun y197 => (if y197.length + bt190.1.length < 140737488355328 then (some ((y197 ++ bt190.1), 0)) else (none))) else (none)))))) else (some (([] : List Int), 30)))
theorem capstanref03_Bytes.mono : ∀ a0 a1 a2 k, LeO (capstanref03_Bytes.f k a0 a1 a2) (capstanref03_Bytes.f (k + 1) a0 a1 a2) := by
 intro a0 a1 a2 k
 unfold capstanref03_Bytes.f
 repeat' first | (with_reducible first | apply capstanref01_Put.mono | apply capstanref01_Signed.mono | apply LeO.refl | apply LeO.none | refine LeO.ite ?_ ?_ | refine LeO.bind ?_ (fun _ => ?_)) | apply capstanref01_Put.mono | apply capstanref01_Signed.mono | apply LeO.none | refine LeO.ite ?_ ?_ | refine LeO.bind ?_ (fun _ => ?_)
set_option maxHeartbeats 8000000 in
set_option maxRecDepth 100000 in
theorem capstanref03_Bytes.calls (k : Nat) (a0_0 : Int) (a0_1 : Int) (a0_2 : Int) (r1 : List Int) (r2 : Int) (w : World) (h : capstanref03_Bytes.f k a0_0 a0_1 a0_2 = some (r1, r2)) :
  Calls Tryd.prog 80 #[.agg #[.int .u8 a0_0, .int .i64 a0_1, .int .i64 a0_2]] w fun e w' => ∃ v0_ : Value, e = .returned (.tuple #[v0_, .int .i64 r2]) ∧ Kd.R (Kd.int .u8) 5 w' w.heap.size (fun _ => True) v0_ r1 ∧ Below w.heap.size w w' := by
 have hu73 := Tryd.underlying73; have HB := Aside0.mk (Below.refl w.heap.size w); have H := h; unfold capstanref03_Bytes.f at H; clear h; obtain ⟨t176, A2, H⟩ := sq_bind H
 by_cases c3 : t176 = true
 rotate_left
 ·
  replace c3 := Bool.eq_false_iff.mpr c3; subst c3
  rw [sq_f] at H; simp only [Option.some.injEq, Prod.mk.injEq] at H; obtain ⟨rfl, rfl⟩ := H
  go_enter Tryd.func80, Tryd.ntmps80
  go_wp2_with (first | ((with_reducible refine gate_dst (N := 1) rfl ?_); refine sq_box (N := 1) (cs := #[.int .u8 a0_0, .int .i64 a0_1, .int .i64 a0_2]) (t := 73) ?_; intro gb175 hg w34 hbox hb; have n_ := sq_n4 (below_step (au1) hb) hbox ((au26 : w.heap.size ≤ gb175)) ((au26 : w.heap.size ≤ gb175)); clear HB; obtain ⟨HB, BK175, GW175, GE175⟩ := n_; clear hb hbox hg; have hz35 := blk_all3 BK175.out) | ((with_reducible refine gate_callee (f := 111) rfl ?_); refine goesL_ (some 9) rfl rfl Tryd.func111 (by kernel_rfl) rfl #[.agg #[.int .u8 a0_0, .int .i64 a0_1, .int .i64 a0_2]] rfl (au2) ?_; (with_reducible refine (capstanref03_May.calls a0_0 a0_1 a0_2 false _ A2.out).mono ?_); rintro e w36 ⟨rfl, hb⟩; refine ⟨_, rfl, ?_⟩; have n_ := sq_n2 (blk_below (au96) hb) (below_step (au18) hb); clear BK175 HB; obtain ⟨BK175, HB⟩ := n_; (try clear hb)))
  go_ret2
  exact ⟨_, au4, au27, au18⟩

 subst c3
 rw [if_pos rfl] at H
 by_cases c4 : a0_0 = 1
 ·
  rw [if_pos c4] at H; have c4b0 := beq_iff_eq.mpr c4; have c4b1 := bne_eq_false_iff_eq.mpr c4; clear c4; obtain ⟨y177, Ny177, H⟩ := sq_y H; obtain ⟨t180, A5, H⟩ := sq_bind H
  by_cases c6 : y177.length + t180.length < 140737488355328
  rotate_left
  · rw [if_neg c6] at H; exact absurd H (by simp)
  rw [if_pos c6] at H; have LMc6 := Aside0.mk c6; clear c6; obtain ⟨y183, hy183⟩ : ∃ y_ : List Int, y_ = (y177 ++ t180) := ⟨_, rfl⟩
  replace H : (some (y183, 0)) = some (r1, r2) := by first | (rw [hy183]; with_reducible exact H) | (have H2_ := (Option.bind_some _ _).symm.trans H; rw [hy183]; with_reducible exact H2_) | (have H2_ := (Option.bind_some _ _).symm.trans H; with_reducible exact H2_) | with_reducible exact H | (rw [hy183]; exact H) | exact H
  have Ny183 := Aside0.mk hy183; clear hy183; simp only [Option.some.injEq, Prod.mk.injEq] at H; obtain ⟨rfl, rfl⟩ := H
  go_enter Tryd.func80, Tryd.ntmps80
  go_wp2_with (first | ((with_reducible refine gate_dst (N := 1) rfl ?_); refine sq_box (N := 1) (cs := #[.int .u8 a0_0, .int .i64 a0_1, .int .i64 a0_2]) (t := 73) ?_; intro gb175 hg w7 hbox hb; have n_ := sq_n4 (below_step (au1) hb) hbox ((au26 : w.heap.size ≤ gb175)) ((au26 : w.heap.size ≤ gb175)); clear HB; obtain ⟨HB, BK175, GW175, GE175⟩ := n_; clear hb hbox hg; have hz8 := blk_all3 BK175.out) | ((with_reducible refine gate_callee (f := 111) rfl ?_); refine goesL_ (some 9) rfl rfl Tryd.func111 (by kernel_rfl) rfl #[.agg #[.int .u8 a0_0, .int .i64 a0_1, .int .i64 a0_2]] rfl (au2) ?_; (with_reducible refine (capstanref03_May.calls a0_0 a0_1 a0_2 true _ A2.out).mono ?_); rintro e w9 ⟨rfl, hb⟩; refine ⟨_, rfl, ?_⟩; have n_ := sq_n2 (blk_below (au96) hb) (below_step (au18) hb); clear BK175 HB; obtain ⟨BK175, HB⟩ := n_; (try clear hb); have hz10 := blk_all3 BK175.out) | ((with_reducible refine gate_dst (N := 14) rfl ?_); refine Kd.R_lit (Kd.int .u8) _ 5 ?hg (N := 14) ?hd (xs := ([1] : List Int)) (inner := [.int .u8 1]) (ok := fun _ => True) (okp := fun _ => True) ?hr ?hp (fun _ hk => hk) trivial (Below.refl _ _) (Nat.le_refl _) (by simp) ?_; (case hd => rfl); (case hg => rfl); (case hr => first | (go_simp; done) | (go_simp; rfl)); (case hp => exact (Reps.one (show Kd.M (Kd.int .u8) _ _ _ 1 [.int .u8 1] from rfl) (Reps.none _ _))); intro v178 w11 ho12 hb hg_ hnew_; clear hg_ hnew_; (first | rw [← Ny177.out] at ho12 | (simp only [Int.reduceToNat] at ho12; rw [← Ny177.out] at ho12)); have n_ := sq_n3 (Kd.R_lower ho12 (below_size (au18))) (blk_below (au96) hb) (below_step (au18) hb); clear BK175 HB; obtain ⟨HO179, BK175, HB⟩ := n_; clear hb ho12; have hz13 := blk_all3 BK175.out) | ((with_reducible refine gate_callee (f := 112) rfl ?_); refine goesL_ (some 17) rfl rfl Tryd.func112 (by kernel_rfl) rfl #[.int .i64 a0_1] rfl (au2) ?_; (with_reducible refine (capstanref01_Signed.calls k a0_1 t180 _ A5.out).mono ?_); rintro e w14 ⟨v181, rfl, ho0, hb⟩; refine ⟨_, rfl, ?_⟩; have n_ := sq_n4 (Kd.R_elder' (by (with_reducible repeat (first | apply Kd.R_alloc | apply Kd.R_drewN | apply Kd.R_drew)); first | exact HO179.out | exact Kd.R_mono (HO179.out) (fun _ h_ => h_.2)) (Kd.R_base ho0) hb) (Kd.R_lower (Kd.R_new' ho0 (Kd.R_lt (by (with_reducible repeat (first | apply Kd.R_alloc | apply Kd.R_drewN | apply Kd.R_drew)); first | exact HO179.out | exact Kd.R_mono (HO179.out) (fun _ h_ => h_.2)))) (below_size (au18))) (blk_below (au96) hb) (below_step (au18) hb); clear HO179 BK175 HB; obtain ⟨HO179, HO182, BK175, HB⟩ := n_; (try clear hb); (try clear ho0); obtain ⟨Ao16, co16, eo16⟩ := Kd.R_slice HO182.out; subst eo16) | ((with_reducible refine gate_builtin (b := .append) (xs := #[.tmp 14, .tmp 17]) rfl ?_); at_builtin; refine Kd.R_append_rows (Kd.int .u8) (w0 := w) w.heap.size rfl (.tmp 14) (.tmp 17) 22 5 (.int .u8 0) 1 rfl Tryd.underlying22 info5 rfl (by decide) (by omega) v178 y177 t180 _ _ _ (fun k_ => some k_ ≠ (.slice Ao16 t180.length co16 : Value).ownBlock) (fun _ => False) rfl rfl ?aO ?aR (fun _ _ h => h) (fun _ h => h.elim) ?aF ?aB ?aS ?aL ?_; (case aR => repeat (first | exact (Kd.R_reads' HO182.out).2.2 | (with_reducible refine Kd.C_alloc ?_ _) | (with_reducible refine Kd.C_drewN ?_ _) | (with_reducible refine Kd.C_drew ?_))); (case aB => exact (au18)); (case aF => exact (fun k_ hk => Kd.fresh' (Kd.R_lt (by (with_reducible repeat (first | apply Kd.R_alloc | apply Kd.R_drewN | apply Kd.R_drew)); first | exact HO182.out | exact Kd.R_mono (HO182.out) (fun _ h_ => h_.2))) k_ hk)); (case aO => exact (by (with_reducible repeat (first | apply Kd.R_alloc | apply Kd.R_drewN | apply Kd.R_drew)); first | exact Kd.R_mono HO179.out (fun _ hk => hk.2) | exact Kd.R_mono (Kd.R_mono HO179.out (fun _ hk => hk.2)) (fun _ h_ => h_.2))); (case aS => exact (below_size (au18))); (case aL => have := LMc6.out; omega); intro v184 w15 ho hb hg hat; rw [← Ny183.out] at ho; have n_ := sq_n4 (blk_grown (au96) hg (Kd.R_ne HO179.out BK175.out (by decide))) (Kd.R_after (ok := (fun _ => True)) (by (with_reducible repeat (first | apply Kd.R_alloc | apply Kd.R_drewN | apply Kd.R_drew)); first | exact HO182.out | exact Kd.R_mono (HO182.out) (fun _ h_ => h_.2)) hg hat) hb ho; clear BK175 HO182 HB HO179; obtain ⟨BK175, HO182, HB, HO185⟩ := n_; clear ho hb hg hat))
  go_ret2
  exact ⟨_, au4, by (with_reducible repeat (first | apply Kd.R_alloc | apply Kd.R_drewN | apply Kd.R_drew)); first | exact Kd.R_mono HO185.out (fun _ hk => trivial) | exact Kd.R_mono (Kd.R_mono HO185.out (fun _ hk => trivial)) (fun _ h_ => h_.2), au18⟩
 ·
  rw [if_neg c4] at H; have c4b0 := beq_eq_false_iff_ne.mpr c4; have c4b1 := bne_iff_ne.mpr c4; obtain ⟨⟨t186, t187⟩, A17, H⟩ := sq_bind H; dsimp only at H; obtain ⟨⟨t190, t191⟩, A18, H⟩ := sq_bind H; dsimp only at H; obtain ⟨y194, Ny194, H⟩ := sq_y H
  by_cases c19 : y194.length + t186.length < 140737488355328
  rotate_left
  · rw [if_neg c19] at H; exact absurd H (by simp)
  rw [if_pos c19] at H; have LMc19 := Aside0.mk c19; clear c19; obtain ⟨y197, Ny197, H⟩ := sq_y H
  by_cases c20 : y197.length + t190.length < 140737488355328
  rotate_left
  · rw [if_neg c20] at H; exact absurd H (by simp)
  rw [if_pos c20] at H; have LMc20 := Aside0.mk c20; clear c20; obtain ⟨y200, hy200⟩ : ∃ y_ : List Int, y_ = (y197 ++ t190) := ⟨_, rfl⟩
  replace H : (some (y200, 0)) = some (r1, r2) := by first | (rw [hy200]; with_reducible exact H) | (have H2_ := (Option.bind_some _ _).symm.trans H; rw [hy200]; with_reducible exact H2_) | (have H2_ := (Option.bind_some _ _).symm.trans H; with_reducible exact H2_) | with_reducible exact H | (rw [hy200]; exact H) | exact H
  have Ny200 := Aside0.mk hy200; clear hy200; simp only [Option.some.injEq, Prod.mk.injEq] at H; obtain ⟨rfl, rfl⟩ := H
  go_enter Tryd.func80, Tryd.ntmps80
  go_wp2_with (first | ((with_reducible refine gate_dst (N := 1) rfl ?_); refine sq_box (N := 1) (cs := #[.int .u8 a0_0, .int .i64 a0_1, .int .i64 a0_2]) (t := 73) ?_; intro gb175 hg w21 hbox hb; have n_ := sq_n4 (below_step (au1) hb) hbox ((au26 : w.heap.size ≤ gb175)) ((au26 : w.heap.size ≤ gb175)); clear HB; obtain ⟨HB, BK175, GW175, GE175⟩ := n_; clear hb hbox hg; have hz22 := blk_all3 BK175.out) | ((with_reducible refine gate_callee (f := 111) rfl ?_); refine goesL_ (some 9) rfl rfl Tryd.func111 (by kernel_rfl) rfl #[.agg #[.int .u8 a0_0, .int .i64 a0_1, .int .i64 a0_2]] rfl (au2) ?_; (with_reducible refine (capstanref03_May.calls a0_0 a0_1 a0_2 true _ A2.out).mono ?_); rintro e w23 ⟨rfl, hb⟩; refine ⟨_, rfl, ?_⟩; have n_ := sq_n2 (blk_below (au96) hb) (below_step (au18) hb); clear BK175 HB; obtain ⟨BK175, HB⟩ := n_; (try clear hb); have hz24 := blk_all3 BK175.out) | ((with_reducible refine gate_callee (f := 82) rfl ?_); refine goesL_ (some 23) rfl rfl Tryd.func82 (by kernel_rfl) rfl #[.int .i64 3, .int .i64 (wrap64 (a0_1 + 1048576))] rfl (au2) ?_; (with_reducible refine (capstanref01_Put.calls k 3 (wrap64 (a0_1 + 1048576)) t186 t187 _ A17.out).mono ?_); rintro e w25 ⟨v188, rfl, ho0, hb⟩; refine ⟨_, rfl, ?_⟩; have n_ := sq_n3 (Kd.R_lower ho0 (below_size (au18))) (blk_below (au96) hb) (below_step (au18) hb); clear BK175 HB; obtain ⟨HO189, BK175, HB⟩ := n_; (try clear hb); (try clear ho0); have hz26 := blk_all3 BK175.out) | ((with_reducible refine gate_callee (f := 82) rfl ?_); refine goesL_ (some 30) rfl rfl Tryd.func82 (by kernel_rfl) rfl #[.int .i64 3, .int .i64 (wrap64 (a0_2 + 1048576))] rfl (au2) ?_; (with_reducible refine (capstanref01_Put.calls k 3 (wrap64 (a0_2 + 1048576)) t190 t191 _ A18.out).mono ?_); rintro e w27 ⟨v192, rfl, ho0, hb⟩; refine ⟨_, rfl, ?_⟩; have n_ := sq_n4 (Kd.R_elder' (au102) (Kd.R_base ho0) hb) (Kd.R_lower (Kd.R_new' ho0 (Kd.R_lt (au102))) (below_size (au18))) (blk_below (au96) hb) (below_step (au18) hb); clear HO189 BK175 HB; obtain ⟨HO189, HO193, BK175, HB⟩ := n_; (try clear hb); (try clear ho0)) | ((with_reducible refine gate_dst (N := 33) rfl ?_); refine Kd.R_lit (Kd.int .u8) _ 5 ?hg (N := 33) ?hd (xs := ([2] : List Int)) (inner := [.int .u8 2]) (ok := fun _ => True) (okp := fun _ => True) ?hr ?hp (fun _ hk => hk) trivial (Below.refl _ _) (Nat.le_refl _) (by simp) ?_; (case hd => rfl); (case hg => rfl); (case hr => first | (go_simp; done) | (go_simp; rfl)); (case hp => exact (Reps.one (show Kd.M (Kd.int .u8) _ _ _ 2 [.int .u8 2] from rfl) (Reps.none _ _))); intro v195 w28 ho29 hb hg_ hnew_; clear hg_ hnew_; (first | rw [← Ny194.out] at ho29 | (simp only [Int.reduceToNat] at ho29; rw [← Ny194.out] at ho29)); have n_ := sq_n5 (Kd.R_elder' (au102) (Kd.R_base ho29) hb) (Kd.R_elder' (au128) (Kd.R_base ho29) hb) (Kd.R_lower (Kd.R_new' (Kd.R_new' ho29 (Kd.R_lt (au102))) (Kd.R_lt (au128))) (below_size (au18))) (blk_below (au96) hb) (below_step (au18) hb); clear HO189 HO193 BK175 HB; obtain ⟨HO189, HO193, HO196, BK175, HB⟩ := n_; clear hb ho29; obtain ⟨Ao31, co31, eo31⟩ := Kd.R_slice HO189.out; subst eo31) | ((with_reducible refine gate_builtin (b := .append) (xs := #[.tmp 33, .tmp 34]) rfl ?_); at_builtin; refine Kd.R_append_rows (Kd.int .u8) (w0 := w) w.heap.size rfl (.tmp 33) (.tmp 34) 22 5 (.int .u8 0) 1 rfl Tryd.underlying22 info5 rfl (by decide) (by omega) v195 y194 t186 _ _ _ (fun k_ => some k_ ≠ (.slice Ao31 t186.length co31 : Value).ownBlock ∧ some k_ ≠ (v192 : Value).ownBlock) (fun _ => False) rfl rfl ?aO ?aR (fun _ _ h => h) (fun _ h => h.elim) ?aF ?aB ?aS ?aL ?_; (case aR => repeat (first | exact (Kd.R_reads' HO189.out).2.2 | (with_reducible refine Kd.C_alloc ?_ _) | (with_reducible refine Kd.C_drewN ?_ _) | (with_reducible refine Kd.C_drew ?_))); (case aB => exact (au18)); (case aF => exact (fun k_ hk => ⟨Kd.fresh' (Kd.R_lt (au102)) k_ hk, Kd.fresh' (Kd.R_lt (au128)) k_ hk⟩)); (case aO => exact (by (with_reducible repeat (first | apply Kd.R_alloc | apply Kd.R_drewN | apply Kd.R_drew)); first | exact Kd.R_mono HO196.out (fun _ hk => ⟨hk.1.2, hk.2⟩) | exact Kd.R_mono (Kd.R_mono HO196.out (fun _ hk => ⟨hk.1.2, hk.2⟩)) (fun _ h_ => h_.2))); (case aS => exact (below_size (au18))); (case aL => have := LMc19.out; omega); intro v198 w30 ho hb hg hat; rw [← Ny197.out] at ho; have n_ := sq_n5 (blk_grown (au96) hg (Kd.R_ne HO196.out BK175.out (by decide))) (Kd.R_after (ok := (fun k_ => some k_ ≠ (v192 : Value).ownBlock)) (by (with_reducible repeat (first | apply Kd.R_alloc | apply Kd.R_drewN | apply Kd.R_drew)); first | exact Kd.R_mono HO189.out (fun _ hk => ⟨hk.1.2, hk.2⟩) | exact Kd.R_mono (Kd.R_mono HO189.out (fun _ hk => ⟨hk.1.2, hk.2⟩)) (fun _ h_ => h_.2)) hg hat) (Kd.R_after (ok := (fun k_ => some k_ ≠ (.slice Ao31 t186.length co31 : Value).ownBlock)) (by (with_reducible repeat (first | apply Kd.R_alloc | apply Kd.R_drewN | apply Kd.R_drew)); first | exact Kd.R_mono HO193.out (fun _ hk => ⟨hk.1.2, hk.2⟩) | exact Kd.R_mono (Kd.R_mono HO193.out (fun _ hk => ⟨hk.1.2, hk.2⟩)) (fun _ h_ => h_.2)) hg hat) hb ho; clear BK175 HO189 HO193 HB HO196; obtain ⟨BK175, HO189, HO193, HB, HO199⟩ := n_; clear ho hb hg hat; obtain ⟨Ao33, co33, eo33⟩ := Kd.R_slice HO193.out; subst eo33) | ((with_reducible refine gate_builtin (b := .append) (xs := #[.tmp 35, .tmp 36]) rfl ?_); at_builtin; refine Kd.R_append_rows (Kd.int .u8) (w0 := w) w.heap.size rfl (.tmp 35) (.tmp 36) 22 5 (.int .u8 0) 1 rfl Tryd.underlying22 info5 rfl (by decide) (by omega) v198 y197 t190 _ _ _ (fun k_ => some k_ ≠ (.slice Ao31 t186.length co31 : Value).ownBlock ∧ some k_ ≠ (.slice Ao33 t190.length co33 : Value).ownBlock) (fun _ => False) rfl rfl ?aO ?aR (fun _ _ h => h) (fun _ h => h.elim) ?aF ?aB ?aS ?aL ?_; (case aR => repeat (first | exact (Kd.R_reads' HO193.out).2.2 | (with_reducible refine Kd.C_alloc ?_ _) | (with_reducible refine Kd.C_drewN ?_ _) | (with_reducible refine Kd.C_drew ?_))); (case aB => exact (au18)); (case aF => exact (fun k_ hk => ⟨Kd.fresh' (Kd.R_lt (au102)) k_ hk, Kd.fresh' (Kd.R_lt (au128)) k_ hk⟩)); (case aO => exact (by (with_reducible repeat (first | apply Kd.R_alloc | apply Kd.R_drewN | apply Kd.R_drew)); first | exact HO199.out | exact Kd.R_mono (HO199.out) (fun _ h_ => h_.2))); (case aS => exact (below_size (au18))); (case aL => have := LMc20.out; omega); intro v201 w32 ho hb hg hat; rw [← Ny200.out] at ho; have n_ := sq_n5 (blk_grown (au96) hg (Kd.R_ne HO199.out BK175.out (by decide))) (Kd.R_after (ok := (fun k_ => some k_ ≠ (.slice Ao33 t190.length co33 : Value).ownBlock)) (au102) hg hat) (Kd.R_after (ok := (fun k_ => some k_ ≠ (.slice Ao31 t186.length co31 : Value).ownBlock)) (au128) hg hat) hb ho; clear BK175 HO189 HO193 HB HO199; obtain ⟨BK175, HO189, HO193, HB, HO202⟩ := n_; clear ho hb hg hat))
  go_ret2
  exact ⟨_, au4, by (with_reducible repeat (first | apply Kd.R_alloc | apply Kd.R_drewN | apply Kd.R_drew)); first | exact Kd.R_mono HO202.out (fun _ hk => trivial) | exact Kd.R_mono (Kd.R_mono HO202.out (fun _ hk => trivial)) (fun _ h_ => h_.2), au18⟩
end Go.Proofs.YthmjblmdbcmjcaaDoor.P
