/- Contracts of functions of this seat. -/
import Derived.Test.YthmjblmdbcmjcaaDoorB0
import Derived.Test.YthmjblmdbcmjcaaDoorB13
namespace Go.Proofs.YthmjblmdbcmjcaaDoor.B
open Go.RowKit Go.Proofs.YthmjblmdbcmjcaaDoorW.PrintWords Go.Proofs.YthmjblmdbcmjcaaDoorW.PrintLast Go.Proofs.YthmjblmdbcmjcaaDoorW.PrintMore
attribute [local go_sem] max2_int min2_int max_two min_two max_three min_three max_four min_four
set_option linter.unusedVariables false
set_option linter.unusedSimpArgs false

/-! ### octet_fits: function 94 -/
def octet_fits.f (a0 : Int) (a1 : Int) : Option (Bool) := if a1 ≥ 0 then (if a0 = 8 then (some true) else (if 0 ≤ (wrap64 (8 * a0)) then (some ((shr .i64 a1 (wrap64 (8 * a0))) == 0)) else (none))) else (some false)
set_option maxHeartbeats 8000000 in
set_option maxRecDepth 100000 in
theorem octet_fits.calls (a0 : Int) (a1 : Int) (r : Bool) (w : World) (h : octet_fits.f a0 a1 = some r) :
  Calls Tryd.prog 94 #[.int .i64 a0, .int .i64 a1] w fun e w' => e = .returned (.bool r) ∧ Drawn0 w w' := by
 have H := h; unfold octet_fits.f at H; clear h
 by_cases c3 : a1 ≥ 0
 rotate_left
 ·
  rw [if_neg c3] at H; have c3b0 : decide (0 ≤ a1) = false := decide_eq_false c3; clear c3; obtain rfl := Option.some.inj H
  go_enter Tryd.func94, Tryd.ntmps94
  go_wp2; go_ret; exact ⟨au16, au30⟩

 rw [if_pos c3] at H; have c3b0 : decide (0 ≤ a1) = true := decide_eq_true c3; clear c3
 by_cases c4 : a0 = 8
 ·
  rw [if_pos c4] at H; have c4b0 := beq_iff_eq.mpr c4; have c4b1 := bne_eq_false_iff_eq.mpr c4; clear c4; obtain rfl := Option.some.inj H
  go_enter Tryd.func94, Tryd.ntmps94
  go_wp2; go_ret; exact ⟨au16, au30⟩
 ·
  rw [if_neg c4] at H; have c4b0 := beq_eq_false_iff_ne.mpr c4; have c4b1 := bne_iff_ne.mpr c4; obtain ⟨ji5, hji5⟩ : ∃ j_ : Int, (wrap64 (8 * a0)) = j_ := ⟨_, rfl⟩
  replace H : (if 0 ≤ (ji5) then (some ((shr .i64 a1 (ji5)) == 0)) else (none)) = some r := by first | (rw [hji5] at H; exact H) | (simp only [hji5] at H ⊢; exact H)
  have hji5w : (IntKind.i64.wrap (8 * a0)) = ji5 := (i64_w _).trans hji5
  by_cases c6 : 0 ≤ (ji5)
  rotate_left
  · rw [if_neg c6] at H; exact absurd H (by simp)
  rw [if_pos c6] at H; have c6b0 := eq_true c6; have c6b1 : decide (0 ≤ (ji5)) = true := decide_eq_true c6; clear c6; obtain ⟨ji7, hji7⟩ : ∃ j_ : Int, (shr .i64 a1 (ji5)) = j_ := ⟨_, rfl⟩
  replace H : (some ((ji7) == 0)) = some r := by first | (rw [hji7] at H; exact H) | (simp only [hji7] at H ⊢; exact H)
  have hji7_ : (a1 / 2 ^ min (ji5).toNat 64) = ji7 := hji7; have hji7z : (ji5) ≤ 64 → (a1 / 2 ^ (ji5).toNat) = ji7 := shr_small hji7; obtain rfl := Option.some.inj H
  go_enter Tryd.func94, Tryd.ntmps94
  go_wp2; go_ret; exact ⟨by first | rfl | (simp; done) | (simp only [← hji5, ← hji7] <;> (first | rfl | simp)) | (simp [*]; done), au30⟩
/-! ### octet_spread_int64: function 95 -/
def octet_spread_int64.l0 : Nat → Int → List Int → Int → Int → Option (List Int)
 | 0, _, _, _, _ => none
 | k + 1, x0, x5, x10, x11 => if x11 < x10 then (if 0 ≤ (wrap64 (8 * x11)) then (if 0 ≤ x11 then (if x11 < (x5.length : Int) then (octet_spread_int64.l0 k x0 (x5.set (x11 : Int).toNat ((shr .i64 x0 (wrap64 (8 * x11))) % 256)) x10 (wrap64 (x11 + 1))) else (none)) else (none)) else (none)) else (some x5)
def octet_spread_int64.f (k : Nat) (a0 : Int) (a1 : Int) : Option (List Int) := if 0 ≤ a1 then (if (a1 : Int).toNat ≤ 281474976710656 then ((some (List.replicate (a1 : Int).toNat 0 : List Int)).bind fun y190 => (octet_spread_int64.l0 k a0 y190 (y190.length : Int) 0)) else (none)) else (none)
theorem octet_spread_int64.mono_l : ∀ k, (∀ y0 y1 y2 y3, LeO (octet_spread_int64.l0 k y0 y1 y2 y3) (octet_spread_int64.l0 (k + 1) y0 y1 y2 y3))
 | 0 => fun _ _ _ _ r h => by simp [octet_spread_int64.l0] at h
 | k + 1 => by
  have ih0 := octet_spread_int64.mono_l k
  ·
   intro y0 y1 y2 y3
   unfold octet_spread_int64.l0
   repeat' first | (with_reducible first | apply ih0 | apply LeO.refl | apply LeO.none | refine LeO.ite ?_ ?_ | refine LeO.bind ?_ (fun _ => ?_)) | apply ih0 | apply LeO.none | refine LeO.ite ?_ ?_ | refine LeO.bind ?_ (fun _ => ?_)
theorem octet_spread_int64.mono : ∀ a0 a1 k, LeO (octet_spread_int64.f k a0 a1) (octet_spread_int64.f (k + 1) a0 a1) := by
 intro a0 a1 k; have ih0 := octet_spread_int64.mono_l k
 unfold octet_spread_int64.f
 repeat' first | (with_reducible first | apply ih0 | apply LeO.refl | apply LeO.none | refine LeO.ite ?_ ?_ | refine LeO.bind ?_ (fun _ => ?_)) | apply ih0 | apply LeO.none | refine LeO.ite ?_ ?_ | refine LeO.bind ?_ (fun _ => ?_)
set_option maxHeartbeats 8000000 in
set_option maxRecDepth 100000 in
theorem octet_spread_int64.calls (k : Nat) (a0 : Int) (a1 : Int) (r : List Int) (w : World) (h : octet_spread_int64.f k a0 a1 = some r) :
  Calls Tryd.prog 95 #[.int .i64 a0, .int .i64 a1] w fun e w' => ∃ v0_ : Value, e = .returned (v0_) ∧ Kd.R (Kd.int .u8) 5 w' w.heap.size (fun _ => True) v0_ r ∧ Below w.heap.size w w' := by
 have HB := Aside0.mk (Below.refl w.heap.size w); have H := h; unfold octet_spread_int64.f at H; clear h
 by_cases c3 : 0 ≤ a1
 rotate_left
 · rw [if_neg c3] at H; exact absurd H (by simp)

 rw [if_pos c3] at H; have c3b0 := eq_true c3; have c3b1 : decide (0 ≤ a1) = true := decide_eq_true c3; clear c3
 by_cases c4 : (a1 : Int).toNat ≤ 281474976710656
 rotate_left
 · rw [if_neg c4] at H; exact absurd H (by simp)
 rw [if_pos c4] at H; have c4b0 := eq_true c4; have c4b1 : decide ((a1 : Int).toNat ≤ 281474976710656) = true := decide_eq_true c4; clear c4; obtain ⟨y190, Ny190, H⟩ := sq_y H; have H' := Aside0.mk H; clear H
 go_enter Tryd.func95, Tryd.ntmps95
 go_wp2_with (first | ((with_reducible refine gate_dst (N := 8) rfl ?_); refine Kd.R_make (Kd.int .u8) _ 5 rfl (N := 8) rfl 22 _ _ rfl a1 rfl rfl Tryd.underlying22 (.int .u8 0) 1 info5 rfl (by decide) (by omega) 0 (ok := fun _ => True) (okp := fun _ => True) rfl (fun _ hk => hk) trivial (of_decide_eq_true (au9)) (Nat.le_trans (Nat.mul_le_mul_right _ (of_decide_eq_true (au9) : a1.toNat ≤ 281474976710656)) (by omega)) (Below.refl _ _) (Nat.le_refl _) ?_; intro v191 w5 ho6 hb hg_ hnew_; clear hg_ hnew_; (first | rw [← Ny190.out] at ho6 | (simp only [Int.reduceToNat] at ho6; rw [← Ny190.out] at ho6)); have n_ := sq_n2 (Kd.R_lower ho6 (below_size (au1))) (below_step (au1) hb); clear HB; obtain ⟨HO192, HB⟩ := n_; clear hb ho6; obtain ⟨Ao7, co7, eo7⟩ := Kd.R_slice HO192.out; subst eo7))
 go_loopg [11] k (fun kq v11 w' => ∃ (x5_1 : List Int) (x11_1 : Int), v11 = .int .i64 x11_1 ∧ Aside0 (octet_spread_int64.l0 kq a0 x5_1 (y190.length : Int) x11_1 = some r) ∧ Aside0 (kq ≤ k) ∧ Aside0 (Kd.R (Kd.int .u8) 5 w' w.heap.size (fun _ => True) (.slice Ao7 y190.length co7) x5_1) ∧ Aside0 (Below w.heap.size w w'))
 case atStart => exact ⟨(y190), (0), (au16), H', ⟨Nat.le_refl _⟩, ⟨by (with_reducible repeat (first | apply Kd.R_alloc | apply Kd.R_drewN | apply Kd.R_drew)); first | exact HO192.out | exact Kd.R_mono (HO192.out) (fun _ h_ => h_.2)⟩, ⟨au1⟩⟩
 case round =>
  clear H'; (try clear p2); (try clear c3); (try clear c3b0); (try clear c3b1); (try clear c4); (try clear c4b0); (try clear c4b1); obtain ⟨x5_1, x11_1, rfl, HA, HK1, HO_5, HB⟩ := hrel; have hl5_1 := (Kd.R_reads' HO_5.out).1; rw [hl5_1] at HO_5; (try simp only [hl5_1])
  cases gk with
  | zero => exact absurd HA.out (by simp [octet_spread_int64.l0])
  | succ k1 =>
   have H := HA.out; clear HA; simp only [octet_spread_int64.l0] at H
   by_cases c8 : x11_1 < (y190.length : Int)
   rotate_left
   · rw [if_neg c8] at H; have c8b0 : decide (x11_1 < (y190.length : Int)) = false := decide_eq_false c8; clear c8; (try simp only [hl5_1] at c8b0); obtain rfl := Option.some.inj H; go_wp2; go_ret; exact ⟨_, au7, by (with_reducible repeat (first | apply Kd.R_alloc | apply Kd.R_drewN | apply Kd.R_drew)); first | exact HO_5.out | exact Kd.R_mono (HO_5.out) (fun _ h_ => h_.2), au1⟩
   rw [if_pos c8] at H; have c8b0 : decide (x11_1 < (y190.length : Int)) = true := decide_eq_true c8; clear c8; (try simp only [hl5_1] at c8b0); obtain ⟨ji9, hji9⟩ : ∃ j_ : Int, (wrap64 (8 * x11_1)) = j_ := ⟨_, rfl⟩
   replace H : (if 0 ≤ (ji9) then (if 0 ≤ x11_1 then (if x11_1 < (x5_1.length : Int) then (octet_spread_int64.l0 k1 a0 (x5_1.set (x11_1 : Int).toNat ((shr .i64 a0 (ji9)) % 256)) (y190.length : Int) (wrap64 (x11_1 + 1))) else (none)) else (none)) else (none)) = some r := by first | (rw [hji9] at H; exact H) | (simp only [hji9] at H ⊢; exact H)
   have hji9w : (IntKind.i64.wrap (8 * x11_1)) = ji9 := (i64_w _).trans hji9
   by_cases c10 : 0 ≤ (ji9)
   rotate_left
   · rw [if_neg c10] at H; exact absurd H (by simp)
   rw [if_pos c10] at H; have c10b0 := eq_true c10; have c10b1 : decide (0 ≤ (ji9)) = true := decide_eq_true c10; clear c10; obtain ⟨ji11, hji11⟩ : ∃ j_ : Int, (shr .i64 a0 (ji9)) = j_ := ⟨_, rfl⟩
   replace H : (if 0 ≤ x11_1 then (if x11_1 < (x5_1.length : Int) then (octet_spread_int64.l0 k1 a0 (x5_1.set (x11_1 : Int).toNat ((ji11) % 256)) (y190.length : Int) (wrap64 (x11_1 + 1))) else (none)) else (none)) = some r := by first | (rw [hji11] at H; exact H) | (simp only [hji11] at H ⊢; exact H)
   have hji11_ : (a0 / 2 ^ min (ji9).toNat 64) = ji11 := hji11; have hji11z : (ji9) ≤ 64 → (a0 / 2 ^ (ji9).toNat) = ji11 := shr_small hji11
   by_cases c12 : 0 ≤ x11_1
   rotate_left
   · rw [if_neg c12] at H; exact absurd H (by simp)
   rw [if_pos c12] at H; have c12b0 : decide (0 ≤ x11_1) = true := decide_eq_true c12; clear c12; (try simp only [hl5_1] at c12b0)
   by_cases c13 : x11_1 < (x5_1.length : Int)
   rotate_left
   · rw [if_neg c13] at H; exact absurd H (by simp)
   rw [if_pos c13] at H; have c13b0 : decide (x11_1 < (x5_1.length : Int)) = true := decide_eq_true c13; clear c13; (try simp only [hl5_1] at c13b0); obtain ⟨y193, hy193⟩ : ∃ y_ : List Int, y_ = (x5_1.set (x11_1 : Int).toNat ((ji11) % 256)) := ⟨_, rfl⟩; rw [← hy193] at H; have Ny193 := Aside0.mk hy193; clear hy193; have H' := Aside0.mk H; clear H; have p14 : 0 ≤ (x11_1 : Int) := of_decide_eq_true (au9); have q14 : (x11_1 : Int) < ((x5_1.length : Int) : Int) := of_decide_eq_true (au9); obtain ⟨go14, co14, eo14, gb14, gl14, cl14, HG14⟩ := Kd.R_form HO_5.out (by omega)
   (first | cases eo14 | (injection eo14 with ea_ en_ ec_; (first | subst ea_ | (injection ea_ with ea_; subst ea_)); subst ec_; clear en_))
   have GB14 := Aside0.mk gb14; have GG14 := Aside0.mk HG14; clear gb14 gl14 HG14; obtain ⟨hx14_0, hf14_0⟩ := Kd.R_celln 0 HO_5.out (x11_1 : Int) p14 q14; replace p14 := eq_true p14; replace q14 := eq_true q14; have HP15 := Kd.R_putg HO_5.out (x11_1 : Int) ((ji11) % 256)
   go_wp2_with (first | ((with_reducible refine gate_store (t := 5) (p := 21) rfl ?_); refine store_event (t := 5) (p := 21) (v := ?vo_w16) (w1 := (wr.setCell ⟨go14, (x11_1 : Int).toNat, none⟩ (.int .u8 ((ji11) % 256)))) ?hg ?ho ?hn ?hr ?_; (case ho => rfl); (case hg => rfl); (case hn => rfl); (case hr => first | (go_simp; done) | (go_simp; rfl)); intro w16 hw; have hg : wr.grownBy w16 (some go14) := (by rw [hw]; exact HP15.2); have hp_ : Kd.R (Kd.int .u8) 5 w16 w.heap.size (fun _ => True) (.slice (some ⟨go14, 0, none⟩) x5_1.length co7) y193 := (by rw [hw, Ny193.out]; exact HP15.1); clear HP15; have n_ := sq_n2 hp_ ((by rw [hw]; exact below_set (HB.out) GB14.out : Below w.heap.size w w16)); clear HO_5 HB; obtain ⟨HO_5, HB⟩ := n_; clear hg hw hp_))
   (try simp only [← hl5_1])
   go_roundg k1
   case measure => have := HK1.out; omega
   case rel => exact ⟨(y193), (wrap64 (x11_1 + 1)), (au16), H', ⟨by have := HK1.out; omega⟩, ⟨by (try simp only [hl5_1]); (with_reducible repeat (first | apply Kd.R_alloc | apply Kd.R_drewN | apply Kd.R_drew)); first | exact HO_5.out | exact Kd.R_mono (HO_5.out) (fun _ h_ => h_.2)⟩, ⟨au1⟩⟩
/-! ### octet_Put: function 60 -/
def octet_Put.j0 : Nat → Int → Int → Bool → Option (List Int × Int)
 | 0, _, _, _ => none
 | k + 1, x0, x1, x6 => if x6 = true then (some (([] : List Int), 2)) else ((octet_fits.f x0 x1).bind fun t194 => (if t194 = true then ((octet_spread_int64.f k x1 x0).bind fun t195 => (some (t195, 0))) else (some (([] : List Int), 11))))
def octet_Put.f (k : Nat) (a0 : Int) (a1 : Int) : Option (List Int × Int) := if a0 < 1 then (octet_Put.j0 k a0 a1 true) else (octet_Put.j0 k a0 a1 (decide (a0 > 8)))
theorem octet_Put.mono_l : ∀ k, (∀ y0 y1 y2, LeO (octet_Put.j0 k y0 y1 y2) (octet_Put.j0 (k + 1) y0 y1 y2))
 | 0 => fun _ _ _ r h => by simp [octet_Put.j0] at h
 | k + 1 => by
  have ih0 := octet_Put.mono_l k
  ·
   intro y0 y1 y2
   unfold octet_Put.j0
   repeat' first | (with_reducible first | apply ih0 | apply octet_spread_int64.mono | apply LeO.refl | apply LeO.none | refine LeO.ite ?_ ?_ | refine LeO.bind ?_ (fun _ => ?_)) | apply ih0 | apply octet_spread_int64.mono | apply LeO.none | refine LeO.ite ?_ ?_ | refine LeO.bind ?_ (fun _ => ?_)
theorem octet_Put.mono : ∀ a0 a1 k, LeO (octet_Put.f k a0 a1) (octet_Put.f (k + 1) a0 a1) := by
 intro a0 a1 k; have ih0 := octet_Put.mono_l k
 unfold octet_Put.f
 repeat' first | (with_reducible first | apply ih0 | apply octet_spread_int64.mono | apply LeO.refl | apply LeO.none | refine LeO.ite ?_ ?_ | refine LeO.bind ?_ (fun _ => ?_)) | apply ih0 | apply octet_spread_int64.mono | apply LeO.none | refine LeO.ite ?_ ?_ | refine LeO.bind ?_ (fun _ => ?_)
set_option maxHeartbeats 8000000 in
set_option maxRecDepth 100000 in
theorem octet_Put.calls (k : Nat) (a0 : Int) (a1 : Int) (r1 : List Int) (r2 : Int) (w : World) (h : octet_Put.f k a0 a1 = some (r1, r2)) :
  Calls Tryd.prog 60 #[.int .i64 a0, .int .i64 a1] w fun e w' => ∃ v0_ : Value, e = .returned (.tuple #[v0_, .int .i64 r2]) ∧ Kd.R (Kd.int .u8) 5 w' w.heap.size (fun _ => True) v0_ r1 ∧ Below w.heap.size w w' := by
 have HB := Aside0.mk (Below.refl w.heap.size w); have H := h; unfold octet_Put.f at H; clear h; have HC3 := Aside0.mk H; clear H
 go_enter Tryd.func60, Tryd.ntmps60
 go_upto_region 1 with (fail)
 go_cut [6] (fun v6 wc => ∃ (kq : Nat) (x6_2 : Bool), v6 = .bool x6_2 ∧ Aside0 (octet_Put.j0 kq a0 a1 x6_2 = some (r1, r2)) ∧ Aside0 (kq ≤ k) ∧ Aside0 (Below w.heap.size w wc))
 case first =>
  have H := HC3.out; clear HC3
  by_cases c4 : a0 < 1
  ·
   rw [if_pos c4] at H; have c4b0 : decide (a0 < 1) = true := decide_eq_true c4; clear c4
   (first | rw [c4b0] | (simp only [i64_w, i32_w]; rw [c4b0]) | skip)
   have H' := Aside0.mk H; clear H; go_wp2; go_meet
   case rel => exact ⟨_, (true), (au16), H', ⟨au117⟩, ⟨au1⟩⟩
  ·
   rw [if_neg c4] at H; have c4b0 : decide (a0 < 1) = false := decide_eq_false c4; clear c4
   (first | rw [c4b0] | (simp only [i64_w, i32_w]; rw [c4b0]) | skip)
   have H' := Aside0.mk H; clear H; go_wp2; go_meet
   case rel => exact ⟨_, (decide (a0 > 8)), (au16), H', ⟨au117⟩, ⟨au1⟩⟩
 case rest =>
  clear HC3; obtain ⟨kq, x6_2, rfl, HA, HJ2, HB⟩ := hcut
  cases kq with
  | zero => exact absurd HA.out (by simp [octet_Put.j0])
  | succ kj2 =>
   have H := HA.out; clear HA; simp only [octet_Put.j0] at H
   by_cases c5 : x6_2 = true
   ·
    subst c5
    rw [if_pos rfl] at H; simp only [Option.some.injEq, Prod.mk.injEq] at H; obtain ⟨rfl, rfl⟩ := H; go_wp2
    go_ret2
    exact ⟨_, au7, au38, au1⟩
   ·
    replace c5 := Bool.eq_false_iff.mpr c5; subst c5
    rw [sq_f] at H; obtain ⟨t194, A6, H⟩ := sq_bind H
    by_cases c7 : t194 = true
    rotate_left
    ·
     replace c7 := Bool.eq_false_iff.mpr c7; subst c7
     rw [sq_f] at H; simp only [Option.some.injEq, Prod.mk.injEq] at H; obtain ⟨rfl, rfl⟩ := H
     go_wp2_with (first | ((with_reducible refine gate_callee (f := 94) rfl ?_); refine goesL_ (some 16) rfl rfl Tryd.func94 (by kernel_rfl) rfl #[.int .i64 a0, .int .i64 a1] rfl (au2) ?_; (with_reducible refine (octet_fits.calls a0 a1 false _ A6.out).mono ?_); rintro e w' ⟨rfl, ⟨nd, rfl⟩⟩; refine ⟨_, rfl, ?_⟩))
     go_ret2
     exact ⟨_, au7, au38, au1⟩

    subst c7
    rw [if_pos rfl] at H; obtain ⟨t195, A8, H⟩ := sq_bind H; simp only [Option.some.injEq, Prod.mk.injEq] at H; obtain ⟨rfl, rfl⟩ := H
    go_wp2_with (first | ((with_reducible refine gate_callee (f := 94) rfl ?_); refine goesL_ (some 16) rfl rfl Tryd.func94 (by kernel_rfl) rfl #[.int .i64 a0, .int .i64 a1] rfl (au2) ?_; (with_reducible refine (octet_fits.calls a0 a1 true _ A6.out).mono ?_); rintro e w' ⟨rfl, ⟨nd, rfl⟩⟩; refine ⟨_, rfl, ?_⟩) | ((with_reducible refine gate_callee (f := 95) rfl ?_); refine goesL_ (some 20) rfl rfl Tryd.func95 (by kernel_rfl) rfl #[.int .i64 a1, .int .i64 a0] rfl (au2) ?_; (with_reducible refine (octet_spread_int64.calls kj2 a1 a0 t195 _ A8.out).mono ?_); rintro e w9 ⟨v196, rfl, ho0, hb⟩; refine ⟨_, rfl, ?_⟩; have n_ := sq_n2 (Kd.R_lower ho0 (below_size (au1))) (below_step (au1) hb); clear HB; obtain ⟨HO197, HB⟩ := n_; (try clear hb); (try clear ho0)))
    go_ret2
    exact ⟨_, au7, by (with_reducible repeat (first | apply Kd.R_alloc | apply Kd.R_drewN | apply Kd.R_drew)); first | exact HO197.out | exact Kd.R_mono (HO197.out) (fun _ h_ => h_.2), au1⟩
/-! ### octet_Signed: function 90 -/
def octet_Signed.f (k : Nat) (a0 : Int) : Option (List Int) := (octet_spread_int64.f k a0 8).bind fun t198 => (some t198)
theorem octet_Signed.mono : ∀ a0 k, LeO (octet_Signed.f k a0) (octet_Signed.f (k + 1) a0) := by
 intro a0 k
 unfold octet_Signed.f
 repeat' first | (with_reducible first | apply octet_spread_int64.mono | apply LeO.refl | apply LeO.none | refine LeO.ite ?_ ?_ | refine LeO.bind ?_ (fun _ => ?_)) | apply octet_spread_int64.mono | apply LeO.none | refine LeO.ite ?_ ?_ | refine LeO.bind ?_ (fun _ => ?_)
set_option maxHeartbeats 8000000 in
set_option maxRecDepth 100000 in
theorem octet_Signed.calls (k : Nat) (a0 : Int) (r : List Int) (w : World) (h : octet_Signed.f k a0 = some r) :
  Calls Tryd.prog 90 #[.int .i64 a0] w fun e w' => ∃ v0_ : Value, e = .returned (v0_) ∧ Kd.R (Kd.int .u8) 5 w' w.heap.size (fun _ => True) v0_ r ∧ Below w.heap.size w w' := by
 have HB := Aside0.mk (Below.refl w.heap.size w); have H := h; unfold octet_Signed.f at H; clear h; obtain ⟨t198, A2, H⟩ := sq_bind H; obtain rfl := Option.some.inj H
 go_enter Tryd.func90, Tryd.ntmps90
 go_wp2_with (first | ((with_reducible refine gate_callee (f := 95) rfl ?_); refine goesL_ (some 4) rfl rfl Tryd.func95 (by kernel_rfl) rfl #[.int .i64 a0, .int .i64 8] rfl (au2) ?_; (with_reducible refine (octet_spread_int64.calls k a0 8 t198 _ A2.out).mono ?_); rintro e w3 ⟨v199, rfl, ho0, hb⟩; refine ⟨_, rfl, ?_⟩; have n_ := sq_n2 (Kd.R_lower ho0 (below_size (au1))) (below_step (au1) hb); clear HB; obtain ⟨HO200, HB⟩ := n_; (try clear hb); (try clear ho0)))
 go_ret; exact ⟨_, au7, by (with_reducible repeat (first | apply Kd.R_alloc | apply Kd.R_drewN | apply Kd.R_drew)); first | exact HO200.out | exact Kd.R_mono (HO200.out) (fun _ h_ => h_.2), au1⟩

/-! ### value_Bytes: function 58 -/
def value_Bytes.f (k : Nat) (a0_0 : Int) (a0_1 : Int) (a0_2 : Int) : Option (List Int × Int) :=
  (value_May.f a0_0 a0_1 a0_2).bind fun m => if m = true then
    (if a0_0 = 1 then (octet_Signed.f k a0_1).bind fun s => (if 1 + s.length < 140737488355328 then some ([a0_0] ++ s, 0) else none)
     else (octet_Put.f k 3 (wrap64 (a0_1 + 1048576))).bind fun p => if p.2 = 0 then (if 1 + p.1.length < 140737488355328 then (octet_Put.f k 3 (wrap64 (a0_2 + 1048576))).bind fun q => if q.2 = 0 then (if 1 + p.1.length + q.1.length < 140737488355328 then some ([a0_0] ++ p.1 ++ q.1, 0) else none) else some ([], 30) else none) else some ([], 30))
    else some ([], 30)
theorem value_Bytes.mono : ∀ a0 a1 a2 k, LeO (value_Bytes.f k a0 a1 a2) (value_Bytes.f (k + 1) a0 a1 a2) := by
  intro a0 a1 a2 k
  unfold value_Bytes.f
  refine LeO.bind (LeO.refl _) fun m => LeO.ite (LeO.ite (LeO.bind (octet_Signed.mono _ _) fun s => LeO.refl _) (LeO.bind (octet_Put.mono _ _ _) fun p => LeO.ite (LeO.ite (LeO.bind (octet_Put.mono _ _ _) fun q => LeO.refl _) (LeO.refl _)) (LeO.refl _))) (LeO.refl _)
set_option maxHeartbeats 8000000 in
set_option maxRecDepth 100000 in
theorem value_Bytes.calls (k : Nat) (a0_0 : Int) (a0_1 : Int) (a0_2 : Int) (r1 : List Int) (r2 : Int) (w : World) (h : value_Bytes.f k a0_0 a0_1 a0_2 = some (r1, r2)) :
    Calls Tryd.prog 58 #[.agg #[.int .u8 a0_0, .int .i64 a0_1, .int .i64 a0_2]] w fun e w' => ∃ v0_ : Value, e = .returned (.tuple #[v0_, .int .i64 r2]) ∧ Kd.R (Kd.int .u8) 5 w' w.heap.size (fun _ => True) v0_ r1 ∧ Below w.heap.size w w' := by
  simp only [value_Bytes.f] at h
  obtain ⟨m, hm, h⟩ := Option.bind_eq_some_iff.mp h; have HM := Aside0.mk hm; clear hm; have HB := Aside0.mk (Below.refl w.heap.size w)
  cases m with
  | false =>
    simp only [Bool.false_eq_true, if_false, Option.some.injEq, Prod.mk.injEq] at h
    obtain ⟨rfl, rfl⟩ := h
    go_enter Tryd.func58, Tryd.ntmps58
    go_wp2_with (go_at_call 57; (with_reducible refine (value_May.calls a0_0 a0_1 a0_2 _ _ HM.out).mono ?_); rintro e w1 ⟨rfl, hb⟩; have GA := Aside0.mk (blk_below (blk_new w (Obj.cells #[Value.int IntKind.u8 a0_0, Value.int IntKind.i64 a0_1, Value.int IntKind.i64 a0_2] 73)) hb); have a0 := (blk_cell GA.out 0 : World.cell? _ ⟨_, 0, none⟩ = some (Value.int .u8 a0_0)); have a1 := (blk_cell GA.out 1 : World.cell? _ ⟨_, 1, none⟩ = some (Value.int .i64 a0_1)); have a2 := (blk_cell GA.out 2 : World.cell? _ ⟨_, 2, none⟩ = some (Value.int .i64 a0_2)); have n0_ := Aside0.mk (below_step (au19) hb); clear HB; have HB := n0_; clear n0_ hb)
    go_ret2
    exact ⟨_, rfl, Kd.R_nil _ _ _ _ _, HB.out⟩
  | true =>
    simp only [if_true] at h
    by_cases c1 : a0_0 = 1
    · subst c1
      simp only [if_true] at h
      obtain ⟨s, hs, h⟩ := Option.bind_eq_some_iff.mp h; have HS := Aside0.mk hs; clear hs
      by_cases c5 : 1 + s.length < 140737488355328
      case neg => simp [c5] at h
      rw [if_pos c5] at h
      simp only [Option.some.injEq, Prod.mk.injEq] at h
      obtain ⟨rfl, rfl⟩ := h
      go_enter Tryd.func58, Tryd.ntmps58
      go_wp2_with (first | (go_at_call 57; (with_reducible refine (value_May.calls 1 a0_1 a0_2 _ _ HM.out).mono ?_); rintro e w1 ⟨rfl, hb⟩; have GA := Aside0.mk (blk_below (blk_new w (Obj.cells #[Value.int IntKind.u8 1, Value.int IntKind.i64 a0_1, Value.int IntKind.i64 a0_2] 73)) hb); have a0 := (blk_cell GA.out 0 : World.cell? _ ⟨_, 0, none⟩ = some (Value.int .u8 1)); have a1 := (blk_cell GA.out 1 : World.cell? _ ⟨_, 1, none⟩ = some (Value.int .i64 a0_1)); have a2 := (blk_cell GA.out 2 : World.cell? _ ⟨_, 2, none⟩ = some (Value.int .i64 a0_2)); have n0_ := Aside0.mk (below_step (au19) hb); clear HB; have HB := n0_; clear n0_ hb) | ((with_reducible refine gate_dst (N := 14) rfl ?_); refine Kd.R_lit (Kd.int .u8) _ 5 ?hg (N := 14) ?hd (xs := [1]) (inner := [.int .u8 1]) (ok := fun _ => True) (okp := fun _ => True) ?hr ?hp (fun _ hk => hk) trivial (Below.refl _ _) (Nat.le_refl _) (by simp) ?_; (case hd => rfl); (case hg => rfl); (case hr => first | (go_simp; done) | (go_simp; rfl)); (case hp => exact (Reps.one (show Kd.M (Kd.int .u8) _ _ _ 1 [.int .u8 1] from rfl) (Reps.none _ _))); intro vl w2 ho hb hg_ hnew_; clear hg_ hnew_; have n0_ := Aside0.mk (Kd.R_lower ho (below_size (au19))); have n1_ := Aside0.mk (below_step (au19) hb); clear HB; have HO := n0_; have HB := n1_; have gn_ := Aside0.mk (blk_below GA.out hb); clear GA; have GA := gn_; clear gn_; (try clear a0 a1 a2); have a0 := (blk_cell GA.out 0 : World.cell? _ ⟨_, 0, none⟩ = some (Value.int .u8 1)); have a1 := (blk_cell GA.out 1 : World.cell? _ ⟨_, 1, none⟩ = some (Value.int .i64 a0_1)); have a2 := (blk_cell GA.out 2 : World.cell? _ ⟨_, 2, none⟩ = some (Value.int .i64 a0_2)); clear n0_ n1_ hb ho) | (go_at_call 90; (with_reducible refine (octet_Signed.calls k _ s _ HS.out).mono ?_); rintro e w3 ⟨vp, rfl, ho, hb⟩; have m0_ := Aside0.mk (Kd.R_below HO.out hb); have n0_ := Aside0.mk (Kd.R_lower ho (below_size (au19))); have n1_ := Aside0.mk (below_step (au19) hb); clear HO HB; have HO := m0_; have HOP := n0_; have HB := n1_; have gn_ := Aside0.mk (blk_below GA.out hb); clear GA; have GA := gn_; clear gn_; (try clear a0 a1 a2); have a0 := (blk_cell GA.out 0 : World.cell? _ ⟨_, 0, none⟩ = some (Value.int .u8 1)); have a1 := (blk_cell GA.out 1 : World.cell? _ ⟨_, 1, none⟩ = some (Value.int .i64 a0_1)); have a2 := (blk_cell GA.out 2 : World.cell? _ ⟨_, 2, none⟩ = some (Value.int .i64 a0_2)); clear m0_ n0_ n1_ hb ho) | ((with_reducible refine gate_builtin (b := .append) (xs := #[.tmp 18, .tmp 21]) rfl ?_); at_builtin; obtain ⟨Ay_, cy_, hy_, _, hC_⟩ := Kd.R_reads HOP.out; refine Kd.R_append_rows (Kd.int .u8) (w0 := w) w.heap.size rfl (.tmp 18) (.tmp 21) 22 5 (.int .u8 0) 1 rfl Tryd.underlying22 info5 rfl (by decide) (by omega) vl [1] s Ay_ _ cy_ (fun _ => True) (fun _ => False) rfl ?aX ?aO hC_ (fun _ _ h => h) (fun _ h => h.elim) ?aF ?aB ?aS ?aL ?_; (case aX => exact hy_); (case aB => exact (au19)); (case aF => exact (fun _ _ => trivial)); (case aO => exact HO.out); (case aS => exact (below_size (au19))); (case aL => simp only [List.length_singleton]; omega); intro vl w4 ho hb hg hat; have n0_ := Aside0.mk hb; have n1_ := Aside0.mk ho; have gn_ := Aside0.mk (blk_grown GA.out hg (Kd.R_ne HO.out GA.out (by decide))); clear GA HB HO; have GA := gn_; have HB := n0_; have HO := n1_; clear gn_ n0_ n1_ ho hb hat hg; (try clear a0 a1 a2); have a0 := (blk_cell GA.out 0 : World.cell? _ ⟨_, 0, none⟩ = some (Value.int .u8 1)); have a1 := (blk_cell GA.out 1 : World.cell? _ ⟨_, 1, none⟩ = some (Value.int .i64 a0_1)); have a2 := (blk_cell GA.out 2 : World.cell? _ ⟨_, 2, none⟩ = some (Value.int .i64 a0_2))))
      go_ret2
      exact ⟨_, rfl, HO.out, HB.out⟩
    · rw [if_neg c1] at h
      have c2 : (a0_0 == 1) = false := by rw [beq_eq_false_iff_ne]; exact c1
      obtain ⟨⟨p1, p2⟩, hp, h⟩ := Option.bind_eq_some_iff.mp h; have HP := Aside0.mk hp; clear hp
      have i0 : ∀ (x0 x1 : Value) (w : World), (Instr.index 119 (.agg #[x0, x1]) (.int .i64 0)).run Tryd.prog w = .ok x0 w := fun _ _ _ => by kernel_rfl
      have i1 : ∀ (x0 x1 : Value) (w : World), (Instr.index 119 (.agg #[x0, x1]) (.int .i64 1)).run Tryd.prog w = .ok x1 w := fun _ _ _ => by kernel_rfl
      by_cases c3 : p2 = 0
      · subst c3
        simp only [if_true] at h
        by_cases c5 : 1 + p1.length < 140737488355328
        case neg => simp [c5] at h
        rw [if_pos c5] at h
        obtain ⟨⟨q1, q2⟩, hq, h⟩ := Option.bind_eq_some_iff.mp h; have HQ := Aside0.mk hq; clear hq
        by_cases c6 : q2 = 0
        · subst c6
          simp only [if_true] at h
          by_cases c7 : 1 + p1.length + q1.length < 140737488355328
          case neg => simp [c7] at h
          rw [if_pos c7] at h
          simp only [Option.some.injEq, Prod.mk.injEq] at h
          obtain ⟨rfl, rfl⟩ := h
          go_enter Tryd.func58, Tryd.ntmps58
          go_wp2_with (first | (go_at_call 57; (with_reducible refine (value_May.calls a0_0 a0_1 a0_2 _ _ HM.out).mono ?_); rintro e w1 ⟨rfl, hb⟩; have GA := Aside0.mk (blk_below (blk_new w (Obj.cells #[Value.int IntKind.u8 a0_0, Value.int IntKind.i64 a0_1, Value.int IntKind.i64 a0_2] 73)) hb); have a0 := (blk_cell GA.out 0 : World.cell? _ ⟨_, 0, none⟩ = some (Value.int .u8 a0_0)); have a1 := (blk_cell GA.out 1 : World.cell? _ ⟨_, 1, none⟩ = some (Value.int .i64 a0_1)); have a2 := (blk_cell GA.out 2 : World.cell? _ ⟨_, 2, none⟩ = some (Value.int .i64 a0_2)); have n0_ := Aside0.mk (below_step (au19) hb); clear HB; have HB := n0_; clear n0_ hb) | ((with_reducible refine gate_dst (N := 14) rfl ?_); refine Kd.R_lit (Kd.int .u8) _ 5 ?hg (N := 14) ?hd (xs := [a0_0]) (inner := [.int .u8 a0_0]) (ok := fun _ => True) (okp := fun _ => True) ?hr ?hp (fun _ hk => hk) trivial (Below.refl _ _) (Nat.le_refl _) (by simp) ?_; (case hd => rfl); (case hg => rfl); (case hr => first | (go_simp; done) | (go_simp; rfl)); (case hp => exact (Reps.one (show Kd.M (Kd.int .u8) _ _ _ a0_0 [.int .u8 a0_0] from rfl) (Reps.none _ _))); intro vl w2 ho hb hg_ hnew_; clear hg_ hnew_; have n0_ := Aside0.mk (Kd.R_lower ho (below_size (au19))); have n1_ := Aside0.mk (below_step (au19) hb); clear HB; have HO := n0_; have HB := n1_; have gn_ := Aside0.mk (blk_below GA.out hb); clear GA; have GA := gn_; clear gn_; (try clear a0 a1 a2); have a0 := (blk_cell GA.out 0 : World.cell? _ ⟨_, 0, none⟩ = some (Value.int .u8 a0_0)); have a1 := (blk_cell GA.out 1 : World.cell? _ ⟨_, 1, none⟩ = some (Value.int .i64 a0_1)); have a2 := (blk_cell GA.out 2 : World.cell? _ ⟨_, 2, none⟩ = some (Value.int .i64 a0_2)); clear n0_ n1_ hb ho))
          refine wp_loop_rounds 3 ?_; rw [rounds_succ]
          go_wp2_with (first | (go_at_call 60; (with_reducible refine (octet_Put.calls k 3 _ p1 0 _ HP.out).mono ?_); rintro e w3 ⟨vp, rfl, ho, hb⟩; have m0_ := Aside0.mk (Kd.R_below HO.out hb); have n0_ := Aside0.mk (Kd.R_lower ho (below_size (au19))); have n1_ := Aside0.mk (below_step (au19) hb); clear HO HB; have HO := m0_; have HOP := n0_; have HB := n1_; have gn_ := Aside0.mk (blk_below GA.out hb); clear GA; have GA := gn_; clear gn_; (try clear a0 a1 a2); have a0 := (blk_cell GA.out 0 : World.cell? _ ⟨_, 0, none⟩ = some (Value.int .u8 a0_0)); have a1 := (blk_cell GA.out 1 : World.cell? _ ⟨_, 1, none⟩ = some (Value.int .i64 a0_1)); have a2 := (blk_cell GA.out 2 : World.cell? _ ⟨_, 2, none⟩ = some (Value.int .i64 a0_2)); clear m0_ n0_ n1_ hb ho) | ((with_reducible refine gate_builtin (b := .append) (xs := #[.tmp 39, .tmp 40]) rfl ?_); at_builtin; obtain ⟨Ay_, cy_, hy_, _, hC_⟩ := Kd.R_reads HOP.out; refine Kd.R_append_rows (Kd.int .u8) (w0 := w) w.heap.size rfl (.tmp 39) (.tmp 40) 22 5 (.int .u8 0) 1 rfl Tryd.underlying22 info5 rfl (by decide) (by omega) vl [a0_0] p1 Ay_ _ cy_ (fun _ => True) (fun _ => False) rfl ?aX ?aO hC_ (fun _ _ h => h) (fun _ h => h.elim) ?aF ?aB ?aS ?aL ?_; (case aX => exact hy_); (case aB => exact (au19)); (case aF => exact (fun _ _ => trivial)); (case aO => exact HO.out); (case aS => exact (below_size (au19))); (case aL => simp only [List.length_singleton]; omega); intro vl w4 ho hb hg hat; have n0_ := Aside0.mk hb; have n1_ := Aside0.mk ho; have gn_ := Aside0.mk (blk_grown GA.out hg (Kd.R_ne HO.out GA.out (by decide))); clear GA HB HO; have GA := gn_; have HB := n0_; have HO := n1_; clear gn_ n0_ n1_ ho hb hat hg; (try clear a0 a1 a2); have a0 := (blk_cell GA.out 0 : World.cell? _ ⟨_, 0, none⟩ = some (Value.int .u8 a0_0)); have a1 := (blk_cell GA.out 1 : World.cell? _ ⟨_, 1, none⟩ = some (Value.int .i64 a0_1)); have a2 := (blk_cell GA.out 2 : World.cell? _ ⟨_, 2, none⟩ = some (Value.int .i64 a0_2))))
          rw [rounds_succ]
          go_wp2_with (first | (go_at_call 60; (with_reducible refine (octet_Put.calls k 3 _ q1 0 _ HQ.out).mono ?_); rintro e w3 ⟨vp, rfl, ho, hb⟩; have m0_ := Aside0.mk (Kd.R_below HO.out hb); have n0_ := Aside0.mk (Kd.R_lower ho (below_size (au19))); have n1_ := Aside0.mk (below_step (au19) hb); clear HO HB; have HO := m0_; have HOP := n0_; have HB := n1_; have gn_ := Aside0.mk (blk_below GA.out hb); clear GA; have GA := gn_; clear gn_; (try clear a0 a1 a2); have a0 := (blk_cell GA.out 0 : World.cell? _ ⟨_, 0, none⟩ = some (Value.int .u8 a0_0)); have a1 := (blk_cell GA.out 1 : World.cell? _ ⟨_, 1, none⟩ = some (Value.int .i64 a0_1)); have a2 := (blk_cell GA.out 2 : World.cell? _ ⟨_, 2, none⟩ = some (Value.int .i64 a0_2)); clear m0_ n0_ n1_ hb ho) | ((with_reducible refine gate_builtin (b := .append) (xs := #[.tmp 39, .tmp 40]) rfl ?_); at_builtin; obtain ⟨Ay_, cy_, hy_, _, hC_⟩ := Kd.R_reads HOP.out; refine Kd.R_append_rows (Kd.int .u8) (w0 := w) w.heap.size rfl (.tmp 39) (.tmp 40) 22 5 (.int .u8 0) 1 rfl Tryd.underlying22 info5 rfl (by decide) (by omega) vl ([a0_0] ++ p1) q1 Ay_ _ cy_ (fun _ => True) (fun _ => False) rfl ?aX ?aO hC_ (fun _ _ h => h) (fun _ h => h.elim) ?aF ?aB ?aS ?aL ?_; (case aX => exact hy_); (case aB => exact (au19)); (case aF => exact (fun _ _ => trivial)); (case aO => exact HO.out); (case aS => exact (below_size (au19))); (case aL => simp only [List.length_append, List.length_singleton]; omega); intro vl w4 ho hb hg hat; have n0_ := Aside0.mk hb; have n1_ := Aside0.mk ho; have gn_ := Aside0.mk (blk_grown GA.out hg (Kd.R_ne HO.out GA.out (by decide))); clear GA HB HO; have GA := gn_; have HB := n0_; have HO := n1_; clear gn_ n0_ n1_ ho hb hat hg; (try clear a0 a1 a2); have a0 := (blk_cell GA.out 0 : World.cell? _ ⟨_, 0, none⟩ = some (Value.int .u8 a0_0)); have a1 := (blk_cell GA.out 1 : World.cell? _ ⟨_, 1, none⟩ = some (Value.int .i64 a0_1)); have a2 := (blk_cell GA.out 2 : World.cell? _ ⟨_, 2, none⟩ = some (Value.int .i64 a0_2))))
          rw [rounds_succ]; go_wp2
          go_ret2
          exact ⟨_, rfl, HO.out, HB.out⟩
        · rw [if_neg c6] at h
          simp only [Option.some.injEq, Prod.mk.injEq] at h
          obtain ⟨rfl, rfl⟩ := h
          have c7 : (q2 != 0) = true := by rw [bne_iff_ne]; exact c6
          go_enter Tryd.func58, Tryd.ntmps58
          go_wp2_with (first | (go_at_call 57; (with_reducible refine (value_May.calls a0_0 a0_1 a0_2 _ _ HM.out).mono ?_); rintro e w1 ⟨rfl, hb⟩; have GA := Aside0.mk (blk_below (blk_new w (Obj.cells #[Value.int IntKind.u8 a0_0, Value.int IntKind.i64 a0_1, Value.int IntKind.i64 a0_2] 73)) hb); have a0 := (blk_cell GA.out 0 : World.cell? _ ⟨_, 0, none⟩ = some (Value.int .u8 a0_0)); have a1 := (blk_cell GA.out 1 : World.cell? _ ⟨_, 1, none⟩ = some (Value.int .i64 a0_1)); have a2 := (blk_cell GA.out 2 : World.cell? _ ⟨_, 2, none⟩ = some (Value.int .i64 a0_2)); have n0_ := Aside0.mk (below_step (au19) hb); clear HB; have HB := n0_; clear n0_ hb) | ((with_reducible refine gate_dst (N := 14) rfl ?_); refine Kd.R_lit (Kd.int .u8) _ 5 ?hg (N := 14) ?hd (xs := [a0_0]) (inner := [.int .u8 a0_0]) (ok := fun _ => True) (okp := fun _ => True) ?hr ?hp (fun _ hk => hk) trivial (Below.refl _ _) (Nat.le_refl _) (by simp) ?_; (case hd => rfl); (case hg => rfl); (case hr => first | (go_simp; done) | (go_simp; rfl)); (case hp => exact (Reps.one (show Kd.M (Kd.int .u8) _ _ _ a0_0 [.int .u8 a0_0] from rfl) (Reps.none _ _))); intro vl w2 ho hb hg_ hnew_; clear hg_ hnew_; have n0_ := Aside0.mk (Kd.R_lower ho (below_size (au19))); have n1_ := Aside0.mk (below_step (au19) hb); clear HB; have HO := n0_; have HB := n1_; have gn_ := Aside0.mk (blk_below GA.out hb); clear GA; have GA := gn_; clear gn_; (try clear a0 a1 a2); have a0 := (blk_cell GA.out 0 : World.cell? _ ⟨_, 0, none⟩ = some (Value.int .u8 a0_0)); have a1 := (blk_cell GA.out 1 : World.cell? _ ⟨_, 1, none⟩ = some (Value.int .i64 a0_1)); have a2 := (blk_cell GA.out 2 : World.cell? _ ⟨_, 2, none⟩ = some (Value.int .i64 a0_2)); clear n0_ n1_ hb ho))
          refine wp_loop_rounds 3 ?_; rw [rounds_succ]
          go_wp2_with (first | (go_at_call 60; (with_reducible refine (octet_Put.calls k 3 _ p1 0 _ HP.out).mono ?_); rintro e w3 ⟨vp, rfl, ho, hb⟩; have m0_ := Aside0.mk (Kd.R_below HO.out hb); have n0_ := Aside0.mk (Kd.R_lower ho (below_size (au19))); have n1_ := Aside0.mk (below_step (au19) hb); clear HO HB; have HO := m0_; have HOP := n0_; have HB := n1_; have gn_ := Aside0.mk (blk_below GA.out hb); clear GA; have GA := gn_; clear gn_; (try clear a0 a1 a2); have a0 := (blk_cell GA.out 0 : World.cell? _ ⟨_, 0, none⟩ = some (Value.int .u8 a0_0)); have a1 := (blk_cell GA.out 1 : World.cell? _ ⟨_, 1, none⟩ = some (Value.int .i64 a0_1)); have a2 := (blk_cell GA.out 2 : World.cell? _ ⟨_, 2, none⟩ = some (Value.int .i64 a0_2)); clear m0_ n0_ n1_ hb ho) | ((with_reducible refine gate_builtin (b := .append) (xs := #[.tmp 39, .tmp 40]) rfl ?_); at_builtin; obtain ⟨Ay_, cy_, hy_, _, hC_⟩ := Kd.R_reads HOP.out; refine Kd.R_append_rows (Kd.int .u8) (w0 := w) w.heap.size rfl (.tmp 39) (.tmp 40) 22 5 (.int .u8 0) 1 rfl Tryd.underlying22 info5 rfl (by decide) (by omega) vl [a0_0] p1 Ay_ _ cy_ (fun _ => True) (fun _ => False) rfl ?aX ?aO hC_ (fun _ _ h => h) (fun _ h => h.elim) ?aF ?aB ?aS ?aL ?_; (case aX => exact hy_); (case aB => exact (au19)); (case aF => exact (fun _ _ => trivial)); (case aO => exact HO.out); (case aS => exact (below_size (au19))); (case aL => simp only [List.length_singleton]; omega); intro vl w4 ho hb hg hat; have n0_ := Aside0.mk hb; have n1_ := Aside0.mk ho; have gn_ := Aside0.mk (blk_grown GA.out hg (Kd.R_ne HO.out GA.out (by decide))); clear GA HB HO; have GA := gn_; have HB := n0_; have HO := n1_; clear gn_ n0_ n1_ ho hb hat hg; (try clear a0 a1 a2); have a0 := (blk_cell GA.out 0 : World.cell? _ ⟨_, 0, none⟩ = some (Value.int .u8 a0_0)); have a1 := (blk_cell GA.out 1 : World.cell? _ ⟨_, 1, none⟩ = some (Value.int .i64 a0_1)); have a2 := (blk_cell GA.out 2 : World.cell? _ ⟨_, 2, none⟩ = some (Value.int .i64 a0_2))))
          rw [rounds_succ]
          go_wp2_with (first | (go_at_call 60; (with_reducible refine (octet_Put.calls k 3 _ q1 q2 _ HQ.out).mono ?_); rintro e w3 ⟨vp, rfl, ho, hb⟩; have m0_ := Aside0.mk (Kd.R_below HO.out hb); have n0_ := Aside0.mk (Kd.R_lower ho (below_size (au19))); have n1_ := Aside0.mk (below_step (au19) hb); clear HO HB; have HO := m0_; have HOP := n0_; have HB := n1_; have gn_ := Aside0.mk (blk_below GA.out hb); clear GA; have GA := gn_; clear gn_; (try clear a0 a1 a2); have a0 := (blk_cell GA.out 0 : World.cell? _ ⟨_, 0, none⟩ = some (Value.int .u8 a0_0)); have a1 := (blk_cell GA.out 1 : World.cell? _ ⟨_, 1, none⟩ = some (Value.int .i64 a0_1)); have a2 := (blk_cell GA.out 2 : World.cell? _ ⟨_, 2, none⟩ = some (Value.int .i64 a0_2)); clear m0_ n0_ n1_ hb ho) | ((with_reducible refine gate_builtin (b := .append) (xs := #[.tmp 39, .tmp 40]) rfl ?_); at_builtin; obtain ⟨Ay_, cy_, hy_, _, hC_⟩ := Kd.R_reads HOP.out; refine Kd.R_append_rows (Kd.int .u8) (w0 := w) w.heap.size rfl (.tmp 39) (.tmp 40) 22 5 (.int .u8 0) 1 rfl Tryd.underlying22 info5 rfl (by decide) (by omega) vl ([a0_0] ++ p1) q1 Ay_ _ cy_ (fun _ => True) (fun _ => False) rfl ?aX ?aO hC_ (fun _ _ h => h) (fun _ h => h.elim) ?aF ?aB ?aS ?aL ?_; (case aX => exact hy_); (case aB => exact (au19)); (case aF => exact (fun _ _ => trivial)); (case aO => exact HO.out); (case aS => exact (below_size (au19))); (case aL => simp only [List.length_append, List.length_singleton]; omega); intro vl w4 ho hb hg hat; have n0_ := Aside0.mk hb; have n1_ := Aside0.mk ho; have gn_ := Aside0.mk (blk_grown GA.out hg (Kd.R_ne HO.out GA.out (by decide))); clear GA HB HO; have GA := gn_; have HB := n0_; have HO := n1_; clear gn_ n0_ n1_ ho hb hat hg; (try clear a0 a1 a2); have a0 := (blk_cell GA.out 0 : World.cell? _ ⟨_, 0, none⟩ = some (Value.int .u8 a0_0)); have a1 := (blk_cell GA.out 1 : World.cell? _ ⟨_, 1, none⟩ = some (Value.int .i64 a0_1)); have a2 := (blk_cell GA.out 2 : World.cell? _ ⟨_, 2, none⟩ = some (Value.int .i64 a0_2))))
          go_ret2
          exact ⟨_, rfl, Kd.R_nil _ _ _ _ _, HB.out⟩
      · rw [if_neg c3] at h
        simp only [Option.some.injEq, Prod.mk.injEq] at h
        obtain ⟨rfl, rfl⟩ := h
        have c4 : (p2 != 0) = true := by rw [bne_iff_ne]; exact c3
        go_enter Tryd.func58, Tryd.ntmps58
        go_wp2_with (first | (go_at_call 57; (with_reducible refine (value_May.calls a0_0 a0_1 a0_2 _ _ HM.out).mono ?_); rintro e w1 ⟨rfl, hb⟩; have GA := Aside0.mk (blk_below (blk_new w (Obj.cells #[Value.int IntKind.u8 a0_0, Value.int IntKind.i64 a0_1, Value.int IntKind.i64 a0_2] 73)) hb); have a0 := (blk_cell GA.out 0 : World.cell? _ ⟨_, 0, none⟩ = some (Value.int .u8 a0_0)); have a1 := (blk_cell GA.out 1 : World.cell? _ ⟨_, 1, none⟩ = some (Value.int .i64 a0_1)); have a2 := (blk_cell GA.out 2 : World.cell? _ ⟨_, 2, none⟩ = some (Value.int .i64 a0_2)); have n0_ := Aside0.mk (below_step (au19) hb); clear HB; have HB := n0_; clear n0_ hb) | ((with_reducible refine gate_dst (N := 14) rfl ?_); refine Kd.R_lit (Kd.int .u8) _ 5 ?hg (N := 14) ?hd (xs := [a0_0]) (inner := [.int .u8 a0_0]) (ok := fun _ => True) (okp := fun _ => True) ?hr ?hp (fun _ hk => hk) trivial (Below.refl _ _) (Nat.le_refl _) (by simp) ?_; (case hd => rfl); (case hg => rfl); (case hr => first | (go_simp; done) | (go_simp; rfl)); (case hp => exact (Reps.one (show Kd.M (Kd.int .u8) _ _ _ a0_0 [.int .u8 a0_0] from rfl) (Reps.none _ _))); intro vl w2 ho hb hg_ hnew_; clear hg_ hnew_; have n0_ := Aside0.mk (Kd.R_lower ho (below_size (au19))); have n1_ := Aside0.mk (below_step (au19) hb); clear HB; have HO := n0_; have HB := n1_; have gn_ := Aside0.mk (blk_below GA.out hb); clear GA; have GA := gn_; clear gn_; (try clear a0 a1 a2); have a0 := (blk_cell GA.out 0 : World.cell? _ ⟨_, 0, none⟩ = some (Value.int .u8 a0_0)); have a1 := (blk_cell GA.out 1 : World.cell? _ ⟨_, 1, none⟩ = some (Value.int .i64 a0_1)); have a2 := (blk_cell GA.out 2 : World.cell? _ ⟨_, 2, none⟩ = some (Value.int .i64 a0_2)); clear n0_ n1_ hb ho))
        refine wp_loop_rounds 3 ?_; rw [rounds_succ]
        go_wp2_with (first | (go_at_call 60; (with_reducible refine (octet_Put.calls k 3 _ p1 p2 _ HP.out).mono ?_); rintro e w3 ⟨vp, rfl, ho, hb⟩; have m0_ := Aside0.mk (Kd.R_below HO.out hb); have n0_ := Aside0.mk (Kd.R_lower ho (below_size (au19))); have n1_ := Aside0.mk (below_step (au19) hb); clear HO HB; have HO := m0_; have HOP := n0_; have HB := n1_; have gn_ := Aside0.mk (blk_below GA.out hb); clear GA; have GA := gn_; clear gn_; (try clear a0 a1 a2); have a0 := (blk_cell GA.out 0 : World.cell? _ ⟨_, 0, none⟩ = some (Value.int .u8 a0_0)); have a1 := (blk_cell GA.out 1 : World.cell? _ ⟨_, 1, none⟩ = some (Value.int .i64 a0_1)); have a2 := (blk_cell GA.out 2 : World.cell? _ ⟨_, 2, none⟩ = some (Value.int .i64 a0_2)); clear m0_ n0_ n1_ hb ho))
        go_ret2
        exact ⟨_, rfl, Kd.R_nil _ _ _ _ _, HB.out⟩

/-! ### pool_Bytes: function 20 -/
def pool_Bytes.l0 : Nat → List Int → List (S73) → Int → Int → Option (List Int × Int)
 | 0, _, _, _, _ => none
 | k + 1, x4, x16, x17, x18 => if x18 < x17 then (if 0 ≤ x18 then (if x18 < (x16.length : Int) then ((value_Bytes.f k ((rd_T73 x16 x18).f0) ((rd_T73 x16 x18).f1) ((rd_T73 x16 x18).f2)).bind fun bt207 => (if bt207.2 = 0 then (if x4.length + bt207.1.length < 140737488355328 then (pool_Bytes.l0 k (x4 ++ bt207.1) x16 x17 (wrap64 (x18 + 1))) else (none)) else (some (([] : List Int), 60)))) else (none)) else (none)) else (some (x4, 0))
def pool_Bytes.f (k : Nat) (l0 : List (S73)) : Option (List Int × Int) := (pool_May.f k l0).bind fun t201 => (if t201 = true then (pool_Bytes.l0 k (([((l0.length : Int)) % 256] : List Int)) l0 (l0.length : Int) 0) else (some (([] : List Int), 60)))
theorem pool_Bytes.mono_l : ∀ k, (∀ y0 y1 y2 y3, LeO (pool_Bytes.l0 k y0 y1 y2 y3) (pool_Bytes.l0 (k + 1) y0 y1 y2 y3))
 | 0 => fun _ _ _ _ r h => by simp [pool_Bytes.l0] at h
 | k + 1 => by
  have ih0 := pool_Bytes.mono_l k
  ·
   intro y0 y1 y2 y3
   unfold pool_Bytes.l0
   repeat' first | (with_reducible first | apply ih0 | apply pool_May.mono | apply value_Bytes.mono | apply LeO.refl | apply LeO.none | refine LeO.ite ?_ ?_ | refine LeO.bind ?_ (fun _ => ?_)) | apply ih0 | apply pool_May.mono | apply value_Bytes.mono | apply LeO.none | refine LeO.ite ?_ ?_ | refine LeO.bind ?_ (fun _ => ?_)
theorem pool_Bytes.mono : ∀ a0 k, LeO (pool_Bytes.f k a0) (pool_Bytes.f (k + 1) a0) := by
 intro a0 k; have ih0 := pool_Bytes.mono_l k
 unfold pool_Bytes.f
 repeat' first | (with_reducible first | apply ih0 | apply pool_May.mono | apply value_Bytes.mono | apply LeO.refl | apply LeO.none | refine LeO.ite ?_ ?_ | refine LeO.bind ?_ (fun _ => ?_)) | apply ih0 | apply pool_May.mono | apply value_Bytes.mono | apply LeO.none | refine LeO.ite ?_ ?_ | refine LeO.bind ?_ (fun _ => ?_)
set_option maxHeartbeats 8000000 in
set_option maxRecDepth 100000 in
theorem pool_Bytes.calls (k : Nat) (A0 : Option Addr) (c0 : Nat) (l0 : List (S73)) (r1 : List Int) (r2 : Int) (w : World) (hr0 : Kd.C k73 w A0 l0.length l0) (hc0 : l0.length ≤ c0) (h : pool_Bytes.f k l0 = some (r1, r2)) :
  Calls Tryd.prog 20 #[.slice A0 l0.length c0] w fun e w' => ∃ v0_ : Value, e = .returned (.tuple #[v0_, .int .i64 r2]) ∧ Kd.R (Kd.int .u8) 5 w' w.heap.size (fun _ => True) v0_ r1 ∧ Below w.heap.size w w' := by
 have hu73 := Tryd.underlying73; have HR0 := Aside0.mk hr0; have HC0 := Aside0.mk hc0; clear hr0 hc0; have HB := Aside0.mk (Below.refl w.heap.size w); have H := h; unfold pool_Bytes.f at H; clear h; obtain ⟨t201, A2, H⟩ := sq_bind H
 by_cases c3 : t201 = true
 rotate_left
 ·
  replace c3 := Bool.eq_false_iff.mpr c3; subst c3
  rw [sq_f] at H; simp only [Option.some.injEq, Prod.mk.injEq] at H; obtain ⟨rfl, rfl⟩ := H
  go_enter Tryd.func20, Tryd.ntmps20
  go_wp2_with (first | ((with_reducible refine gate_callee (f := 19) rfl ?_); refine goesL_ (some 10) rfl rfl Tryd.func19 (by kernel_rfl) rfl #[.slice A0 l0.length c0] rfl (au2) ?_; (with_reducible refine (pool_May.calls k _ _ l0 false _ ?side1 ?side2 A2.out).mono ?_); (case side1 => exact au62); (case side2 => exact HC0.out); rintro e w21 ⟨rfl, hb⟩; refine ⟨_, rfl, ?_⟩; replace HB := Aside0.mk (below_step (au1) hb); (try clear hb)))
  go_ret2
  exact ⟨_, au7, au38, au1⟩

 subst c3
 rw [if_pos rfl] at H; obtain ⟨y202, hy202⟩ : ∃ y_ : List Int, y_ = (([((l0.length : Int)) % 256] : List Int)) := ⟨_, rfl⟩; rw [← hy202] at H; have Ny202 := Aside0.mk hy202; clear hy202; have H' := Aside0.mk H; clear H
 go_enter Tryd.func20, Tryd.ntmps20
 go_wp2_with (first | ((with_reducible refine gate_callee (f := 19) rfl ?_); refine goesL_ (some 10) rfl rfl Tryd.func19 (by kernel_rfl) rfl #[.slice A0 l0.length c0] rfl (au2) ?_; (with_reducible refine (pool_May.calls k _ _ l0 true _ ?side1 ?side2 A2.out).mono ?_); (case side1 => exact au62); (case side2 => exact HC0.out); rintro e w4 ⟨rfl, hb⟩; refine ⟨_, rfl, ?_⟩; replace HB := Aside0.mk (below_step (au1) hb); (try clear hb)) | ((with_reducible refine gate_dst (N := 15) rfl ?_); refine Kd.R_lit (Kd.int .u8) _ 5 ?hg (N := 15) ?hd (xs := ([((l0.length : Int)) % 256] : List Int)) (inner := [.int .u8 (((l0.length : Int)) % 256)]) (ok := fun _ => True) (okp := fun _ => True) ?hr ?hp (fun _ hk => hk) trivial (Below.refl _ _) (Nat.le_refl _) (by simp) ?_; (case hd => rfl); (case hg => rfl); (case hr => first | (go_simp; done) | (go_simp; rfl)); (case hp => exact (Reps.one (show Kd.M (Kd.int .u8) _ _ _ (((l0.length : Int)) % 256) [.int .u8 (((l0.length : Int)) % 256)] from rfl) (Reps.none _ _))); intro v203 w5 ho6 hb hg_ hnew_; clear hg_ hnew_; (first | rw [← Ny202.out] at ho6 | (simp only [Int.reduceToNat] at ho6; rw [← Ny202.out] at ho6)); have n_ := sq_n2 (Kd.R_lower ho6 (below_size (au1))) (below_step (au1) hb); clear HB; obtain ⟨HO204, HB⟩ := n_; clear hb ho6))
 go_loopg [4, 18] k (fun kq v4 v18 w' => ∃ (x4_1 : List Int) (x18_1 : Int), v18 = .int .i64 x18_1 ∧ Aside0 (pool_Bytes.l0 kq x4_1 l0 (l0.length : Int) x18_1 = some (r1, r2)) ∧ Aside0 (kq ≤ k) ∧ Aside0 (Kd.R (Kd.int .u8) 5 w' w.heap.size (fun _ => True) v4 x4_1) ∧ Aside0 (Below w.heap.size w w'))
 case atStart => exact ⟨(y202), (0), (au16), H', ⟨Nat.le_refl _⟩, ⟨by (with_reducible repeat (first | apply Kd.R_alloc | apply Kd.R_drewN | apply Kd.R_drew)); first | exact HO204.out | exact Kd.R_mono (HO204.out) (fun _ h_ => h_.2)⟩, ⟨au1⟩⟩
 case round =>
  clear H'; (try clear c1); (try clear c2); (try clear p2); (try clear c3); obtain ⟨x4_1, x18_1, rfl, HA, HK1, HO_4, HB⟩ := hrel
  cases gk with
  | zero => exact absurd HA.out (by simp [pool_Bytes.l0])
  | succ k1 =>
   have H := HA.out; clear HA; simp only [pool_Bytes.l0] at H
   by_cases c7 : x18_1 < (l0.length : Int)
   rotate_left
   ·
    rw [if_neg c7] at H; have c7b0 : decide (x18_1 < (l0.length : Int)) = false := decide_eq_false c7; clear c7; simp only [Option.some.injEq, Prod.mk.injEq] at H; obtain ⟨rfl, rfl⟩ := H; go_wp2
    go_ret2
    exact ⟨_, au7, au27, au1⟩
   rw [if_pos c7] at H; have c7b0 : decide (x18_1 < (l0.length : Int)) = true := decide_eq_true c7; clear c7
   by_cases c8 : 0 ≤ x18_1
   rotate_left
   · rw [if_neg c8] at H; exact absurd H (by simp)
   rw [if_pos c8] at H; have c8b0 : decide (0 ≤ x18_1) = true := decide_eq_true c8; clear c8
   by_cases c9 : x18_1 < (l0.length : Int)
   rotate_left
   · rw [if_neg c9] at H; exact absurd H (by simp)
   rw [if_pos c9] at H; have c9b0 : decide (x18_1 < (l0.length : Int)) = true := decide_eq_true c9; clear c9; obtain ⟨⟨t207, t210⟩, A10, H⟩ := sq_bind H; dsimp only at H
   by_cases c11 : t210 = 0
   rotate_left
   ·
    rw [if_neg c11] at H; have c11b0 := beq_eq_false_iff_ne.mpr c11; have c11b1 := bne_iff_ne.mpr c11; simp only [Option.some.injEq, Prod.mk.injEq] at H; obtain ⟨rfl, rfl⟩ := H; have p205 : 0 ≤ (x18_1 : Int) := of_decide_eq_true (au9); have q205 : x18_1 < (l0.length : Int) := of_decide_eq_true (au9); obtain ⟨ad205, e205, hx205_0, hx205_1, hx205_2⟩ := at_T73 HR0.out x18_1 p205 q205; cases e205; replace hx205_0 := sq_c HB hx205_0; replace hx205_1 := sq_c HB hx205_1; replace hx205_2 := sq_c HB hx205_2; replace p205 := eq_true p205; replace q205 := eq_true q205
    go_wp2_with (first | ((with_reducible refine gate_dst (N := 6) rfl ?_); refine sq_box (N := 6) (cs := #[.int .u8 0, .int .i64 0, .int .i64 0]) (t := 73) ?_; intro gb206 hg w18 hbox hb; have n_ := sq_n5 (Kd.R_below (au27) hb) (below_step (au1) hb) hbox ((au25 : w.heap.size ≤ gb206)) ((au25 : w.heap.size ≤ gb206)); clear HO_4 HB; obtain ⟨HO_4, HB, BK206, GW206, GE206⟩ := n_; clear hb hbox hg; have hz19 := blk_all3 BK206.out) | ((with_reducible refine gate_callee (f := 58) rfl ?_); refine goesL_ (some 24) rfl rfl Tryd.func58 (by kernel_rfl) rfl #[.agg #[.int .u8 ((rd_T73 l0 x18_1).f0), .int .i64 ((rd_T73 l0 x18_1).f1), .int .i64 ((rd_T73 l0 x18_1).f2)]] rfl (au2) ?_; (with_reducible refine (value_Bytes.calls k1 ((rd_T73 l0 x18_1).f0) ((rd_T73 l0 x18_1).f1) ((rd_T73 l0 x18_1).f2) t207 t210 _ A10.out).mono ?_); rintro e w20 ⟨v208, rfl, ho0, hb⟩; refine ⟨_, rfl, ?_⟩; have n_ := sq_n4 (Kd.R_elder' (au39) (Kd.R_base ho0) hb) (Kd.R_lower (Kd.R_new' ho0 (Kd.R_lt (au39))) (below_size (au61))) (blk_below (g := gb206) (o := .cells #[.int .u8 ((rd_T73 l0 x18_1).f0), .int .i64 ((rd_T73 l0 x18_1).f1), .int .i64 ((rd_T73 l0 x18_1).f2)] 73 (0, 0)) (au122) hb) (below_step (au61) hb); clear HO_4 BK206 HB; obtain ⟨HO_4, HO209, BK206, HB⟩ := n_; (try clear hb); (try clear ho0)))
    go_ret2
    exact ⟨_, au7, au38, au61⟩
   rw [if_pos c11] at H; have c11b0 := beq_iff_eq.mpr c11; have c11b1 := bne_eq_false_iff_eq.mpr c11; clear c11
   by_cases c12 : x4_1.length + t207.length < 140737488355328
   rotate_left
   · rw [if_neg c12] at H; exact absurd H (by simp)
   rw [if_pos c12] at H; have LMc12 := Aside0.mk c12; clear c12; obtain ⟨y211, hy211⟩ : ∃ y_ : List Int, y_ = (x4_1 ++ t207) := ⟨_, rfl⟩; rw [← hy211] at H; have Ny211 := Aside0.mk hy211; clear hy211; have H' := Aside0.mk H; clear H; have p205 : 0 ≤ (x18_1 : Int) := of_decide_eq_true (au9); have q205 : x18_1 < (l0.length : Int) := of_decide_eq_true (au9); obtain ⟨ad205, e205, hx205_0, hx205_1, hx205_2⟩ := at_T73 HR0.out x18_1 p205 q205; cases e205; replace hx205_0 := sq_c HB hx205_0; replace hx205_1 := sq_c HB hx205_1; replace hx205_2 := sq_c HB hx205_2; replace p205 := eq_true p205; replace q205 := eq_true q205
   go_wp2_with (first | ((with_reducible refine gate_dst (N := 6) rfl ?_); refine sq_box (N := 6) (cs := #[.int .u8 0, .int .i64 0, .int .i64 0]) (t := 73) ?_; intro gb206 hg w13 hbox hb; have n_ := sq_n5 (Kd.R_below (au27) hb) (below_step (au1) hb) hbox ((au25 : w.heap.size ≤ gb206)) ((au25 : w.heap.size ≤ gb206)); clear HO_4 HB; obtain ⟨HO_4, HB, BK206, GW206, GE206⟩ := n_; clear hb hbox hg; have hz14 := blk_all3 BK206.out) | ((with_reducible refine gate_callee (f := 58) rfl ?_); refine goesL_ (some 24) rfl rfl Tryd.func58 (by kernel_rfl) rfl #[.agg #[.int .u8 ((rd_T73 l0 x18_1).f0), .int .i64 ((rd_T73 l0 x18_1).f1), .int .i64 ((rd_T73 l0 x18_1).f2)]] rfl (au2) ?_; (with_reducible refine (value_Bytes.calls k1 ((rd_T73 l0 x18_1).f0) ((rd_T73 l0 x18_1).f1) ((rd_T73 l0 x18_1).f2) t207 t210 _ A10.out).mono ?_); rintro e w15 ⟨v208, rfl, ho0, hb⟩; refine ⟨_, rfl, ?_⟩; have n_ := sq_n4 (Kd.R_elder' (au39) (Kd.R_base ho0) hb) (Kd.R_lower (Kd.R_new' ho0 (Kd.R_lt (au39))) (below_size (au61))) (blk_below (g := gb206) (o := .cells #[.int .u8 ((rd_T73 l0 x18_1).f0), .int .i64 ((rd_T73 l0 x18_1).f1), .int .i64 ((rd_T73 l0 x18_1).f2)] 73 (0, 0)) (au122) hb) (below_step (au61) hb); clear HO_4 BK206 HB; obtain ⟨HO_4, HO209, BK206, HB⟩ := n_; (try clear hb); (try clear ho0); obtain ⟨Ao17, co17, eo17⟩ := Kd.R_slice HO209.out; subst eo17) | ((with_reducible refine gate_builtin (b := .append) (xs := #[.tmp 29, .tmp 30]) rfl ?_); at_builtin; refine Kd.R_append_rows (Kd.int .u8) (w0 := w) w.heap.size rfl (.tmp 29) (.tmp 30) 22 5 (.int .u8 0) 1 rfl Tryd.underlying22 info5 rfl (by decide) (by omega) u4 x4_1 t207 _ _ _ (fun k_ => some k_ ≠ (.slice Ao17 t207.length co17 : Value).ownBlock) (fun _ => False) rfl rfl ?aO ?aR (fun _ _ h => h) (fun _ h => h.elim) ?aF ?aB ?aS ?aL ?_; (case aR => repeat (first | exact (Kd.R_reads' HO209.out).2.2 | (with_reducible refine Kd.C_alloc ?_ _) | (with_reducible refine Kd.C_drewN ?_ _) | (with_reducible refine Kd.C_drew ?_))); (case aB => exact (au61)); (case aF => exact (fun k_ hk => Kd.fresh' (Kd.R_lt (by (with_reducible repeat (first | apply Kd.R_alloc | apply Kd.R_drewN | apply Kd.R_drew)); first | exact HO209.out | exact Kd.R_mono (HO209.out) (fun _ h_ => h_.2))) k_ hk)); (case aO => exact (au127)); (case aS => exact (below_size (au61))); (case aL => have := LMc12.out; omega); intro v212 w16 ho hb hg hat; rw [← Ny211.out] at ho; have n_ := sq_n4 (blk_grown (g := gb206) (o := .cells #[.int .u8 ((rd_T73 l0 x18_1).f0), .int .i64 ((rd_T73 l0 x18_1).f1), .int .i64 ((rd_T73 l0 x18_1).f2)] 73 (0, 0)) (by (with_reducible repeat (first | refine blk_drewN ?_ _ | refine blk_drew ?_ | refine blk_alloc ?_ _)); exact BK206.out) hg (Kd.R_ne HO_4.out BK206.out (by decide))) (Kd.R_after (ok := (fun _ => True)) (by (with_reducible repeat (first | apply Kd.R_alloc | apply Kd.R_drewN | apply Kd.R_drew)); first | exact HO209.out | exact Kd.R_mono (HO209.out) (fun _ h_ => h_.2)) hg hat) hb ho; clear BK206 HO209 HB HO_4; obtain ⟨BK206, HO209, HB, HO213⟩ := n_; clear ho hb hg hat))
   go_roundg k1
   case measure => have := HK1.out; omega
   case rel => exact ⟨(y211), (wrap64 (x18_1 + 1)), (au16), H', ⟨by have := HK1.out; omega⟩, ⟨by (with_reducible repeat (first | apply Kd.R_alloc | apply Kd.R_drewN | apply Kd.R_drew)); first | exact Kd.R_mono HO213.out (fun _ hk => trivial) | exact Kd.R_mono (Kd.R_mono HO213.out (fun _ hk => trivial)) (fun _ h_ => h_.2)⟩, ⟨au61⟩⟩
/-! ### slices_Grow_uint8_uint8: function 120 -/
/-- Room for n bytes, from nothing. -/
def slices_Grow_uint8_uint8.f (n : Int) : Option (List Int) := if 0 ≤ n ∧ n < 140737488355328 then some [] else none
set_option maxHeartbeats 8000000 in
set_option maxRecDepth 100000 in
theorem slices_Grow_uint8_uint8.calls  (a1 : Int) (r : List Int) (w : World) (h : slices_Grow_uint8_uint8.f a1 = some r) :
    Calls Tryd.prog 120 #[.slice none 0 0, .int .i64 a1] w fun e w' => ∃ v0_ : Value, e = .returned (v0_) ∧ Kd.R (Kd.int .u8) 5 w' w.heap.size (fun _ => True) v0_ r ∧ Below w.heap.size w w' := by
  have hl : 0 ≤ a1 ∧ a1 < 140737488355328 := by
    by_cases c : 0 ≤ a1 ∧ a1 < 140737488355328
    · exact c
    · simp [slices_Grow_uint8_uint8.f, c] at h
  simp only [slices_Grow_uint8_uint8.f, if_pos hl, Option.some.injEq] at h
  obtain rfl := h; have HB := Aside0.mk (Below.refl w.heap.size w)
  have h1 : ¬ (a1 < 0) := by omega
  have h2 : wrap64 ((0 : Int) - 0) = 0 := by unfold wrap64; omega
  have h3 : wrap64 a1 = a1 := by unfold wrap64; omega
  by_cases c0 : a1 = 0
  · subst c0
    go_enter Tryd.func120, Tryd.ntmps120
    go_wp2; go_ret; exact ⟨_, rfl, Kd.R_nil _ _ _ _ _, HB.out⟩
  · have h4 : a1 > 0 := by omega
    go_enter Tryd.func120, Tryd.ntmps120
    go_wp2_with (first | ((with_reducible refine gate_builtin (b := .append) (xs := #[.tmp 20, .tmp 21]) rfl ?_); at_builtin; refine Kd.R_append_zeros (Kd.int .u8) (w0 := w) w.heap.size rfl (.tmp 20) (.tmp 21) 22 3 5 (.int .u8 0) 1 rfl Tryd.underlying22 Tryd.underlying3 info5 rfl (by decide) (by omega) (.slice none 0 0) ([] : List Int) 0 a1 (fun _ => True) rfl rfl rfl (fun _ _ => trivial) (Kd.R_nil _ _ _ _ _) (by omega) HB.out (Nat.le_refl _) (by simp; omega) ?_; intro v1 w1 ho hb hg hat; obtain ⟨A1, c1, e1⟩ := Kd.R_slice ho; subst e1; have HO := Aside0.mk ho; have HB1 := Aside0.mk hb; obtain ⟨i0, hi0, _, hsz, _⟩ := info_parts info5; have hcut := cut_to (P := Tryd.prog) 22 5 .i64 Tryd.underlying22 hi0 A1 _ c1 0 (by omega) (by omega) (Kd.R_reads' ho).2.1; clear ho hb hg hat))
    go_ret; exact ⟨_, rfl, Kd.R_take (m := 0) HO.out (Nat.zero_le _), HB1.out⟩

end Go.Proofs.YthmjblmdbcmjcaaDoor.B
