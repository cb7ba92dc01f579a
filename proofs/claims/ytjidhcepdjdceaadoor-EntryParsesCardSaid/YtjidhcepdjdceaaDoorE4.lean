/- Contracts of the functions of this seat (each: the call of the function does what the plain Lean function of the same name tells; the conditions stand in each statement). Written by a program of this session and by hand; checked by Lean. -/
import Derived.Test.YtjidhcepdjdceaaDoorE0
import Derived.Test.YtjidhcepdjdceaaDoorE3
namespace Go.Proofs.YtjidhcepdjdceaaDoor.E
open Go.RowKit Go.Proofs.YtjidhcepdjdceaaDoorW.PrintWords Go.Proofs.YtjidhcepdjdceaaDoorW.PrintLast Go.Proofs.YtjidhcepdjdceaaDoorW.PrintMore
attribute [local go_sem] max2_int min2_int max_two min_two max_three min_three max_four min_four   -- for this text's walks alone
set_option linter.unusedVariables false
set_option linter.unusedSimpArgs false

/-! ### octet_spread_uint64: function 64 -/
def octet_spread_uint64.l0 : Nat → Int → List Int → Int → Int → Option (List Int)
 | 0, _, _, _, _ => none
 | k + 1, x0, x5, x10, x11 => if x11 < x10 then (if 0 ≤ (wrap64 (8 * x11)) then (if 0 ≤ x11 then (if x11 < (x5.length : Int) then (octet_spread_uint64.l0 k x0 (x5.set (x11 : Int).toNat ((shr .u64 x0 (wrap64 (8 * x11))) % 256)) x10 (wrap64 (x11 + 1))) else (none)) else (none)) else (none)) else (some x5)
def octet_spread_uint64.f (k : Nat) (a0 : Int) (a1 : Int) : Option (List Int) := if 0 ≤ a1 then (if (a1 : Int).toNat ≤ 281474976710656 then ((some (List.replicate (a1 : Int).toNat 0 : List Int)).bind fun y136 => (octet_spread_uint64.l0 k a0 y136 (y136.length : Int) 0)) else (none)) else (none)
theorem octet_spread_uint64.mono_l : ∀ k, (∀ y0 y1 y2 y3, LeO (octet_spread_uint64.l0 k y0 y1 y2 y3) (octet_spread_uint64.l0 (k + 1) y0 y1 y2 y3))
 | 0 => fun _ _ _ _ r h => by simp [octet_spread_uint64.l0] at h
 | k + 1 => by
  have ih0 := octet_spread_uint64.mono_l k
  ·
   intro y0 y1 y2 y3
   unfold octet_spread_uint64.l0
   repeat' first
   | (with_reducible exact ih0 _ _ _ _)
   | (with_reducible exact LeO.refl _)
   | (with_reducible exact LeO.none _)
   | (with_reducible refine LeO.ite ?_ ?_)
   | (with_reducible refine LeO.bind ?_ (fun _ => ?_))
   | exact ih0 _ _ _ _
   | exact LeO.none _
   | refine LeO.ite ?_ ?_
   | refine LeO.bind ?_ (fun _ => ?_)
theorem octet_spread_uint64.mono : ∀ a0 a1 k, LeO (octet_spread_uint64.f k a0 a1) (octet_spread_uint64.f (k + 1) a0 a1) := by
 intro a0 a1 k
 have ih0 := octet_spread_uint64.mono_l k
 unfold octet_spread_uint64.f
 repeat' first
   | (with_reducible exact ih0 _ _ _ _)
   | (with_reducible exact LeO.refl _)
   | (with_reducible exact LeO.none _)
   | (with_reducible refine LeO.ite ?_ ?_)
   | (with_reducible refine LeO.bind ?_ (fun _ => ?_))
   | exact ih0 _ _ _ _
   | exact LeO.none _
   | refine LeO.ite ?_ ?_
   | refine LeO.bind ?_ (fun _ => ?_)
set_option maxHeartbeats 8000000 in
set_option maxRecDepth 100000 in
theorem octet_spread_uint64.calls (k : Nat) (a0 : Int) (a1 : Int) (r : List Int) (w : World) (h : octet_spread_uint64.f k a0 a1 = some r) :
  Calls Tryd.prog 64 #[.int .u64 a0, .int .i64 a1] w fun e w' => ∃ v0_ : Value, e = .returned (v0_) ∧ Kd.R (Kd.int .u8) 5 w' w.heap.size (fun _ => True) v0_ r ∧ Below w.heap.size w w' := by
 have HB := Aside0.mk (Below.refl w.heap.size w)
 have H : (if 0 ≤ a1 then (if (a1 : Int).toNat ≤ 281474976710656 then ((some (List.replicate (a1 : Int).toNat 0 : List Int)).bind fun y136 => (octet_spread_uint64.l0 k a0 y136 (y136.length : Int) 0)) else (none)) else (none)) = some r := h
 clear h
 by_cases c3 : 0 ≤ a1
 ·
  rw [if_pos c3] at H
  have c3b0 := eq_true c3
  have c3b1 : decide (0 ≤ a1) = true := decide_eq_true c3
  clear c3
  by_cases c4 : (a1 : Int).toNat ≤ 281474976710656
  ·
   rw [if_pos c4] at H
   have c4b0 := eq_true c4
   have c4b1 : decide ((a1 : Int).toNat ≤ 281474976710656) = true := decide_eq_true c4
   clear c4
   obtain ⟨y136, hy136⟩ : ∃ y_ : List Int, y_ = (List.replicate (a1 : Int).toNat 0) := ⟨_, rfl⟩
   replace H : (octet_spread_uint64.l0 k a0 y136 (y136.length : Int) 0) = some r := by first | (rw [hy136]; with_reducible exact H) | (have H2_ := (Option.bind_some _ _).symm.trans H; rw [hy136]; with_reducible exact H2_) | (have H2_ := (Option.bind_some _ _).symm.trans H; with_reducible exact H2_) | with_reducible exact H | (rw [hy136]; exact H) | exact H
   have Ny136 := Aside0.mk hy136
   clear hy136
   have H' := Aside0.mk H
   clear H
   go_enter Tryd.func64, Tryd.ntmps64
   go_wp2_with (first | ((with_reducible refine gate_dst (N := 8) rfl ?_); refine Kd.R_make (Kd.int .u8) _ 5 rfl (N := 8) rfl 22 _ _ rfl a1 rfl rfl Tryd.underlying22 (.int .u8 0) 1 info5 rfl (by decide) (by omega) 0 (ok := fun _ => True) (okp := fun _ => True) rfl (fun _ hk => hk) trivial (of_decide_eq_true (by first | (with_reducible assumption) | assumption)) (Nat.le_trans (Nat.mul_le_mul_right _ (of_decide_eq_true (by first | (with_reducible assumption) | assumption) : a1.toNat ≤ 281474976710656)) (by omega)) (Below.refl _ _) (Nat.le_refl _) ?_; intro v137 w5 ho6 hb hg_ hnew_; clear hg_ hnew_; (first | rw [← Ny136.out] at ho6 | (simp only [Int.reduceToNat] at ho6; rw [← Ny136.out] at ho6)); have n0_ := Aside0.mk (Kd.R_lower ho6 (below_size (by repeat (first | (with_reducible first | exact HB.out | apply below_alloc | apply pw_below_drewN | apply below_drew1) | exact HB.out | exact ⟨HB.out.os, HB.out.tape, HB.out.output, HB.out.size, HB.out.block⟩)))); have n1_ := Aside0.mk (below_step (by repeat (first | (with_reducible first | exact HB.out | apply below_alloc | apply pw_below_drewN | apply below_drew1) | exact HB.out | exact ⟨HB.out.os, HB.out.tape, HB.out.output, HB.out.size, HB.out.block⟩)) hb); clear HB; have HO138 := n0_; have HB := n1_; clear n0_ n1_; clear hb ho6; obtain ⟨Ao7, co7, eo7⟩ := Kd.R_slice HO138.out; subst eo7))
   go_loopg [11] k (fun kq v11 w' => ∃ (x5_1 : List Int) (x11_1 : Int), v11 = .int .i64 x11_1 ∧ Aside0 (octet_spread_uint64.l0 kq a0 x5_1 (y136.length : Int) x11_1 = some r) ∧ Aside0 (kq ≤ k) ∧ Aside0 (Kd.R (Kd.int .u8) 5 w' w.heap.size (fun _ => True) (.slice Ao7 y136.length co7) x5_1) ∧ Aside0 (Below w.heap.size w w'))
   case atStart => exact ⟨(y136), (0), (by first | rfl | (simp; done) | (simp [*]; done)), H', ⟨Nat.le_refl _⟩, ⟨by (with_reducible repeat (first | apply Kd.R_alloc | apply Kd.R_drewN | apply Kd.R_drew)); first | exact HO138.out | exact Kd.R_mono (HO138.out) (fun _ h_ => h_.2)⟩, ⟨by repeat (first | (with_reducible first | exact HB.out | apply below_alloc | apply pw_below_drewN | apply below_drew1) | exact HB.out | exact ⟨HB.out.os, HB.out.tape, HB.out.output, HB.out.size, HB.out.block⟩)⟩⟩
   case round =>
    clear H'
    try clear p2
    try clear c3
    try clear c3b0
    try clear c3b1
    try clear c4
    try clear c4b0
    try clear c4b1
    try clear c6
    obtain ⟨x5_1, x11_1, rfl, HA, HK1, HO_5, HB⟩ := hrel
    have hl5_1 := (Kd.R_reads' HO_5.out).1
    rw [hl5_1] at HO_5
    (try simp only [hl5_1])
    cases gk with
    | zero => exact absurd HA.out (by simp [octet_spread_uint64.l0])
    | succ k1 =>
     have H := HA.out
     clear HA
     simp only [octet_spread_uint64.l0] at H
     by_cases c8 : x11_1 < (y136.length : Int)
     ·
      rw [if_pos c8] at H
      have c8b0 : decide (x11_1 < (y136.length : Int)) = true := decide_eq_true c8
      clear c8
      (try simp only [hl5_1] at c8b0)
      obtain ⟨ji9, hji9⟩ : ∃ j_ : Int, (wrap64 (8 * x11_1)) = j_ := ⟨_, rfl⟩
      replace H : (if 0 ≤ (ji9) then (if 0 ≤ x11_1 then (if x11_1 < (x5_1.length : Int) then (octet_spread_uint64.l0 k1 a0 (x5_1.set (x11_1 : Int).toNat ((shr .u64 a0 (ji9)) % 256)) (y136.length : Int) (wrap64 (x11_1 + 1))) else (none)) else (none)) else (none)) = some r := by first | (rw [hji9] at H; exact H) | (simp only [hji9] at H ⊢; exact H)
      have hji9w : (IntKind.i64.wrap (8 * x11_1)) = ji9 := (i64_w _).trans hji9
      by_cases c10 : 0 ≤ (ji9)
      ·
       rw [if_pos c10] at H
       have c10b0 := eq_true c10
       have c10b1 : decide (0 ≤ (ji9)) = true := decide_eq_true c10
       clear c10
       obtain ⟨ji11, hji11⟩ : ∃ j_ : Int, (shr .u64 a0 (ji9)) = j_ := ⟨_, rfl⟩
       replace H : (if 0 ≤ x11_1 then (if x11_1 < (x5_1.length : Int) then (octet_spread_uint64.l0 k1 a0 (x5_1.set (x11_1 : Int).toNat ((ji11) % 256)) (y136.length : Int) (wrap64 (x11_1 + 1))) else (none)) else (none)) = some r := by first | (rw [hji11] at H; exact H) | (simp only [hji11] at H ⊢; exact H)
       have hji11_ : (a0 / 2 ^ min (ji9).toNat 64) = ji11 := hji11
       have hji11z : (ji9) ≤ 64 → (a0 / 2 ^ (ji9).toNat) = ji11 := shr_small hji11
       by_cases c12 : 0 ≤ x11_1
       ·
        rw [if_pos c12] at H
        have c12b0 : decide (0 ≤ x11_1) = true := decide_eq_true c12
        clear c12
        (try simp only [hl5_1] at c12b0)
        by_cases c13 : x11_1 < (x5_1.length : Int)
        ·
         rw [if_pos c13] at H
         have c13b0 : decide (x11_1 < (x5_1.length : Int)) = true := decide_eq_true c13
         clear c13
         (try simp only [hl5_1] at c13b0)
         obtain ⟨y139, hy139⟩ : ∃ y_ : List Int, y_ = (x5_1.set (x11_1 : Int).toNat ((ji11) % 256)) := ⟨_, rfl⟩
         replace H : (octet_spread_uint64.l0 k1 a0 y139 (y136.length : Int) (wrap64 (x11_1 + 1))) = some r := by first | (rw [hy139]; with_reducible exact H) | (have H2_ := (Option.bind_some _ _).symm.trans H; rw [hy139]; with_reducible exact H2_) | (have H2_ := (Option.bind_some _ _).symm.trans H; with_reducible exact H2_) | with_reducible exact H | (rw [hy139]; exact H) | exact H
         have Ny139 := Aside0.mk hy139
         clear hy139
         have H' := Aside0.mk H
         clear H
         have p14 : 0 ≤ (x11_1 : Int) := of_decide_eq_true (by first | (with_reducible assumption) | assumption)
         have q14 : (x11_1 : Int) < ((x5_1.length : Int) : Int) := of_decide_eq_true (by first | (with_reducible assumption) | assumption)
         obtain ⟨go14, co14, eo14, gb14, gl14, cl14, HG14⟩ := Kd.R_form HO_5.out (by omega)
         (first | cases eo14 | (injection eo14 with ea_ en_ ec_; (first | subst ea_ | (injection ea_ with ea_; subst ea_)); subst ec_; clear en_))
         have GB14 := Aside0.mk gb14
         have GG14 := Aside0.mk HG14
         clear gb14 gl14 HG14
         obtain ⟨hx14_0, hf14_0⟩ := Kd.R_celln 0 HO_5.out (x11_1 : Int) p14 q14
         replace p14 := eq_true p14
         replace q14 := eq_true q14
         have HP15 := Kd.R_putg HO_5.out (x11_1 : Int) ((ji11) % 256)
         go_wp2_with (first | ((with_reducible refine gate_store (t := 5) (p := 21) rfl ?_); refine store_event (t := 5) (p := 21) (v := ?vo_w16) (w1 := (wr.setCell ⟨go14, (x11_1 : Int).toNat, none⟩ (.int .u8 ((ji11) % 256)))) ?hg ?ho ?hn ?hr ?_; (case ho => rfl); (case hg => rfl); (case hn => rfl); (case hr => first | (go_simp; done) | (go_simp; rfl)); intro w16 hw; have hg : wr.grownBy w16 (some go14) := (by rw [hw]; exact HP15.2); have hp_ : Kd.R (Kd.int .u8) 5 w16 w.heap.size (fun _ => True) (.slice (some ⟨go14, 0, none⟩) x5_1.length co7) y139 := (by rw [hw, Ny139.out]; exact HP15.1); clear HP15; have n0_ := Aside0.mk (hp_); have n1_ := Aside0.mk ((by rw [hw]; exact below_set (HB.out) GB14.out : Below w.heap.size w w16)); clear HO_5; clear HB; have HO_5 := n0_; have HB := n1_; clear n0_ n1_; clear hg hw hp_))
         (try simp only [← hl5_1])
         go_roundg k1
         case measure => have := HK1.out; omega
         case rel => exact ⟨(y139), (wrap64 (x11_1 + 1)), (by first | rfl | (simp; done) | (simp [*]; done)), H', ⟨by have := HK1.out; omega⟩, ⟨by (try simp only [hl5_1]); (with_reducible repeat (first | apply Kd.R_alloc | apply Kd.R_drewN | apply Kd.R_drew)); first | exact HO_5.out | exact Kd.R_mono (HO_5.out) (fun _ h_ => h_.2)⟩, ⟨by repeat (first | (with_reducible first | exact HB.out | apply below_alloc | apply pw_below_drewN | apply below_drew1) | exact HB.out | exact ⟨HB.out.os, HB.out.tape, HB.out.output, HB.out.size, HB.out.block⟩)⟩⟩
        ·
         rw [if_neg c13] at H
         exact absurd H (by simp)
       ·
        rw [if_neg c12] at H
        exact absurd H (by simp)
      ·
       rw [if_neg c10] at H
       exact absurd H (by simp)
     ·
      rw [if_neg c8] at H
      have c8b0 : decide (x11_1 < (y136.length : Int)) = false := decide_eq_false c8
      clear c8
      (try simp only [hl5_1] at c8b0)
      obtain rfl := Option.some.inj H
      go_wp2
      go_ret
      exact ⟨_, by first | rfl | (simp [errW_none, errW_some] <;> rfl) | (simp [*, errW_none, errW_some] <;> rfl), by (with_reducible repeat (first | apply Kd.R_alloc | apply Kd.R_drewN | apply Kd.R_drew)); first | exact HO_5.out | exact Kd.R_mono (HO_5.out) (fun _ h_ => h_.2), by repeat (first | (with_reducible first | exact HB.out | apply below_alloc | apply pw_below_drewN | apply below_drew1) | exact HB.out | exact ⟨HB.out.os, HB.out.tape, HB.out.output, HB.out.size, HB.out.block⟩)⟩
  ·
   rw [if_neg c4] at H
   exact absurd H (by simp)
 ·
  rw [if_neg c3] at H
  exact absurd H (by simp)

/-! ### octet_Row: function 60 -/
def octet_Row.f (k : Nat) (l0 : List Int) : Option (List Int × Int) := if (l0.length : Int) > 65535 then (some (([] : List Int), 3)) else ((octet_spread_uint64.f k (IntKind.u64.wrap ((l0.length : Int))) 2).bind fun t140 => (if t140.length + l0.length < 140737488355328 then (some ((t140 ++ l0), 0)) else (none)))
theorem octet_Row.mono : ∀ a0 k, LeO (octet_Row.f k a0) (octet_Row.f (k + 1) a0) := by
 intro a0 k
 unfold octet_Row.f
 repeat' first
   | (with_reducible exact octet_spread_uint64.mono _ _ _)
   | (with_reducible exact LeO.refl _)
   | (with_reducible exact LeO.none _)
   | (with_reducible refine LeO.ite ?_ ?_)
   | (with_reducible refine LeO.bind ?_ (fun _ => ?_))
   | exact octet_spread_uint64.mono _ _ _
   | exact LeO.none _
   | refine LeO.ite ?_ ?_
   | refine LeO.bind ?_ (fun _ => ?_)
set_option maxHeartbeats 8000000 in
set_option maxRecDepth 100000 in
theorem octet_Row.calls (k : Nat) (A0 : Option Addr) (c0 : Nat) (l0 : List Int) (r1 : List Int) (r2 : Int) (w : World) (hr0 : Kd.C (Kd.int .u8) w A0 l0.length l0) (hc0 : l0.length ≤ c0) (h : octet_Row.f k l0 = some (r1, r2)) :
  Calls Tryd.prog 60 #[.slice A0 l0.length c0] w fun e w' => ∃ v0_ : Value, e = .returned (.tuple #[v0_, .int .i64 r2]) ∧ Kd.R (Kd.int .u8) 5 w' w.heap.size (fun _ => True) v0_ r1 ∧ Below w.heap.size w w' := by
 have HR0 := Aside0.mk hr0
 have HC0 := Aside0.mk hc0
 clear hr0 hc0
 have HB := Aside0.mk (Below.refl w.heap.size w)
 have H : (if (l0.length : Int) > 65535 then (some (([] : List Int), 3)) else ((octet_spread_uint64.f k (IntKind.u64.wrap ((l0.length : Int))) 2).bind fun t140 => (if t140.length + l0.length < 140737488355328 then (some ((t140 ++ l0), 0)) else (none)))) = some (r1, r2) := h
 clear h
 by_cases c2 : (l0.length : Int) > 65535
 ·
  rw [if_pos c2] at H
  have c2b0 : decide (65535 < (l0.length : Int)) = true := decide_eq_true c2
  have c2b1 : decide (65535 < l0.length) = true := decide_eq_true (by omega)
  clear c2
  simp only [Option.some.injEq, Prod.mk.injEq] at H
  obtain ⟨rfl, rfl⟩ := H
  go_enter Tryd.func60, Tryd.ntmps60
  go_wp2
  go_ret2
  exact ⟨_, by first | rfl | (simp [errW_none, errW_some] <;> rfl) | (simp [*, errW_none, errW_some] <;> rfl), by first | exact Kd.R_nil _ _ _ _ _ | exact Kd.N_nil _ _ _ _ _ | exact Kd.V_nil _ _ _ _ _ | exact Kd.Q_nil _ _ _ _ _ | exact Kd.S_nil _ _ _ _ _, by repeat (first | (with_reducible first | exact HB.out | apply below_alloc | apply pw_below_drewN | apply below_drew1) | exact HB.out | exact ⟨HB.out.os, HB.out.tape, HB.out.output, HB.out.size, HB.out.block⟩)⟩
 ·
  rw [if_neg c2] at H
  have c2b0 : decide (65535 < (l0.length : Int)) = false := decide_eq_false c2
  have c2b1 : decide (65535 < l0.length) = false := decide_eq_false (by omega)
  clear c2
  replace H := Option.bind_eq_some_iff.mp H
  obtain ⟨t140, A30, H⟩ := H
  replace H : (if t140.length + l0.length < 140737488355328 then (some ((t140 ++ l0), 0)) else (none)) = some (r1, r2) := H
  have A3 := Aside0.mk A30
  clear A30
  by_cases c4 : t140.length + l0.length < 140737488355328
  ·
   rw [if_pos c4] at H
   have LMc4 := Aside0.mk c4
   clear c4
   obtain ⟨y143, hy143⟩ : ∃ y_ : List Int, y_ = (t140 ++ l0) := ⟨_, rfl⟩
   replace H : (some (y143, 0)) = some (r1, r2) := by first | (rw [hy143]; with_reducible exact H) | (have H2_ := (Option.bind_some _ _).symm.trans H; rw [hy143]; with_reducible exact H2_) | (have H2_ := (Option.bind_some _ _).symm.trans H; with_reducible exact H2_) | with_reducible exact H | (rw [hy143]; exact H) | exact H
   have Ny143 := Aside0.mk hy143
   clear hy143
   simp only [Option.some.injEq, Prod.mk.injEq] at H
   obtain ⟨rfl, rfl⟩ := H
   go_enter Tryd.func60, Tryd.ntmps60
   go_wp2_with (first | ((with_reducible refine gate_callee (f := 64) rfl ?_); refine goesL_ (some 10) rfl rfl Tryd.func64 (by kernel_rfl) rfl #[.int .u64 (IntKind.u64.wrap ((l0.length : Int))), .int .i64 2] rfl (by (try simp only [List.map_toArray, List.map_cons, List.map_nil]); first | done | rfl | (simp only [List.length_drop, List.length_take]; rfl)) ?_; (with_reducible refine (octet_spread_uint64.calls k (IntKind.u64.wrap ((l0.length : Int))) 2 t140 _ A3.out).mono ?_); rintro e w5 ⟨v141, rfl, ho0, hb⟩; refine ⟨_, rfl, ?_⟩; have n0_ := Aside0.mk (Kd.R_lower ho0 (below_size (by repeat (first | (with_reducible first | exact HB.out | apply below_alloc | apply pw_below_drewN | apply below_drew1) | exact HB.out | exact ⟨HB.out.os, HB.out.tape, HB.out.output, HB.out.size, HB.out.block⟩)))); have n1_ := Aside0.mk (below_step (by repeat (first | (with_reducible first | exact HB.out | apply below_alloc | apply pw_below_drewN | apply below_drew1) | exact HB.out | exact ⟨HB.out.os, HB.out.tape, HB.out.output, HB.out.size, HB.out.block⟩)) hb); clear HB; have HO142 := n0_; have HB := n1_; clear n0_ n1_; (try clear hb); (try clear hb2); (try clear hk); (try clear hi); (try clear ho0)) | ((with_reducible refine gate_builtin (b := .append) (xs := #[.tmp 10, .tmp 11]) rfl ?_); at_builtin; refine Kd.R_append_rows (Kd.int .u8) (w0 := w) w.heap.size rfl (.tmp 10) (.tmp 11) 22 5 (.int .u8 0) 1 rfl Tryd.underlying22 info5 rfl (by decide) (by omega) v141 t140 l0 _ _ _ (fun _ => True) (fun _ => False) rfl rfl ?aO ?aR (fun _ _ h => h) (fun _ h => h.elim) ?aF ?aB ?aS ?aL ?_; (case aR => repeat (first | exact (Kd.C_below HR0.out HB.out) | (with_reducible refine Kd.C_alloc ?_ _) | (with_reducible refine Kd.C_drewN ?_ _) | (with_reducible refine Kd.C_drew ?_))); (case aB => exact (by repeat (first | (with_reducible first | exact HB.out | apply below_alloc | apply pw_below_drewN | apply below_drew1) | exact HB.out | exact ⟨HB.out.os, HB.out.tape, HB.out.output, HB.out.size, HB.out.block⟩))); (case aF => exact (fun _ _ => trivial)); (case aO => exact (by (with_reducible repeat (first | apply Kd.R_alloc | apply Kd.R_drewN | apply Kd.R_drew)); first | exact HO142.out | exact Kd.R_mono (HO142.out) (fun _ h_ => h_.2))); (case aS => exact (below_size (by repeat (first | (with_reducible first | exact HB.out | apply below_alloc | apply pw_below_drewN | apply below_drew1) | exact HB.out | exact ⟨HB.out.os, HB.out.tape, HB.out.output, HB.out.size, HB.out.block⟩)))); (case aL => have := LMc4.out; omega); intro v144 w6 ho hb hg hat; rw [← Ny143.out] at ho; have n0_ := Aside0.mk (hb); have n1_ := Aside0.mk (ho); clear HB; clear HO142; have HB := n0_; have HO145 := n1_; clear n0_ n1_; clear ho hb hg hat))
   go_ret2
   exact ⟨_, by first | rfl | (simp [errW_none, errW_some] <;> rfl) | (simp [*, errW_none, errW_some] <;> rfl), by (with_reducible repeat (first | apply Kd.R_alloc | apply Kd.R_drewN | apply Kd.R_drew)); first | exact HO145.out | exact Kd.R_mono (HO145.out) (fun _ h_ => h_.2), by repeat (first | (with_reducible first | exact HB.out | apply below_alloc | apply pw_below_drewN | apply below_drew1) | exact HB.out | exact ⟨HB.out.os, HB.out.tape, HB.out.output, HB.out.size, HB.out.block⟩)⟩
  ·
   rw [if_neg c4] at H
   exact absurd H (by simp)

-- NOT PRINTED: function 59 (entry_tells_2)

-- NOT PRINTED: function 42 (entry_tells)

/-! ### entry_Bytes: function 22 -/
/-- What a maker has put so far: a row of the call's own, led to from the maker's cell. -/
def EMk (W : World) (g base : Nat) (out : List Int) : Prop := ∃ v, W.heap[g]? = some (.cells #[v] 79 (0, 0)) ∧ Kd.R (Kd.int .u8) 5 W base (fun k_ => k_ ≠ g) v out
theorem EMk.below {W W' : World} {g base : Nat} {out : List Int} (h : EMk W g base out) (hb : Below W.heap.size W W') : EMk W' g base out := by
  obtain ⟨v, h1, h2⟩ := h
  exact ⟨v, (hb.block g (blk_lt h1)).trans h1, Kd.R_below h2 hb⟩
theorem EMk.lt {W : World} {g base : Nat} {out : List Int} (h : EMk W g base out) : g < W.heap.size := by
  obtain ⟨v, h1, _⟩ := h
  exact blk_lt h1
/-- Whatever is no bytes lies as it lay, but for the maker's cell. -/
def EKp (g : Nat) (W W' : World) : Prop := ∀ k_ o, W.heap[k_]? = some o → k_ ≠ g → (∀ cs f, o ≠ .cells cs 5 f) → W'.heap[k_]? = some o
theorem EKp.trans {g : Nat} {A B C : World} (h : EKp g A B) (h' : EKp g B C) : EKp g A C := fun k_ o a b c => h' k_ o (h k_ o a b c) b c
theorem EKp.below {g : Nat} {A B : World} (h : Below A.heap.size A B) : EKp g A B := fun k_ o a _ _ => (h.block k_ (blk_lt a)).trans a
theorem EKp.set {g : Nat} {A B : World} (h : EKp g A B) (u : Value) : EKp g A (B.setCell ⟨g, 0, none⟩ u) := fun k_ o a b c => (Below.heap_setCell B ⟨g, 0, none⟩ u k_ b).trans (h k_ o a b c)
theorem EKp.grown {g base : Nat} {A B : World} {v : Value} {ok : Nat → Prop} {out : List Int} (hv : Kd.R (Kd.int .u8) 5 A base ok v out) (h : A.grownBy B v.ownBlock) : EKp g A B := fun k_ o a _ c => by
  refine blk_grown a h (fun e => ?_)
  obtain ⟨cells, hc⟩ := Kd.R_typed hv k_ e.symm
  rw [a, Option.some.injEq] at hc
  exact c _ _ hc
def entry_maker_number.f (k : Nat) (out : List Int) (a1 a2 : Int) : Option (List Int) := (octet_Put.f k a1 a2).bind fun b => if out.length + b.1.length < 140737488355328 then some (out ++ b.1) else none
theorem entry_maker_number.mono : ∀ a0 a1 a2 k, LeO (entry_maker_number.f k a0 a1 a2) (entry_maker_number.f (k + 1) a0 a1 a2) := by
  intro a0 a1 a2 k
  unfold entry_maker_number.f
  exact LeO.bind (octet_Put.mono _ _ _) fun b => LeO.refl _
set_option maxHeartbeats 8000000 in
set_option maxRecDepth 100000 in
theorem entry_maker_number.calls (k g base : Nat) (out : List Int) (a1 a2 : Int) (r : List Int) (w : World) (hg : base ≤ g) (hM : EMk w g base out) (h : entry_maker_number.f k out a1 a2 = some r) :
    Calls Tryd.prog 41 #[.pointer (some ⟨g, 0, none⟩), .int .i64 a1, .int .i64 a2] w fun e w' => e = .returned (.tuple #[]) ∧ EMk w' g base r ∧ Below base w w' ∧ EKp g w w' := by
  unfold entry_maker_number.f at h
  obtain ⟨b, hp, h⟩ := Option.bind_eq_some_iff.mp h
  have hl : out.length + b.1.length < 140737488355328 := by
    by_cases c : out.length + b.1.length < 140737488355328
    · exact c
    · rw [if_neg c] at h; cases h
  rw [if_pos hl, Option.some.injEq] at h
  subst h
  obtain ⟨v, hm1, hm2⟩ := hM
  have hlt := blk_lt hm1
  have HM1 := Aside0.mk hm1
  have HM2 := Aside0.mk hm2
  have HL := Aside0.mk hl
  have HP := Aside0.mk hp
  clear hp hm1 hm2 hl
  go_enter Tryd.func41, Tryd.ntmps41
  go_wp2_with (first | (go_at_call 29; (with_reducible refine (octet_Put.calls k a1 a2 b.1 b.2 _ HP.out).mono ?_); rintro e w1 ⟨v0, rfl, ho, hb⟩; obtain ⟨A1, c1, rfl, hle, hC⟩ := Kd.R_reads ho; have HC := Aside0.mk hC; have HB := Aside0.mk hb; have hc1 := blk_cell ((hb.block g hlt).trans HM1.out) 0; clear ho hC hb hle) | ((with_reducible refine gate_builtin (b := .append) (xs := #[.tmp 18, .tmp 19]) rfl ?_); at_builtin; refine Kd.R_append_rows (Kd.int .u8) (w0 := w) base rfl (.tmp 18) (.tmp 19) 22 5 (.int .u8 0) 1 rfl Tryd.underlying22 info5 rfl (by decide) (by omega) v out b.1 _ _ _ (fun k_ => k_ ≠ g) (fun _ => False) rfl rfl (Kd.R_below HM2.out HB.out) HC.out (fun _ _ h => h) (fun _ h => h.elim) (fun k_ hk => by have := HB.out.size; omega) (HB.out.mono (by omega)) (by have := HB.out.size; omega) (by have := HL.out; omega) ?_; intro v2 w2 ho2 hb2 hg2 hat2; obtain ⟨A2, c2, rfl⟩ := Kd.R_slice ho2; rw [List.length_append] at ho2; have hk2 := blk_grown ((HB.out.block g hlt).trans HM1.out) hg2 (fun e => HM2.out.1 g e.symm rfl); have hc2 := blk_cell hk2 0; have hf2 := blk_frozen hk2 0; have HO2 := Aside0.mk ho2; have HB2 := Aside0.mk hb2; have HK2 := Aside0.mk hk2; have HE2 := Aside0.mk ((EKp.below HB.out).trans (EKp.grown (g := g) (Kd.R_below HM2.out HB.out) hg2)); clear ho2 hb2 hg2 hat2 hk2 hc1))
  go_end0
  exact ⟨rfl, ⟨_, blk_put HK2.out 0 _ rfl, Kd.R_far (p := ⟨g, 0, none⟩) HO2.out (fun _ hk => hk) _⟩, HB2.out.setCell (p := ⟨g, 0, none⟩) hg _, HE2.out.set _⟩
def entry_tells_2.f (k : Nat) (out : List Int) (l3 : List Int) : Option (List Int) := (octet_Row.f k l3).bind fun b => if out.length + b.1.length < 140737488355328 then some (out ++ b.1) else none
theorem entry_tells_2.mono : ∀ a0 a1 k, LeO (entry_tells_2.f k a0 a1) (entry_tells_2.f (k + 1) a0 a1) := by
  intro a0 a1 k
  unfold entry_tells_2.f
  exact LeO.bind (octet_Row.mono _ _) fun b => LeO.refl _
set_option maxHeartbeats 8000000 in
set_option maxRecDepth 100000 in
theorem entry_tells_2.calls (k g base : Nat) (out : List Int) (x0 x1 x2 : Value) (A3 : Option Addr) (c3 : Nat) (l3 : List Int) (r : List Int) (w : World) (hg : base ≤ g) (hM : EMk w g base out) (hr : Kd.C (Kd.int .u8) w A3 l3.length l3) (hc : l3.length ≤ c3)
    (h0 : x0.cells = #[x0]) (h1 : x1.cells = #[x1]) (h2 : x2.cells = #[x2]) (h : entry_tells_2.f k out l3 = some r) :
    Calls Tryd.prog 59 #[.pointer (some ⟨g, 0, none⟩), .agg #[x0, x1, x2, .slice A3 l3.length c3]] w fun e w' => e = .returned (.tuple #[]) ∧ EMk w' g base r ∧ Below base w w' ∧ EKp g w w' := by
  unfold entry_tells_2.f at h
  obtain ⟨b, hp, h⟩ := Option.bind_eq_some_iff.mp h
  have hl : out.length + b.1.length < 140737488355328 := by
    by_cases c : out.length + b.1.length < 140737488355328
    · exact c
    · rw [if_neg c] at h; cases h
  rw [if_pos hl, Option.some.injEq] at h
  subst h
  obtain ⟨v, hm1, hm2⟩ := hM
  have hlt := blk_lt hm1
  have HM1 := Aside0.mk hm1
  have HM2 := Aside0.mk hm2
  have HL := Aside0.mk hl
  have HP := Aside0.mk hp
  have HR := Aside0.mk hr
  have HC := Aside0.mk hc
  clear hp hm1 hm2 hl hr hc
  go_enter Tryd.func59, Tryd.ntmps59
  go_wp2_with (first | (go_at_call 60; (with_reducible refine (octet_Row.calls k A3 c3 l3 b.1 b.2 _ (Kd.C_alloc HR.out _) HC.out HP.out).mono ?_); rintro e w1 ⟨v0, rfl, ho, hb⟩; obtain ⟨A1, c1, rfl, hle, hC⟩ := Kd.R_reads ho; have HC2 := Aside0.mk hC; have HB := Aside0.mk ((below_alloc (Below.refl w.heap.size w) _).trans (hb.mono (by simp))); have hc1 := blk_cell ((HB.out.block g hlt).trans HM1.out) 0; clear ho hC hb hle) | ((with_reducible refine gate_builtin (b := .append) (xs := #[.tmp 16, .tmp 17]) rfl ?_); at_builtin; refine Kd.R_append_rows (Kd.int .u8) (w0 := w) base rfl (.tmp 16) (.tmp 17) 22 5 (.int .u8 0) 1 rfl Tryd.underlying22 info5 rfl (by decide) (by omega) v out b.1 _ _ _ (fun k_ => k_ ≠ g) (fun _ => False) rfl rfl (Kd.R_below HM2.out HB.out) HC2.out (fun _ _ h => h) (fun _ h => h.elim) (fun k_ hk => by have := HB.out.size; omega) (HB.out.mono (by omega)) (by have := HB.out.size; omega) (by have := HL.out; omega) ?_; intro v2 w2 ho2 hb2 hg2 hat2; obtain ⟨A2, c2, rfl⟩ := Kd.R_slice ho2; rw [List.length_append] at ho2; have hk2 := blk_grown ((HB.out.block g hlt).trans HM1.out) hg2 (fun e => HM2.out.1 g e.symm rfl); have hc2 := blk_cell hk2 0; have hf2 := blk_frozen hk2 0; have HO2 := Aside0.mk ho2; have HB2 := Aside0.mk hb2; have HK2 := Aside0.mk hk2; have HE2 := Aside0.mk ((EKp.below HB.out).trans (EKp.grown (g := g) (Kd.R_below HM2.out HB.out) hg2)); clear ho2 hb2 hg2 hat2 hk2 hc1))
  go_end0
  exact ⟨rfl, ⟨_, blk_put HK2.out 0 _ rfl, Kd.R_far (p := ⟨g, 0, none⟩) HO2.out (fun _ hk => hk) _⟩, HB2.out.setCell (p := ⟨g, 0, none⟩) hg _, HE2.out.set _⟩
def entry_tells_1.l0 (k : Nat) : List Int → List S37 → Option (List Int)
  | out, [] => some out
  | out, v :: l => (value_Bytes.f k v.f0 v.f1 v.f2).bind fun b => if out.length + b.1.length < 140737488355328 then entry_tells_1.l0 k (out ++ b.1) l else none
def entry_tells_1.f (k : Nat) (out : List Int) (a1 : Int) (l2 : List S37) : Option (List Int) := (entry_maker_number.f k out 1 a1).bind fun b => (entry_maker_number.f k b 1 (l2.length : Int)).bind fun c => entry_tells_1.l0 k c l2
theorem entry_tells_1.mono_l0 : ∀ (l : List S37) (k : Nat) (out : List Int), LeO (entry_tells_1.l0 k out l) (entry_tells_1.l0 (k + 1) out l) := by
  intro l
  induction l with
  | nil => intro k out; exact LeO.refl _
  | cons v l ih =>
    intro k out
    simp only [entry_tells_1.l0]
    exact LeO.bind (value_Bytes.mono _ _ _ _) fun b => LeO.ite (ih _ _) (LeO.refl _)
theorem entry_tells_1.mono : ∀ a0 a1 a2 k, LeO (entry_tells_1.f k a0 a1 a2) (entry_tells_1.f (k + 1) a0 a1 a2) := by
  intro a0 a1 a2 k
  unfold entry_tells_1.f
  exact LeO.bind (entry_maker_number.mono _ _ _ _) fun b => LeO.bind (entry_maker_number.mono _ _ _ _) fun c => entry_tells_1.mono_l0 _ _ _
set_option maxHeartbeats 8000000 in
set_option maxRecDepth 100000 in
theorem entry_tells_1.calls (k g base : Nat) (out : List Int) (a0 a1 : Int) (A2 : Option Addr) (c2 : Nat) (l2 : List S37) (x3 : Value) (r : List Int) (w : World) (hg : base ≤ g) (hM : EMk w g base out) (hr : Kd.C k37 w A2 l2.length l2) (hrb : ∀ W, Below base w W → Kd.C k37 W A2 l2.length l2) (hc : l2.length ≤ c2)
    (h3 : x3.cells = #[x3]) (hl4 : l2.length ≤ 4) (h : entry_tells_1.f k out a1 l2 = some r) :
    Calls Tryd.prog 58 #[.pointer (some ⟨g, 0, none⟩), .agg #[.int .u8 a0, .int .i64 a1, .slice A2 l2.length c2, x3]] w fun e w' => e = .returned (.tuple #[]) ∧ EMk w' g base r ∧ Below base w w' ∧ EKp g w w' := by
  unfold entry_tells_1.f at h
  obtain ⟨b, hp, h⟩ := Option.bind_eq_some_iff.mp h
  obtain ⟨c, hq, h⟩ := Option.bind_eq_some_iff.mp h
  have hlt := hM.lt
  have HM := Aside0.mk hM
  have HP := Aside0.mk hp
  have HQ := Aside0.mk hq
  have HH := Aside0.mk h
  have HR := Aside0.mk hrb
  have HC := Aside0.mk hc
  clear hp hM hq h hr hc hrb
  go_enter Tryd.func58, Tryd.ntmps58
  have hbox : ∀ W, EKp g (w.alloc (.cells #[.int .u8 a0, .int .i64 a1, .slice A2 l2.length c2, x3] 43)) W → W.heap[w.heap.size]? = some (.cells #[.int .u8 a0, .int .i64 a1, .slice A2 l2.length c2, x3] 43 (0, 0)) := fun W hW => hW _ _ (blk_new _ _) (by omega) (fun cs f e => by injection e with _ e _; cases e)
  have HX := Aside0.mk hbox
  clear hbox
  go_wp2_with (first | ((fail_if_success (have h_ := w1)); go_at_call 41; (with_reducible refine (entry_maker_number.calls k g base out 1 a1 b _ hg (HM.out.below (below_alloc (Below.refl _ _) _)) HP.out).mono ?_); rintro e w1 ⟨rfl, hm1, hb1, he1⟩; have hz1 := blk_cell (HX.out _ he1) 2; have HM1 := Aside0.mk hm1; have HB1 := Aside0.mk hb1; have HE1 := Aside0.mk he1; clear hm1 hb1 he1) | (go_at_call 41; (with_reducible refine (entry_maker_number.calls k g base b 1 (l2.length : Int) c _ hg HM1.out HQ.out).mono ?_); rintro e w2 ⟨rfl, hm2, hb2, he2⟩; have hz2 := blk_cell (HX.out _ (HE1.out.trans he2)) 2; have HM2 := Aside0.mk hm2; have HB2 := Aside0.mk (HB1.out.trans hb2); have HE2 := Aside0.mk (HE1.out.trans he2); clear hm2 hb2 he2 hz1))
  go_loopw [20] (fun u wr => ∃ (i : Nat) (o : List Int), u = .int .i64 (i : Int) ∧ i ≤ l2.length ∧ Aside0 (entry_tells_1.l0 k o (l2.drop i) = some r) ∧ Aside0 (EMk wr g base o) ∧ Aside0 (Below base w wr) ∧ Aside0 (EKp g w wr))
    (fun u _ => l2.length - (intOf u).toNat)
  case atStart => exact ⟨0, c, rfl, Nat.zero_le _, HH, HM2, ⟨((Below.refl base w).alloc (by omega) _).trans HB2.out⟩, ⟨(EKp.below (below_alloc (Below.refl _ _) _)).trans HE2.out⟩⟩
  case round =>
    obtain ⟨i, o, rfl, hi, HH, HM3, HB3, HE3⟩ := hrel
    by_cases hlt2 : i < l2.length
    · have hd : l2.drop i = rd_T37 l2 (i : Int) :: l2.drop (i + 1) := by
        rw [List.drop_eq_getElem_cons hlt2]
        congr 1
        simp [rd_T37, hlt2]
      have hh := HH.out
      rw [hd, entry_tells_1.l0] at hh
      obtain ⟨b2, hb2, hh⟩ := Option.bind_eq_some_iff.mp hh
      have hl : o.length + b2.1.length < 140737488355328 := by
        by_cases c : o.length + b2.1.length < 140737488355328
        · exact c
        · rw [if_neg c] at hh; cases hh
      rw [if_pos hl] at hh
      obtain ⟨ad, rfl, p0, p1, p2⟩ := at_T37 (HR.out _ HB3.out) (i : Int) (by omega) (by omega)
      simp only [Int.toNat_natCast] at p0 p1 p2
      obtain ⟨v, hm1, hm2⟩ := HM3.out
      have hltr := blk_lt hm1
      have HK1 := Aside0.mk hm1
      have HK2 := Aside0.mk hm2
      have HL := Aside0.mk hl
      have HV := Aside0.mk hb2
      have HN := Aside0.mk hh
      have HC2 := Aside0.mk hz2
      clear HH hh hm1 hm2 hl hb2 hd HM1 HB1 HE1 HM2 HB2 HE2 HM3 HP HQ hz2
      go_wp2_with (first | (go_at_call 30; (with_reducible refine (value_Bytes.calls k _ _ _ b2.1 b2.2 _ HV.out).mono ?_); rintro e w3 ⟨v0, rfl, ho, hb⟩; obtain ⟨A1, c1, rfl, hle, hC⟩ := Kd.R_reads ho; have HC3 := Aside0.mk hC; have HB := Aside0.mk ((below_alloc (Below.refl wr.heap.size wr) _).trans (hb.mono (by simp))); have hc1 := blk_cell ((HB.out.block g hltr).trans HK1.out) 0; clear ho hC hb hle) | ((with_reducible refine gate_builtin (b := .append) (xs := #[.tmp 33, .tmp 34]) rfl ?_); at_builtin; refine Kd.R_append_rows (Kd.int .u8) (w0 := wr) base rfl (.tmp 33) (.tmp 34) 22 5 (.int .u8 0) 1 rfl Tryd.underlying22 info5 rfl (by decide) (by omega) v o b2.1 _ _ _ (fun k_ => k_ ≠ g) (fun _ => False) rfl rfl (Kd.R_below HK2.out HB.out) HC3.out (fun _ _ h => h) (fun _ h => h.elim) (fun k_ hk => by have := HB.out.size; omega) (HB.out.mono (by omega)) (by have := HB.out.size; omega) (by have := HL.out; omega) ?_; intro v2 w4 ho2 hb2 hg2 hat2; obtain ⟨A4, c4, rfl⟩ := Kd.R_slice ho2; rw [List.length_append] at ho2; have hk2 := blk_grown ((HB.out.block g hltr).trans HK1.out) hg2 (fun e => HK2.out.1 g e.symm rfl); have hc2 := blk_cell hk2 0; have hf2 := blk_frozen hk2 0; have HO2 := Aside0.mk ho2; have HB2 := Aside0.mk hb2; have HQ2 := Aside0.mk hk2; have HE2 := Aside0.mk ((EKp.below HB.out).trans (EKp.grown (g := g) (Kd.R_below HK2.out HB.out) hg2)); clear ho2 hb2 hg2 hat2 hk2 hc1))
      have hw : wrap64 ((i : Int) + 1) = ((i + 1 : Nat) : Int) := by unfold wrap64; omega
      go_roundw
      case rel => exact ⟨i + 1, o ++ b2.1, by first | rfl | (rw [← hw]; done) | simp [hw], by omega, HN, ⟨⟨_, blk_put HQ2.out 0 _ rfl, Kd.R_far (p := ⟨g, 0, none⟩) HO2.out (fun _ hk => hk) _⟩⟩, ⟨HB3.out.trans (HB2.out.setCell (p := ⟨g, 0, none⟩) hg _)⟩, ⟨HE3.out.trans (HE2.out.set _)⟩⟩
      case measure => simp [intOf, hw]; omega
    · obtain rfl : i = l2.length := by omega
      have hh := HH.out
      rw [List.drop_eq_nil_of_le (Nat.le_refl _), entry_tells_1.l0, Option.some.injEq] at hh
      subst hh
      go_wp2
      go_end0
      exact ⟨rfl, HM3.out, HB3.out, HE3.out⟩
theorem entry_tells.ins {w : World} {r : Nat} {es : Array MapEntry} {clock : Nat} (x : Int) (v : Value) (hb : w.heap[r]? = some (.map es clock)) (hf : Instr.findNow (.int .u8) (.int .u8 x) es.toList 0 = some none) : (Instr.mapUpdate 82 (.map (some r)) (.int .u8 x) v).run Tryd.prog w = .ok () (w.putObj r (.map (es.push { key := .int .u8 x, val := v, born := clock }) (clock + 1))) := by
  simp [Instr.mapUpdate, run_underlying Tryd.underlying82, MapKept.run_getObj_map hb, MapKept.run_checkKey Tryd.underlying5 (show MapKept.IsKey (.int .u8) (.int .u8 x) from rfl), Instr.findKey, run_underlying Tryd.underlying5, hf, MapKept.run_setObj_map _ hb, go_sem]
  rfl
/-- What stands behind the two kinds. -/
def entry_tells.tab : Obj := .map #[{ key := .int .u8 1, val := .func (.func 58) #[] #[], born := 0 }, { key := .int .u8 2, val := .func (.func 59) #[] #[], born := 1 }] 2
theorem entry_tells.look1 {w : World} {r : Nat} (hb : w.heap[r]? = some entry_tells.tab) : (Instr.lookup 82 (.map (some r)) (.int .u8 1) false).run Tryd.prog w = .ok (.func (.func 58) #[] #[]) w := by
  simp [Instr.lookup, run_underlying Tryd.underlying82, MapKept.run_getObj_map hb, MapKept.run_checkKey Tryd.underlying5 (show MapKept.IsKey (.int .u8) (.int .u8 1) from rfl), Instr.findKey, run_underlying Tryd.underlying5, Instr.findNow, Instr.sameNow, go_sem]
theorem entry_tells.look2 {w : World} {r : Nat} (hb : w.heap[r]? = some entry_tells.tab) : (Instr.lookup 82 (.map (some r)) (.int .u8 2) false).run Tryd.prog w = .ok (.func (.func 59) #[] #[]) w := by
  simp [Instr.lookup, run_underlying Tryd.underlying82, MapKept.run_getObj_map hb, MapKept.run_checkKey Tryd.underlying5 (show MapKept.IsKey (.int .u8) (.int .u8 2) from rfl), Instr.findKey, run_underlying Tryd.underlying5, Instr.findNow, Instr.sameNow, go_sem]
theorem entry_tells.calls (w : World) : Calls Tryd.prog 42 #[] w fun e w' => e = .returned (.map (some w.heap.size)) ∧ w'.heap[w.heap.size]? = some entry_tells.tab ∧ Below w.heap.size w w' := by
  have h0 := blk_new w (.map #[] 0)
  obtain ⟨W1, hW1⟩ : ∃ W1, W1 = (w.alloc (.map #[] 0)).putObj w.heap.size (.map #[{ key := .int .u8 1, val := .func (.func 58) #[] #[], born := 0 }] 1) := ⟨_, rfl⟩
  obtain ⟨W2, hW2⟩ : ∃ W2, W2 = W1.putObj w.heap.size entry_tells.tab := ⟨_, rfl⟩
  have h1 : (Instr.mapUpdate 82 (.map (some w.heap.size)) (.int .u8 1) (.func (.func 58) #[] #[])).run Tryd.prog (w.alloc (.map #[] 0)) = .ok () W1 := by rw [hW1]; exact entry_tells.ins 1 (.func (.func 58) #[] #[]) h0 rfl
  have h3 : W1.heap[w.heap.size]? = some (.map #[{ key := .int .u8 1, val := .func (.func 58) #[] #[], born := 0 }] 1) := by rw [hW1]; exact World.putObj_heap_same (by simp)
  have h2 : (Instr.mapUpdate 82 (.map (some w.heap.size)) (.int .u8 2) (.func (.func 59) #[] #[])).run Tryd.prog W1 = .ok () W2 := by rw [hW2]; exact entry_tells.ins 2 (.func (.func 59) #[] #[]) h3 rfl
  have h4 : W2.heap[w.heap.size]? = some entry_tells.tab := by rw [hW2]; exact World.putObj_heap_same (blk_lt h3)
  have hB : Below w.heap.size w W2 := by
    rw [hW2, hW1]
    exact ((below_alloc (Below.refl _ _) _).grown (grownBy_putObj' _ w.heap.size _) (by simp) (fun k e => by cases e; exact Nat.le_refl _)).grown (grownBy_putObj' _ w.heap.size _) (by simp [World.putObj]) (fun k e => by cases e; exact Nat.le_refl _)
  have H4 := Aside0.mk h4
  have HB := Aside0.mk hB
  clear h4 hB h3 h0 hW1 hW2
  have hmm := @run_makeMap Tryd.prog
  go_enter Tryd.func42, Tryd.ntmps42
  go_wp2
  go_ret
  exact ⟨rfl, H4.out, HB.out⟩
def entry_Bytes.f (k : Nat) (a0 a1 a2 a3 : Int) (l4 : List S37) (l5 : List Int) : Option (List Int × Int) :=
  (entry_Entry.f k a0 a1 a2 a3 l4 l5).bind fun t => if t = true then
    (entry_maker_number.f k [] 1 a0).bind fun b0 => (entry_maker_number.f k b0 6 a1).bind fun b1 => (entry_maker_number.f k b1 1 a2).bind fun b2 =>
      if a2 = 1 then (entry_tells_1.f k b2 a3 l4).bind fun b3 => some (b3, 0) else if a2 = 2 then (entry_tells_2.f k b2 l5).bind fun b3 => some (b3, 0) else none
  else some ([], 200)
theorem entry_Bytes.mono : ∀ a0 a1 a2 a3 a4 a5 k, LeO (entry_Bytes.f k a0 a1 a2 a3 a4 a5) (entry_Bytes.f (k + 1) a0 a1 a2 a3 a4 a5) := by
  intro a0 a1 a2 a3 a4 a5 k
  unfold entry_Bytes.f
  exact LeO.bind (entry_Entry.mono _ _ _ _ _ _ _) fun t => LeO.ite (LeO.bind (entry_maker_number.mono _ _ _ _) fun _ => LeO.bind (entry_maker_number.mono _ _ _ _) fun _ => LeO.bind (entry_maker_number.mono _ _ _ _) fun _ => LeO.ite (LeO.bind (entry_tells_1.mono _ _ _ _) fun _ => LeO.refl _) (LeO.ite (LeO.bind (entry_tells_2.mono _ _ _) fun _ => LeO.refl _) (LeO.refl _))) (LeO.refl _)
theorem entry_Bytes.few {k : Nat} {a0 a1 a2 a3 : Int} {l4 : List S37} {l5 : List Int} (h : entry_Entry.f k a0 a1 a2 a3 l4 l5 = some true) : a2 = 1 → l4.length ≤ 4 := by
  intro h1
  subst h1
  unfold entry_Entry.f entry_May.f at h
  by_cases c : (l4.length : Int) ≤ 4
  · omega
  · simp [c] at h
theorem entry_Bytes.fin {W : World} {g base b0 : Nat} {out : List Int} (h : EMk W g base out) (hb : b0 ≤ base) : ∃ A c, W.heap[g]? = some (.cells #[.slice A out.length c] 79 (0, 0)) ∧ out.length ≤ c ∧ Kd.V (Kd.int .u8) 5 W b0 (fun k_ => (b0 ≤ k_)) (.slice A out.length out.length) out := by
  obtain ⟨v, h1, h2⟩ := h
  obtain ⟨A, c, rfl, h3, _⟩ := Kd.R_reads h2
  exact ⟨A, c, h1, h3, Kd.V_mk (Nat.le_refl _) (Kd.R_F (Kd.R_mono (Kd.R_bound h2) (fun k hk => Nat.le_trans hb hk.2.1)))⟩
set_option maxHeartbeats 8000000 in
set_option maxRecDepth 100000 in
theorem entry_Bytes.calls (k : Nat) (a0_0 : Int) (a0_1 : Int) (a0_2 : Int) (a0_3 : Int) (A0_4 : Option Addr) (c0_4 : Nat) (l0_4 : List (S37)) (A0_5 : Option Addr) (c0_5 : Nat) (l0_5 : List Int) (r1 : List Int) (r2 : Int) (w : World) (hr0_4 : Kd.C k37 w A0_4 l0_4.length l0_4) (hc0_4 : l0_4.length ≤ c0_4) (hr0_5 : Kd.C (Kd.int .u8) w A0_5 l0_5.length l0_5) (hc0_5 : l0_5.length ≤ c0_5) (h : entry_Bytes.f k a0_0 a0_1 a0_2 a0_3 l0_4 l0_5 = some (r1, r2)) :
    Calls Tryd.prog 22 #[.agg #[.int .i64 a0_0, .int .i64 a0_1, .int .u8 a0_2, .int .i64 a0_3, .slice A0_4 l0_4.length c0_4, .slice A0_5 l0_5.length c0_5]] w fun e w' => ∃ v0_ : Value, e = .returned (.tuple #[v0_, .int .i64 r2]) ∧ Kd.V (Kd.int .u8) 5 w' w.heap.size (fun k_ => (w.heap.size ≤ k_)) v0_ r1 ∧ Below w.heap.size w w' := by
  unfold entry_Bytes.f at h
  obtain ⟨t, ht, h⟩ := Option.bind_eq_some_iff.mp h
  have HT := Aside0.mk ht
  have H4 := Aside0.mk hr0_4
  have H5 := Aside0.mk hr0_5
  have C4 := Aside0.mk hc0_4
  have C5 := Aside0.mk hc0_5
  clear hr0_4 hr0_5 hc0_4 hc0_5 ht
  cases t with
  | false =>
    rw [if_neg (by decide)] at h
    simp only [Option.some.injEq, Prod.mk.injEq] at h
    obtain ⟨rfl, rfl⟩ := h
    go_enter Tryd.func22, Tryd.ntmps22
    go_wp2_with (first | (go_at_call 23; (with_reducible refine (entry_Entry.calls k a0_0 a0_1 a0_2 a0_3 A0_4 c0_4 l0_4 A0_5 c0_5 l0_5 false _ (Kd.C_alloc H4.out _) C4.out (Kd.C_alloc H5.out _) C5.out HT.out).mono ?_); rintro e w1 ⟨rfl, hb⟩; have HB := Aside0.mk ((below_alloc (Below.refl w.heap.size w) _).trans (hb.mono (by simp))); clear hb))
    go_ret2
    exact ⟨_, rfl, Kd.V_nil _ _ _ _ _, HB.out⟩
  | true =>
    rw [if_pos rfl] at h
    obtain ⟨b0, hb0, h⟩ := Option.bind_eq_some_iff.mp h
    obtain ⟨b1, hb1, h⟩ := Option.bind_eq_some_iff.mp h
    obtain ⟨b2, hb2, h⟩ := Option.bind_eq_some_iff.mp h
    have P0 := Aside0.mk hb0
    have P1 := Aside0.mk hb1
    have P2 := Aside0.mk hb2
    have HH := Aside0.mk h
    clear hb0 hb1 hb2 h
    by_cases k1 : a0_2 = 1
    · subst k1
      have hh := HH.out
      rw [if_pos rfl] at hh
      obtain ⟨b3, hb3, hh⟩ := Option.bind_eq_some_iff.mp hh
      simp only [Option.some.injEq, Prod.mk.injEq] at hh
      obtain ⟨rfl, rfl⟩ := hh
      have P3 := Aside0.mk hb3
      have h44 := Aside0.mk (entry_Bytes.few HT.out rfl)
      clear hb3 HH
      go_enter Tryd.func22, Tryd.ntmps22
      have hne : ∀ cs f, Obj.cells #[Value.int .i64 a0_0, .int .i64 a0_1, .int .u8 1, .int .i64 a0_3, .slice A0_4 l0_4.length c0_4, .slice A0_5 l0_5.length c0_5] 45 (0, 0) ≠ Obj.cells cs 5 f := fun cs f e => by injection e with _ e _; cases e
      have HNE := Aside0.mk hne
      clear hne
      go_wp2_with (first | (go_at_call 23; (with_reducible refine (entry_Entry.calls k a0_0 a0_1 1 a0_3 A0_4 c0_4 l0_4 A0_5 c0_5 l0_5 true _ (Kd.C_alloc H4.out _) C4.out (Kd.C_alloc H5.out _) C5.out HT.out).mono ?_); rintro e w1 ⟨rfl, hb⟩; have HX := Aside0.mk (blk_alloc ((hb.block w.heap.size (by simp)).trans (blk_new w _)) (.cells #[.slice none 0 0] 79)); have hx0 := blk_cell HX.out 0; have HB := Aside0.mk ((below_alloc (Below.refl w.heap.size w) _).trans (hb.mono (by simp))); have HLT := Aside0.mk (show w.heap.size < w1.heap.size from Nat.lt_of_lt_of_le (by simp) hb.size); have HM := Aside0.mk (show EMk (w1.alloc (.cells #[.slice none 0 0] 79)) w1.heap.size w1.heap.size [] from ⟨_, blk_new w1 _, Kd.R_nil _ _ _ _ _⟩); clear hb) | ((fail_if_success (have h_ := w2)); go_at_call 41; (with_reducible refine (entry_maker_number.calls k w1.heap.size w1.heap.size [] 1 a0_0 b0 _ (Nat.le_refl _) HM.out P0.out).mono ?_); rintro e w2 ⟨rfl, hm, hb, he⟩; have HX2 := Aside0.mk (he _ _ HX.out (Nat.ne_of_lt HLT.out) HNE.out); have hx1 := blk_cell HX2.out 1; have HM2 := Aside0.mk hm; have HB2 := Aside0.mk hb; clear hm hb he hx0) | ((fail_if_success (have h_ := w3)); go_at_call 41; (with_reducible refine (entry_maker_number.calls k w1.heap.size w1.heap.size b0 6 a0_1 b1 _ (Nat.le_refl _) HM2.out P1.out).mono ?_); rintro e w3 ⟨rfl, hm, hb, he⟩; have HX3 := Aside0.mk (he _ _ HX2.out (Nat.ne_of_lt HLT.out) HNE.out); have hx2 := blk_cell HX3.out 2; have HM3 := Aside0.mk hm; have HB3 := Aside0.mk (HB2.out.trans hb); clear hm hb he hx1) | (go_at_call 41; (with_reducible refine (entry_maker_number.calls k w1.heap.size w1.heap.size b1 1 1 b2 _ (Nat.le_refl _) HM3.out P2.out).mono ?_); rintro e w4 ⟨rfl, hm, hb, he⟩; have HX4 := Aside0.mk (he _ _ HX3.out (Nat.ne_of_lt HLT.out) HNE.out); have HM4 := Aside0.mk hm; have HW4 := Aside0.mk (HB.out.trans ((((Below.refl w1.heap.size w1).alloc (Nat.le_refl _) _).trans (HB3.out.trans hb)).mono (Nat.le_of_lt HLT.out))); have hy2 := blk_cell HX4.out 2; have hy3 := blk_cell HX4.out 3; have hy4 := blk_cell HX4.out 4; have hy5 := blk_cell HX4.out 5; clear hm hb he hx2))
      go_region_with (first | (go_at_call 42; refine (entry_tells.calls _).mono ?_; rintro e w5 ⟨rfl, ht, hb⟩; have hl := entry_tells.look1 (r := w4.heap.size) ht; have HX5 := (hb.block w.heap.size (Nat.lt_trans HLT.out HM4.out.lt)).trans HX4.out; have hz2 := blk_cell HX5 2; have hz3 := blk_cell HX5 3; have hz4 := blk_cell HX5 4; have hz5 := blk_cell HX5 5; have HM5 := Aside0.mk (HM4.out.below (W' := w5) (Below.drew (Below.refl _ _) |>.trans hb)); have HW5 := Aside0.mk ((HW4.out.drew).trans (hb.mono HW4.out.size)); clear ht hb HX5) | (go_at_call 58; refine (entry_tells_1.calls k w1.heap.size w1.heap.size b2 1 a0_3 A0_4 c0_4 l0_4 (.slice A0_5 l0_5.length c0_5) b3 _ (Nat.le_refl _) HM5.out (Kd.C_below H4.out HW5.out) (fun W hW => Kd.C_below H4.out (HW5.out.trans (hW.mono (Nat.le_of_lt HLT.out)))) C4.out rfl h44.out P3.out).mono ?_; rintro e w6 ⟨rfl, hm6, hb6, he6⟩; have HM6 := Aside0.mk hm6; have HW6 := Aside0.mk (HW5.out.trans (hb6.mono (Nat.le_of_lt HLT.out))); clear hm6 hb6 he6))
      all_goals
        obtain ⟨A6, c6, hk6, hle6, hV6⟩ := entry_Bytes.fin HM6.out (Nat.le_of_lt HLT.out)
        have hc6 := blk_cell hk6 0
        have HV6 := Aside0.mk hV6
        clear hk6 hV6
        go_wp2
        repeat (go_quiet (fail); try go_wp2)
        go_ret2
        exact ⟨_, rfl, Kd.V_drewN HV6.out _, pw_below_drewN HW6.out _⟩
    · by_cases k2 : a0_2 = 2
      · subst k2
        have hh := HH.out
        rw [if_neg k1, if_pos rfl] at hh
        obtain ⟨b3, hb3, hh⟩ := Option.bind_eq_some_iff.mp hh
        simp only [Option.some.injEq, Prod.mk.injEq] at hh
        obtain ⟨rfl, rfl⟩ := hh
        have P3 := Aside0.mk hb3
        clear hb3 HH
        go_enter Tryd.func22, Tryd.ntmps22
        have hne : ∀ cs f, Obj.cells #[Value.int .i64 a0_0, .int .i64 a0_1, .int .u8 2, .int .i64 a0_3, .slice A0_4 l0_4.length c0_4, .slice A0_5 l0_5.length c0_5] 45 (0, 0) ≠ Obj.cells cs 5 f := fun cs f e => by injection e with _ e _; cases e
        have HNE := Aside0.mk hne
        clear hne
        go_wp2_with (first | (go_at_call 23; (with_reducible refine (entry_Entry.calls k a0_0 a0_1 2 a0_3 A0_4 c0_4 l0_4 A0_5 c0_5 l0_5 true _ (Kd.C_alloc H4.out _) C4.out (Kd.C_alloc H5.out _) C5.out HT.out).mono ?_); rintro e w1 ⟨rfl, hb⟩; have HX := Aside0.mk (blk_alloc ((hb.block w.heap.size (by simp)).trans (blk_new w _)) (.cells #[.slice none 0 0] 79)); have hx0 := blk_cell HX.out 0; have HB := Aside0.mk ((below_alloc (Below.refl w.heap.size w) _).trans (hb.mono (by simp))); have HLT := Aside0.mk (show w.heap.size < w1.heap.size from Nat.lt_of_lt_of_le (by simp) hb.size); have HM := Aside0.mk (show EMk (w1.alloc (.cells #[.slice none 0 0] 79)) w1.heap.size w1.heap.size [] from ⟨_, blk_new w1 _, Kd.R_nil _ _ _ _ _⟩); clear hb) | ((fail_if_success (have h_ := w2)); go_at_call 41; (with_reducible refine (entry_maker_number.calls k w1.heap.size w1.heap.size [] 1 a0_0 b0 _ (Nat.le_refl _) HM.out P0.out).mono ?_); rintro e w2 ⟨rfl, hm, hb, he⟩; have HX2 := Aside0.mk (he _ _ HX.out (Nat.ne_of_lt HLT.out) HNE.out); have hx1 := blk_cell HX2.out 1; have HM2 := Aside0.mk hm; have HB2 := Aside0.mk hb; clear hm hb he hx0) | ((fail_if_success (have h_ := w3)); go_at_call 41; (with_reducible refine (entry_maker_number.calls k w1.heap.size w1.heap.size b0 6 a0_1 b1 _ (Nat.le_refl _) HM2.out P1.out).mono ?_); rintro e w3 ⟨rfl, hm, hb, he⟩; have HX3 := Aside0.mk (he _ _ HX2.out (Nat.ne_of_lt HLT.out) HNE.out); have hx2 := blk_cell HX3.out 2; have HM3 := Aside0.mk hm; have HB3 := Aside0.mk (HB2.out.trans hb); clear hm hb he hx1) | (go_at_call 41; (with_reducible refine (entry_maker_number.calls k w1.heap.size w1.heap.size b1 1 2 b2 _ (Nat.le_refl _) HM3.out P2.out).mono ?_); rintro e w4 ⟨rfl, hm, hb, he⟩; have HX4 := Aside0.mk (he _ _ HX3.out (Nat.ne_of_lt HLT.out) HNE.out); have HM4 := Aside0.mk hm; have HW4 := Aside0.mk (HB.out.trans ((((Below.refl w1.heap.size w1).alloc (Nat.le_refl _) _).trans (HB3.out.trans hb)).mono (Nat.le_of_lt HLT.out))); have hy2 := blk_cell HX4.out 2; have hy3 := blk_cell HX4.out 3; have hy4 := blk_cell HX4.out 4; have hy5 := blk_cell HX4.out 5; clear hm hb he hx2))
        go_region_with (first | (go_at_call 42; refine (entry_tells.calls _).mono ?_; rintro e w5 ⟨rfl, ht, hb⟩; have hl := entry_tells.look2 (r := w4.heap.size) ht; have HX5 := (hb.block w.heap.size (Nat.lt_trans HLT.out HM4.out.lt)).trans HX4.out; have hz2 := blk_cell HX5 2; have hz3 := blk_cell HX5 3; have hz4 := blk_cell HX5 4; have hz5 := blk_cell HX5 5; have HM5 := Aside0.mk (HM4.out.below (W' := w5) (Below.drew (Below.refl _ _) |>.trans hb)); have HW5 := Aside0.mk ((HW4.out.drew).trans (hb.mono HW4.out.size)); clear ht hb HX5) | (go_at_call 59; refine (entry_tells_2.calls k w1.heap.size w1.heap.size b2 (.int .u8 2) (.int .i64 a0_3) (.slice A0_4 l0_4.length c0_4) A0_5 c0_5 l0_5 b3 _ (Nat.le_refl _) HM5.out (Kd.C_below H5.out HW5.out) C5.out rfl rfl rfl P3.out).mono ?_; rintro e w6 ⟨rfl, hm6, hb6, he6⟩; have HM6 := Aside0.mk hm6; have HW6 := Aside0.mk (HW5.out.trans (hb6.mono (Nat.le_of_lt HLT.out))); clear hm6 hb6 he6))
        all_goals
          obtain ⟨A6, c6, hk6, hle6, hV6⟩ := entry_Bytes.fin HM6.out (Nat.le_of_lt HLT.out)
          have hc6 := blk_cell hk6 0
          have HV6 := Aside0.mk hV6
          clear hk6 hV6
          go_wp2
          repeat (go_quiet (fail); try go_wp2)
          go_ret2
          exact ⟨_, rfl, Kd.V_drewN HV6.out _, pw_below_drewN HW6.out _⟩
      · have hh := HH.out
        rw [if_neg k1, if_neg k2] at hh
        cases hh

/-! ### octet_cut: function 45 -/
def octet_cut.f (l0 : List Int) (a1 : Int) (a2 : Int) : Option (List Int × Int) :=
  if 0 ≤ a2 then if a2 ≤ 9223372036854775807 then if a1 < 0 then some ([], 2) else if a1 > (l0.length : Int) then some ([], 2) else if (l0.length : Int) - a1 < a2 then some ([], 10) else some ((l0.take (a1 + a2).toNat).drop a1.toNat, 0) else none else none
def octet_cut.Post (A0 : Option Addr) (n0 : Nat) (l0 : List Int) (w : World) (r1 : List Int) (r2 : Int) (e : Ending) (w' : World) : Prop :=
  ∃ A c, e = .returned (.tuple #[.slice A r1.length c, .int .i64 r2]) ∧ (∀ W, Kd.C (Kd.int .u8) W A0 n0 l0 → Kd.C (Kd.int .u8) W A r1.length r1) ∧ r1.length ≤ c ∧ w = w'
set_option maxHeartbeats 1000000 in
/-- A piece of what came in, by its own address: the world stays. -/
theorem octet_cut.calls (A0 : Option Addr) (c0 : Nat) (l0 : List Int) (a1 : Int) (a2 : Int) (r1 : List Int) (r2 : Int) (w : World) (hr0 : Kd.C (Kd.int .u8) w A0 l0.length l0) (hc0 : l0.length ≤ c0)
    (h : octet_cut.f l0 a1 a2 = some (r1, r2)) :
    Calls Tryd.prog 45 #[.slice A0 l0.length c0, .int .i64 a1, .int .i64 a2] w (octet_cut.Post A0 l0.length l0 w r1 r2) := by
  have hm : (l0.length : Int) ≤ 9223372036854775807 := by have := hr0.2.1; omega
  have HR := Aside0.mk hr0
  have HC := Aside0.mk hc0
  clear hr0 hc0
  by_cases h2 : 0 ≤ a2
  case neg => simp [octet_cut.f, h2] at h
  by_cases h3 : a2 ≤ 9223372036854775807
  case neg => simp [octet_cut.f, h2, h3] at h
  by_cases c1 : a1 < 0
  · simp only [octet_cut.f, if_pos h2, if_pos h3, if_pos c1, Option.some.injEq, Prod.mk.injEq] at h
    obtain ⟨rfl, rfl⟩ := h
    go_enter Tryd.func45, Tryd.ntmps45
    go_wp2
    go_ret2
    exact ⟨none, 0, rfl, fun _ _ => Kd.C_nil _ _, Nat.le_refl _, rfl⟩
  by_cases c2 : a1 > (l0.length : Int)
  · simp only [octet_cut.f, if_pos h2, if_pos h3, if_neg c1, if_pos c2, Option.some.injEq, Prod.mk.injEq] at h
    obtain ⟨rfl, rfl⟩ := h
    go_enter Tryd.func45, Tryd.ntmps45
    go_wp2
    go_ret2
    exact ⟨none, 0, rfl, fun _ _ => Kd.C_nil _ _, Nat.le_refl _, rfl⟩
  by_cases c3 : (l0.length : Int) - a1 < a2
  · simp only [octet_cut.f, if_pos h2, if_pos h3, if_neg c1, if_neg c2, if_pos c3, Option.some.injEq, Prod.mk.injEq] at h
    obtain ⟨rfl, rfl⟩ := h
    go_enter Tryd.func45, Tryd.ntmps45
    go_wp2
    go_ret2
    exact ⟨none, 0, rfl, fun _ _ => Kd.C_nil _ _, Nat.le_refl _, rfl⟩
  · simp only [octet_cut.f, if_pos h2, if_pos h3, if_neg c1, if_neg c2, if_neg c3, Option.some.injEq, Prod.mk.injEq] at h
    obtain ⟨rfl, rfl⟩ := h
    have hC := fun W (h_ : Kd.C (Kd.int .u8) W A0 l0.length l0) => Kd.C_mid (lo := a1.toNat) (hi := (a1 + a2).toNat) (c := c0) h_ (by omega) (by omega) HC.out
    have hl : ((l0.take (a1 + a2).toNat).drop a1.toNat).length = (a1 + a2).toNat - a1.toNat := by rw [List.length_drop, List.length_take, Nat.min_eq_left (by omega)]
    have hk : ((l0.take (a1 + a2).toNat).drop a1.toNat).length ≤ c0 - a1.toNat := by have := HC.out; rw [hl]; omega
    have h5 : 0 ≤ a1 + a2 := by omega
    have h6 : a1 + a2 ≤ 9223372036854775807 := by omega
    have h7 : a1 ≤ a1 + a2 := by omega
    have h8 : a1 + a2 ≤ (c0 : Int) := by have := HC.out; omega
    have hcc := HC.out
    have HL := Aside0.mk hl
    have HCx := Aside0.mk hC
    have HK := Aside0.mk hk
    clear hC hk hl
    go_enter Tryd.func45, Tryd.ntmps45
    by_cases hq : c0 = a1.toNat
    · have hA := HCx.out
      simp only [if_pos hq] at hA
      have HA := Aside0.mk hA
      clear hA
      go_wp2
      go_ret2
      exact ⟨A0, 0, by rw [HL.out]; rfl, HA.out, by have := HK.out; omega, rfl⟩
    · have hA := HCx.out
      simp only [if_neg hq] at hA
      have HA := Aside0.mk hA
      clear hA
      go_wp2
      go_ret2
      exact ⟨Option.map (fun x => x.add a1.toNat) A0, c0 - a1.toNat, by rw [HL.out]; rfl, by simpa [Kd.int, Kd.scalar] using HA.out, HK.out, rfl⟩

/-! ### octet_gather_uint64: function 46 -/
def octet_gather_uint64.l0 : Nat → Int → List Int → Int → Int → Option (Int)
 | 0, _, _, _, _ => none
 | k + 1, x3, x6, x7, x8 => if x8 < x7 then (if 0 ≤ x8 then (if x8 < (x6.length : Int) then (if 0 ≤ (wrap64 (8 * x8)) then (octet_gather_uint64.l0 k (Go.bits .or .u64 x3 (shl .u64 (IntKind.u64.wrap (rd x6 x8)) (wrap64 (8 * x8)))) x6 x7 (wrap64 (x8 + 1))) else (none)) else (none)) else (none)) else (some x3)
def octet_gather_uint64.f (k : Nat) (l0 : List Int) : Option (Int) := octet_gather_uint64.l0 k 0 l0 (l0.length : Int) 0
theorem octet_gather_uint64.mono_l : ∀ k, (∀ y0 y1 y2 y3, LeO (octet_gather_uint64.l0 k y0 y1 y2 y3) (octet_gather_uint64.l0 (k + 1) y0 y1 y2 y3))
 | 0 => fun _ _ _ _ r h => by simp [octet_gather_uint64.l0] at h
 | k + 1 => by
  have ih0 := octet_gather_uint64.mono_l k
  ·
   intro y0 y1 y2 y3
   unfold octet_gather_uint64.l0
   repeat' first
   | (with_reducible exact ih0 _ _ _ _)
   | (with_reducible exact LeO.refl _)
   | (with_reducible exact LeO.none _)
   | (with_reducible refine LeO.ite ?_ ?_)
   | (with_reducible refine LeO.bind ?_ (fun _ => ?_))
   | exact ih0 _ _ _ _
   | exact LeO.none _
   | refine LeO.ite ?_ ?_
   | refine LeO.bind ?_ (fun _ => ?_)
theorem octet_gather_uint64.mono : ∀ a0 k, LeO (octet_gather_uint64.f k a0) (octet_gather_uint64.f (k + 1) a0) := by
 intro a0 k
 have ih0 := octet_gather_uint64.mono_l k
 unfold octet_gather_uint64.f
 repeat' first
   | (with_reducible exact ih0 _ _ _ _)
   | (with_reducible exact LeO.refl _)
   | (with_reducible exact LeO.none _)
   | (with_reducible refine LeO.ite ?_ ?_)
   | (with_reducible refine LeO.bind ?_ (fun _ => ?_))
   | exact ih0 _ _ _ _
   | exact LeO.none _
   | refine LeO.ite ?_ ?_
   | refine LeO.bind ?_ (fun _ => ?_)
set_option maxHeartbeats 8000000 in
set_option maxRecDepth 100000 in
theorem octet_gather_uint64.calls (k : Nat) (A0 : Option Addr) (c0 : Nat) (l0 : List Int) (r : Int) (w : World) (hr0 : Kd.C (Kd.int .u8) w A0 l0.length l0) (hc0 : l0.length ≤ c0) (h : octet_gather_uint64.f k l0 = some r) :
  Calls Tryd.prog 46 #[.slice A0 l0.length c0] w fun e w' => e = .returned (.int .u64 r) ∧ Drawn0 w w' := by
 have HR0 := Aside0.mk hr0
 have HC0 := Aside0.mk hc0
 clear hr0 hc0
 have H : (octet_gather_uint64.l0 k 0 l0 (l0.length : Int) 0) = some r := h
 clear h
 have H' := Aside0.mk H
 clear H
 go_enter Tryd.func46, Tryd.ntmps46
 go_wp2
 go_loopg [3, 8] k (fun kq v3 v8 w' => ∃ (x3_1 : Int) (x8_1 : Int), v3 = .int .u64 x3_1 ∧ v8 = .int .i64 x8_1 ∧ Aside0 (octet_gather_uint64.l0 kq x3_1 l0 (l0.length : Int) x8_1 = some r) ∧ Aside0 (kq ≤ k) ∧ Drawn0 w w')
 case atStart => exact ⟨(0), (0), (by first | rfl | (simp; done) | (simp [*]; done)), (by first | rfl | (simp; done) | (simp [*]; done)), H', ⟨Nat.le_refl _⟩, by repeat (first | exact Drawn0.refl _ | apply Drawn0.step)⟩
 case round =>
  clear H'
  obtain ⟨x3_1, x8_1, rfl, rfl, HA, HK1, ⟨m1, rfl⟩⟩ := hrel
  cases gk with
  | zero => exact absurd HA.out (by simp [octet_gather_uint64.l0])
  | succ k1 =>
   have H := HA.out
   clear HA
   simp only [octet_gather_uint64.l0] at H
   by_cases c2 : x8_1 < (l0.length : Int)
   ·
    rw [if_pos c2] at H
    have c2b0 : decide (x8_1 < (l0.length : Int)) = true := decide_eq_true c2
    clear c2
    by_cases c3 : 0 ≤ x8_1
    ·
     rw [if_pos c3] at H
     have c3b0 : decide (0 ≤ x8_1) = true := decide_eq_true c3
     clear c3
     by_cases c4 : x8_1 < (l0.length : Int)
     ·
      rw [if_pos c4] at H
      have c4b0 : decide (x8_1 < (l0.length : Int)) = true := decide_eq_true c4
      clear c4
      obtain ⟨ji5, hji5⟩ : ∃ j_ : Int, (wrap64 (8 * x8_1)) = j_ := ⟨_, rfl⟩
      replace H : (if 0 ≤ (ji5) then (octet_gather_uint64.l0 k1 (Go.bits .or .u64 x3_1 (shl .u64 (IntKind.u64.wrap (rd l0 x8_1)) (ji5))) l0 (l0.length : Int) (wrap64 (x8_1 + 1))) else (none)) = some r := by first | (rw [hji5] at H; exact H) | (simp only [hji5] at H ⊢; exact H)
      have hji5w : (IntKind.i64.wrap (8 * x8_1)) = ji5 := (i64_w _).trans hji5
      by_cases c6 : 0 ≤ (ji5)
      ·
       rw [if_pos c6] at H
       have c6b0 := eq_true c6
       have c6b1 : decide (0 ≤ (ji5)) = true := decide_eq_true c6
       clear c6
       obtain ⟨ji7, hji7⟩ : ∃ j_ : Int, (shl .u64 (IntKind.u64.wrap (rd l0 x8_1)) (ji5)) = j_ := ⟨_, rfl⟩
       replace H : (octet_gather_uint64.l0 k1 (Go.bits .or .u64 x3_1 (ji7)) l0 (l0.length : Int) (wrap64 (x8_1 + 1))) = some r := by first | (rw [hji7] at H; exact H) | (simp only [hji7] at H ⊢; exact H)
       have hji7_ : (IntKind.u64.wrap ((IntKind.u64.wrap (rd l0 x8_1)) * 2 ^ min (ji5).toNat 64)) = ji7 := hji7
       have hji7z : (ji5) ≤ 64 → (IntKind.u64.wrap ((IntKind.u64.wrap (rd l0 x8_1)) * 2 ^ (ji5).toNat)) = ji7 := shl_small hji7
       have H' := Aside0.mk H
       clear H
       have p151 : 0 ≤ (x8_1 : Int) := of_decide_eq_true (by first | (with_reducible assumption) | assumption)
       have q151 : x8_1 < (l0.length : Int) := of_decide_eq_true (by first | (with_reducible assumption) | assumption)
       obtain ⟨ad151, e151, hx151_0⟩ := Kd.at_int HR0.out x8_1 p151 q151
       cases e151
       replace p151 := eq_true p151
       replace q151 := eq_true q151
       go_wp2
       go_roundg k1
       case measure => have := HK1.out; omega
       case rel => exact ⟨(Go.bits .or .u64 x3_1 (ji7)), (wrap64 (x8_1 + 1)), (by first | rfl | (simp; done) | (simp only [← hji7] <;> (first | rfl | simp)) | (simp [*]; done)), (by first | rfl | (simp; done) | (simp [*]; done)), H', ⟨by have := HK1.out; omega⟩, by repeat (first | exact Drawn0.refl _ | apply Drawn0.step)⟩
      ·
       rw [if_neg c6] at H
       exact absurd H (by simp)
     ·
      rw [if_neg c4] at H
      exact absurd H (by simp)
    ·
     rw [if_neg c3] at H
     exact absurd H (by simp)
   ·
    rw [if_neg c2] at H
    have c2b0 : decide (x8_1 < (l0.length : Int)) = false := decide_eq_false c2
    clear c2
    obtain rfl := Option.some.inj H
    go_wp2
    go_ret
    exact ⟨by first | rfl | (simp; done) | (simp [*]; done), by repeat (first | exact Drawn0.refl _ | apply Drawn0.step)⟩

/-! ### octet_Get: function 25 -/
def octet_Get.f (k : Nat) (l0 : List Int) (a1 : Int) (a2 : Int) : Option (Int × Int × Int) :=
  if a2 < 1 then some (0, 0, 2) else if a2 > 8 then some (0, 0, 2) else (octet_cut.f l0 a1 a2).bind fun c => (octet_gather_uint64.f k c.1).bind fun u =>
    if u > 9223372036854775807 then some (0, 0, 11) else if c.2 = 0 then some (IntKind.i64.wrap u, wrap64 (a1 + a2), 0) else some (0, 0, c.2)
theorem octet_Get.mono : ∀ a0 a1 a2 k, LeO (octet_Get.f k a0 a1 a2) (octet_Get.f (k + 1) a0 a1 a2) := by
  intro a0 a1 a2 k
  unfold octet_Get.f
  refine LeO.ite (LeO.refl _) (LeO.ite (LeO.refl _) (LeO.bind (LeO.refl _) fun c => LeO.bind (octet_gather_uint64.mono _ _) fun u => LeO.refl _))
/-- Three variables in memory, one behind the other. -/
structure OctTri (B ta tb : Nat) (W : World) (v0 v1 v2 : Value) : Prop where
  b0 : W.heap[B]? = some (.cells #[v0] ta (0, 0))
  b1 : W.heap[B + 1]? = some (.cells #[v1] ta (0, 0))
  b2 : W.heap[B + 1 + 1]? = some (.cells #[v2] tb (0, 0))
theorem OctTri.c0 {B ta tb : Nat} {W : World} {v0 v1 v2 : Value} (h : OctTri B ta tb W v0 v1 v2) : W.cell? ⟨B, 0, none⟩ = some v0 := blk_cell h.b0 0
theorem OctTri.c1 {B ta tb : Nat} {W : World} {v0 v1 v2 : Value} (h : OctTri B ta tb W v0 v1 v2) : W.cell? ⟨B + 1, 0, none⟩ = some v1 := blk_cell h.b1 0
theorem OctTri.c2 {B ta tb : Nat} {W : World} {v0 v1 v2 : Value} (h : OctTri B ta tb W v0 v1 v2) : W.cell? ⟨B + 1 + 1, 0, none⟩ = some v2 := blk_cell h.b2 0
theorem OctTri.z0 {B ta tb : Nat} {W : World} {v0 v1 v2 : Value} (h : OctTri B ta tb W v0 v1 v2) : W.frozen? ⟨B, 0, none⟩ = false := blk_frozen h.b0 0
theorem OctTri.z1 {B ta tb : Nat} {W : World} {v0 v1 v2 : Value} (h : OctTri B ta tb W v0 v1 v2) : W.frozen? ⟨B + 1, 0, none⟩ = false := blk_frozen h.b1 0
theorem OctTri.z2 {B ta tb : Nat} {W : World} {v0 v1 v2 : Value} (h : OctTri B ta tb W v0 v1 v2) : W.frozen? ⟨B + 1 + 1, 0, none⟩ = false := blk_frozen h.b2 0
theorem OctTri.set0 {B ta tb : Nat} {W : World} {v0 v1 v2 : Value} (h : OctTri B ta tb W v0 v1 v2) (v : Value) : OctTri B ta tb (W.setCell ⟨B, 0, none⟩ v) v v1 v2 := ⟨blk_put h.b0 0 v rfl, blk_far h.b1 (show B + 1 ≠ B by omega) v, blk_far h.b2 (show B + 1 + 1 ≠ B by omega) v⟩
theorem OctTri.set1 {B ta tb : Nat} {W : World} {v0 v1 v2 : Value} (h : OctTri B ta tb W v0 v1 v2) (v : Value) : OctTri B ta tb (W.setCell ⟨B + 1, 0, none⟩ v) v0 v v2 := ⟨blk_far h.b0 (show B ≠ B + 1 by omega) v, blk_put h.b1 0 v rfl, blk_far h.b2 (show B + 1 + 1 ≠ B + 1 by omega) v⟩
theorem OctTri.set2 {B ta tb : Nat} {W : World} {v0 v1 v2 : Value} (h : OctTri B ta tb W v0 v1 v2) (v : Value) : OctTri B ta tb (W.setCell ⟨B + 1 + 1, 0, none⟩ v) v0 v1 v := ⟨blk_far h.b0 (show B ≠ B + 1 + 1 by omega) v, blk_far h.b1 (show B + 1 ≠ B + 1 + 1 by omega) v, blk_put h.b2 0 v rfl⟩
theorem OctTri.drew {B ta tb : Nat} {W : World} {v0 v1 v2 : Value} (h : OctTri B ta tb W v0 v1 v2) : OctTri B ta tb W.drew v0 v1 v2 := ⟨h.b0, h.b1, h.b2⟩
theorem OctTri.drewN {B ta tb : Nat} {W : World} {v0 v1 v2 : Value} (h : OctTri B ta tb W v0 v1 v2) (n : Nat) : OctTri B ta tb (W.drewN n) v0 v1 v2 := ⟨h.b0, h.b1, h.b2⟩
/-- Where the error isn't OK the two numbers become 0. -/
theorem octet_Get.closure_err (g0 g1 g2 : Nat) (n x e : Int) (w : World) (he : ¬ e = 0) (h0 : w.cell? ⟨g0, 0, none⟩ = some (.int .i64 e)) (h1 : w.cell? ⟨g1, 0, none⟩ = some (.int .i64 n)) (h2 : w.cell? ⟨g2, 0, none⟩ = some (.int .i64 x))
    (f1 : w.frozen? ⟨g1, 0, none⟩ = false) (f2 : w.frozen? ⟨g2, 0, none⟩ = false) (n12 : ¬ g1 = g2) :
    CallsD Tryd.prog 44 #[.pointer (some ⟨g0, 0, none⟩), .pointer (some ⟨g1, 0, none⟩), .pointer (some ⟨g2, 0, none⟩)] .returning w fun e_ u' w' =>
      u' = .returning ∧ (e_ = .returned (.tuple #[]) ∧ w' = (w.setCell ⟨g1, 0, none⟩ (.int .i64 0)).setCell ⟨g2, 0, none⟩ (.int .i64 0)) := by
  have hd : ((e != 0) = true) := by rw [bne_iff_ne]; exact he
  go_enter_d Tryd.func44, Tryd.ntmps44
  go_wp2
  go_end0
  exact ⟨rfl, rfl⟩
theorem octet_Get.closure_ok (g0 : Nat) (a1 a2 : Value) (w : World) (h0 : w.cell? ⟨g0, 0, none⟩ = some (.int .i64 0)) :
    CallsD Tryd.prog 44 #[.pointer (some ⟨g0, 0, none⟩), a1, a2] .returning w fun e_ u' w' =>
      u' = .returning ∧ (e_ = .returned (.tuple #[]) ∧ w' = w) := by
  go_enter_d Tryd.func44, Tryd.ntmps44
  go_wp2
  go_end0
  exact ⟨rfl, rfl⟩

set_option maxHeartbeats 8000000 in
set_option maxRecDepth 100000 in
theorem octet_Get.calls (k : Nat) (A0 : Option Addr) (c0 : Nat) (l0 : List Int) (a1 : Int) (a2 : Int) (r1 : Int) (r2 : Int) (r3 : Int) (w : World) (hr0 : Kd.C (Kd.int .u8) w A0 l0.length l0) (hc0 : l0.length ≤ c0) (h : octet_Get.f k l0 a1 a2 = some (r1, r2, r3)) :
    Calls Tryd.prog 25 #[.slice A0 l0.length c0, .int .i64 a1, .int .i64 a2] w fun e w' => e = .returned (.tuple #[.int .i64 r1, .int .i64 r2, .int .i64 r3]) ∧ Below w.heap.size w w' := by
  have HR := Aside0.mk hr0
  have HC := Aside0.mk hc0
  clear hr0 hc0
  have hmf : ∀ (fn : Fn) (first cap : Array Value) (w : World), (Instr.makeFunc fn first cap).run Tryd.prog w = .ok (.func fn first cap) w := fun _ _ _ _ => rfl
  have below3 : ∀ (w : World) (o1 o2 o3 : Obj), Below w.heap.size w (((w.alloc o1).alloc o2).alloc o3) := fun w o1 o2 o3 => below_alloc (below_alloc (below_alloc (Below.refl _ _) _) _) _
  by_cases c1 : a2 < 1
  · simp only [octet_Get.f, if_pos c1, Option.some.injEq, Prod.mk.injEq] at h
    obtain ⟨rfl, rfl, rfl⟩ := h
    go_enter_defers Tryd.func25, Tryd.ntmps25
    go_wp2
    simp [bodyPostD, Leaves, settle, results, Tryd.results25, go_sem, below3]
  by_cases c2 : a2 > 8
  · simp only [octet_Get.f, if_neg c1, if_pos c2, Option.some.injEq, Prod.mk.injEq] at h
    obtain ⟨rfl, rfl, rfl⟩ := h
    go_enter_defers Tryd.func25, Tryd.ntmps25
    go_wp2
    simp [bodyPostD, Leaves, settle, results, Tryd.results25, go_sem, below3]
  simp only [octet_Get.f, if_neg c1, if_neg c2] at h
  obtain ⟨⟨q1, q2⟩, hcut, h⟩ := Option.bind_eq_some_iff.mp h
  obtain ⟨u, hga, h⟩ := Option.bind_eq_some_iff.mp h
  have HCUT := Aside0.mk hcut
  have HGA := Aside0.mk hga
  have HH := Aside0.mk h
  clear hcut hga h
  go_enter_defers Tryd.func25, Tryd.ntmps25
  go_wp2_with (go_at_call 45; (with_reducible refine (octet_cut.calls A0 c0 l0 a1 a2 q1 q2 _ ?s1 ?s2 HCUT.out).mono ?_); (case s1 => (repeat (first | exact HR.out | (with_reducible refine Kd.C_alloc ?_ _)))); (case s2 => exact HC.out); rintro e w' ⟨A1, c1', rfl, hC1, hK1, rfl⟩; have HC1 := Aside0.mk hC1; have HK1 := Aside0.mk hK1; clear hC1 hK1)
  refine (octet_gather_uint64.calls k A1 c1' q1 u _ ?s1 HK1.out HGA.out).mono ?_
  case s1 => exact HC1.out _ (by repeat (first | exact HR.out | (with_reducible refine Kd.C_alloc ?_ _)))
  rintro e w' ⟨rfl, ⟨nd, rfl⟩⟩
  have h := HH.out
  clear HH HCUT HGA HC1 HK1 HR HC
  obtain ⟨W, hW⟩ : ∃ W, W = ((((w.alloc (Obj.cells #[Value.int IntKind.i64 0] 3)).alloc (Obj.cells #[Value.int IntKind.i64 0] 3)).alloc (Obj.cells #[Value.int IntKind.i64 q2] 24)).drewN nd) := ⟨_, rfl⟩
  have hb : Below w.heap.size w W := by rw [hW]; exact pw_below_drewN (below3 _ _ _ _) _
  have hT : OctTri w.heap.size 3 24 W (.int .i64 0) (.int .i64 0) (.int .i64 q2) := by
    rw [hW]
    refine OctTri.drewN ⟨blk_alloc (blk_alloc (blk_new _ _) _) _, blk_alloc ?_ _, ?_⟩ _
    · have := blk_new (w.alloc (Obj.cells #[Value.int IntKind.i64 0] 3)) (Obj.cells #[Value.int IntKind.i64 0] 3)
      rwa [World.size_alloc] at this
    · have := blk_new ((w.alloc (Obj.cells #[Value.int IntKind.i64 0] 3)).alloc (Obj.cells #[Value.int IntKind.i64 0] 3)) (Obj.cells #[Value.int IntKind.i64 q2] 24)
      rwa [World.size_alloc, World.size_alloc] at this
  rw [← hW]
  have k0 := hT.c0
  have k1 := hT.c1
  have k2 := hT.c2
  have f0 := hT.z0
  have f1 := hT.z1
  have f2 := hT.z2
  have hb := Aside0.mk hb
  have hT := Aside0.mk hT
  clear hW nd
  by_cases c3 : u > 9223372036854775807
  · rw [if_pos c3] at h
    simp only [Option.some.injEq, Prod.mk.injEq] at h
    obtain ⟨rfl, rfl, rfl⟩ := h
    go_wp2
    go_region
    all_goals
      go_wp2
      refine leaves_cons (f := 44) (args := #[.pointer (some ⟨w.heap.size + 1 + 1, 0, none⟩), .pointer (some ⟨w.heap.size, 0, none⟩), .pointer (some ⟨w.heap.size + 1, 0, none⟩)]) (by simp) (by simp [go_sem]) ?_
      refine (octet_Get.closure_err _ _ _ (wrap64 u) (wrap64 (a1 + a2)) 11 _ (by omega) ?s0 ?s1 ?s2 ?s3 ?s4 (by omega)).mono ?_
      case s0 => refine OctTri.c2 (ta := 3) (tb := 24) (v0 := .int .i64 (wrap64 u)) (v1 := .int .i64 (wrap64 (a1 + a2))) (v2 := .int .i64 11) ?_; (with_reducible repeat (first | exact hT.out | apply OctTri.set0 | apply OctTri.set1 | apply OctTri.set2 | apply OctTri.drew | apply OctTri.drewN))
      case s1 => refine OctTri.c0 (ta := 3) (tb := 24) (v0 := .int .i64 (wrap64 u)) (v1 := .int .i64 (wrap64 (a1 + a2))) (v2 := .int .i64 11) ?_; (with_reducible repeat (first | exact hT.out | apply OctTri.set0 | apply OctTri.set1 | apply OctTri.set2 | apply OctTri.drew | apply OctTri.drewN))
      case s2 => refine OctTri.c1 (ta := 3) (tb := 24) (v0 := .int .i64 (wrap64 u)) (v1 := .int .i64 (wrap64 (a1 + a2))) (v2 := .int .i64 11) ?_; (with_reducible repeat (first | exact hT.out | apply OctTri.set0 | apply OctTri.set1 | apply OctTri.set2 | apply OctTri.drew | apply OctTri.drewN))
      case s3 => refine OctTri.z0 (ta := 3) (tb := 24) (v0 := .int .i64 (wrap64 u)) (v1 := .int .i64 (wrap64 (a1 + a2))) (v2 := .int .i64 11) ?_; (with_reducible repeat (first | exact hT.out | apply OctTri.set0 | apply OctTri.set1 | apply OctTri.set2 | apply OctTri.drew | apply OctTri.drewN))
      case s4 => refine OctTri.z1 (ta := 3) (tb := 24) (v0 := .int .i64 (wrap64 u)) (v1 := .int .i64 (wrap64 (a1 + a2))) (v2 := .int .i64 11) ?_; (with_reducible repeat (first | exact hT.out | apply OctTri.set0 | apply OctTri.set1 | apply OctTri.set2 | apply OctTri.drew | apply OctTri.drewN))
      rintro e u' w'' ⟨rfl, rfl, hw⟩
      have T3 : OctTri w.heap.size 3 24 w'' (.int .i64 0) (.int .i64 0) (.int .i64 11) := by
        rw [hw]
        (with_reducible repeat (first | exact hT.out | apply OctTri.set0 | apply OctTri.set1 | apply OctTri.set2 | apply OctTri.drew | apply OctTri.drewN))
      have B3 : Below w.heap.size w w'' := by
        rw [hw]
        (with_reducible repeat (first | exact hb.out | (with_reducible refine below_set ?_ (by omega)) | (with_reducible refine below_drew1 ?_)))
      have y0 := T3.c0
      have y1 := T3.c1
      have y2 := T3.c2
      clear hw T3
      simp [Leaves, settle, results, Tryd.results25, go_sem, y0, y1, y2, B3, IntKind.wrap_i64, wrap64]
  rw [if_neg c3] at h
  by_cases c4 : q2 = 0
  · rw [if_pos c4] at h
    simp only [Option.some.injEq, Prod.mk.injEq] at h
    obtain ⟨rfl, rfl, rfl⟩ := h
    subst c4
    go_wp2
    go_region
    all_goals
      go_wp2
      refine leaves_cons (f := 44) (args := #[.pointer (some ⟨w.heap.size + 1 + 1, 0, none⟩), .pointer (some ⟨w.heap.size, 0, none⟩), .pointer (some ⟨w.heap.size + 1, 0, none⟩)]) (by simp) (by simp [go_sem]) ?_
      refine (octet_Get.closure_ok _ _ _ _ ?s0).mono ?_
      case s0 => refine OctTri.c2 (ta := 3) (tb := 24) (v0 := .int .i64 (wrap64 u)) (v1 := .int .i64 (wrap64 (a1 + a2))) (v2 := .int .i64 0) ?_; (with_reducible repeat (first | exact hT.out | apply OctTri.set0 | apply OctTri.set1 | apply OctTri.set2 | apply OctTri.drew | apply OctTri.drewN))
      rintro e u' w'' ⟨rfl, rfl, hw⟩
      have T3 : OctTri w.heap.size 3 24 w'' (.int .i64 (wrap64 u)) (.int .i64 (wrap64 (a1 + a2))) (.int .i64 0) := by
        rw [hw]
        (with_reducible repeat (first | exact hT.out | apply OctTri.set0 | apply OctTri.set1 | apply OctTri.set2 | apply OctTri.drew | apply OctTri.drewN))
      have B3 : Below w.heap.size w w'' := by
        rw [hw]
        (with_reducible repeat (first | exact hb.out | (with_reducible refine below_set ?_ (by omega)) | (with_reducible refine below_drew1 ?_)))
      have y0 := T3.c0
      have y1 := T3.c1
      have y2 := T3.c2
      clear hw T3
      simp [Leaves, settle, results, Tryd.results25, go_sem, y0, y1, y2, B3, IntKind.wrap_i64, wrap64]
  · rw [if_neg c4] at h
    simp only [Option.some.injEq, Prod.mk.injEq] at h
    obtain ⟨rfl, rfl, rfl⟩ := h
    go_wp2
    go_region
    all_goals
      go_wp2
      refine leaves_cons (f := 44) (args := #[.pointer (some ⟨w.heap.size + 1 + 1, 0, none⟩), .pointer (some ⟨w.heap.size, 0, none⟩), .pointer (some ⟨w.heap.size + 1, 0, none⟩)]) (by simp) (by simp [go_sem]) ?_
      refine (octet_Get.closure_err _ _ _ (wrap64 u) (wrap64 (a1 + a2)) q2 _ c4 ?s0 ?s1 ?s2 ?s3 ?s4 (by omega)).mono ?_
      case s0 => refine OctTri.c2 (ta := 3) (tb := 24) (v0 := .int .i64 (wrap64 u)) (v1 := .int .i64 (wrap64 (a1 + a2))) (v2 := .int .i64 q2) ?_; (with_reducible repeat (first | exact hT.out | apply OctTri.set0 | apply OctTri.set1 | apply OctTri.set2 | apply OctTri.drew | apply OctTri.drewN))
      case s1 => refine OctTri.c0 (ta := 3) (tb := 24) (v0 := .int .i64 (wrap64 u)) (v1 := .int .i64 (wrap64 (a1 + a2))) (v2 := .int .i64 q2) ?_; (with_reducible repeat (first | exact hT.out | apply OctTri.set0 | apply OctTri.set1 | apply OctTri.set2 | apply OctTri.drew | apply OctTri.drewN))
      case s2 => refine OctTri.c1 (ta := 3) (tb := 24) (v0 := .int .i64 (wrap64 u)) (v1 := .int .i64 (wrap64 (a1 + a2))) (v2 := .int .i64 q2) ?_; (with_reducible repeat (first | exact hT.out | apply OctTri.set0 | apply OctTri.set1 | apply OctTri.set2 | apply OctTri.drew | apply OctTri.drewN))
      case s3 => refine OctTri.z0 (ta := 3) (tb := 24) (v0 := .int .i64 (wrap64 u)) (v1 := .int .i64 (wrap64 (a1 + a2))) (v2 := .int .i64 q2) ?_; (with_reducible repeat (first | exact hT.out | apply OctTri.set0 | apply OctTri.set1 | apply OctTri.set2 | apply OctTri.drew | apply OctTri.drewN))
      case s4 => refine OctTri.z1 (ta := 3) (tb := 24) (v0 := .int .i64 (wrap64 u)) (v1 := .int .i64 (wrap64 (a1 + a2))) (v2 := .int .i64 q2) ?_; (with_reducible repeat (first | exact hT.out | apply OctTri.set0 | apply OctTri.set1 | apply OctTri.set2 | apply OctTri.drew | apply OctTri.drewN))
      rintro e u' w'' ⟨rfl, rfl, hw⟩
      have T3 : OctTri w.heap.size 3 24 w'' (.int .i64 0) (.int .i64 0) (.int .i64 q2) := by
        rw [hw]
        (with_reducible repeat (first | exact hT.out | apply OctTri.set0 | apply OctTri.set1 | apply OctTri.set2 | apply OctTri.drew | apply OctTri.drewN))
      have B3 : Below w.heap.size w w'' := by
        rw [hw]
        (with_reducible repeat (first | exact hb.out | (with_reducible refine below_set ?_ (by omega)) | (with_reducible refine below_drew1 ?_)))
      have y0 := T3.c0
      have y1 := T3.c1
      have y2 := T3.c2
      clear hw T3
      simp [Leaves, settle, results, Tryd.results25, go_sem, y0, y1, y2, B3, IntKind.wrap_i64, wrap64]

end Go.Proofs.YtjidhcepdjdceaaDoor.E
