/- Contracts of the functions of this seat (each: the call of the function does what the plain Lean function of the same name tells; the conditions stand in each statement). Written by a program of this session and by hand; checked by Lean. -/
import Derived.Test.YtjnmomhkiknhdaaDoorP0
import Derived.Test.YtjnmomhkiknhdaaDoorP1
import Derived.Test.YtjnmomhkiknhdaaDoorP4
import Derived.Test.YtjnmomhkiknhdaaDoorP5
import Derived.Test.YtjnmomhkiknhdaaDoorP6
import Derived.Test.YtjnmomhkiknhdaaDoorP7
import Derived.Test.YtjnmomhkiknhdaaDoorP9
namespace Go.Proofs.YtjnmomhkiknhdaaDoor.P
open Go.RowKit Go.Proofs.YtjnmomhkiknhdaaDoorW.PrintWords Go.Proofs.YtjnmomhkiknhdaaDoorW.PrintLast Go.Proofs.YtjnmomhkiknhdaaDoorW.PrintMore
attribute [local go_sem] max2_int min2_int max_two min_two max_three min_three max_four min_four   -- for this text's walks alone
set_option linter.unusedVariables false
set_option linter.unusedSimpArgs false

attribute [local go_sem high] eqA38
/-! ### capstanlaw06_PoolOnce: function 5 -/
mutual
def capstanlaw06_PoolOnce.l0 : Nat → List (S38) → List (S38) → Int → Option (Bool)
  | 0, _, _, _ => none
  | k + 1, x0, x3, x4 => if x4 < (x0.length : Int) then (if 0 ≤ x4 then ((pool_Find.f k x3 ((rd_T38 x0 x4).f0) ((rd_T38 x0 x4).f1) ((rd_T38 x0 x4).f2)).bind fun t341 => ((pool_Add.f k x3 ((rd_T38 x0 x4).f0) ((rd_T38 x0 x4).f1) ((rd_T38 x0 x4).f2)).bind fun bt343 => (if bt343.2.2 = 0 then ((pool_May.f k bt343.1).bind fun t359 => (if t359 = true then (if bt343.2.1 < 0 then (none) else (if bt343.2.1 ≥ (bt343.1.length : Int) then (none) else (if 0 ≤ bt343.2.1 then (if bt343.2.1 < (bt343.1.length : Int) then (if (!(((rd_T38 bt343.1 bt343.2.1).f0) == ((rd_T38 x0 x4).f0)) || (!(((rd_T38 bt343.1 bt343.2.1).f1) == ((rd_T38 x0 x4).f1)) || (!(((rd_T38 bt343.1 bt343.2.1).f2) == ((rd_T38 x0 x4).f2))))) = true then (none) else ((pool_Find.f k bt343.1 ((rd_T38 x0 x4).f0) ((rd_T38 x0 x4).f1) ((rd_T38 x0 x4).f2)).bind fun t363 => (capstanlaw06_PoolOnce.j1 k x0 x3 x4 t341 bt343.1 bt343.2.1 (t363 != bt343.2.1)))) else (none)) else (none)))) else (none))) else (if t341 ≥ 0 then (none) else (if (bt343.1.length : Int) > 0 then (none) else ((capstanref03_Copy.f x3).bind fun t348 => ((some (([(⟨(rd_T38 x0 x4).f0, (rd_T38 x0 x4).f1, (rd_T38 x0 x4).f2⟩ : S38)] : List (S38)) : List (S38))).bind fun y352 => (if t348.length + y352.length < 5864062014805 then ((pool_May.f k (t348 ++ y352)).bind fun t358 => (if t358 = true then (none) else (capstanlaw06_PoolOnce.l0 k x0 x3 (wrap64 (x4 + 1))))) else (none))))))))) else (none)) else (capstanlaw06_PoolOnce.l1 k x3 0)
def capstanlaw06_PoolOnce.j1 : Nat → List (S38) → List (S38) → Int → Int → List (S38) → Int → Bool → Option (Bool)
  | 0, _, _, _, _, _, _, _ => none
  | k + 1, x0, x3, x4, x5, x6, x7, x90 => if x90 = true then (none) else (if x5 ≥ 0 then (if x7 = x5 then (if (x6.length : Int) = (x3.length : Int) then (if x5 < 0 then (if x7 = (x3.length : Int) then (if (x6.length : Int) = (wrap64 ((x3.length : Int) + 1)) then (if (x6.length : Int) < (x3.length : Int) then (none) else (if 0 ≤ (x3.length : Int) then (if (x3.length : Int) ≤ (x6.length : Int) then ((capstanref03_Same.f k (x6.take ((x3.length : Int) : Int).toNat) x3).bind fun t368 => (if t368 = true then (capstanlaw06_PoolOnce.l0 k x0 x6 (wrap64 (x4 + 1))) else (none))) else (none)) else (none))) else (none)) else (none)) else (if (x6.length : Int) < (x3.length : Int) then (none) else (if 0 ≤ (x3.length : Int) then (if (x3.length : Int) ≤ (x6.length : Int) then ((capstanref03_Same.f k (x6.take ((x3.length : Int) : Int).toNat) x3).bind fun t373 => (if t373 = true then (capstanlaw06_PoolOnce.l0 k x0 x6 (wrap64 (x4 + 1))) else (none))) else (none)) else (none)))) else (none)) else (none)) else (if x5 < 0 then (if x7 = (x3.length : Int) then (if (x6.length : Int) = (wrap64 ((x3.length : Int) + 1)) then (if (x6.length : Int) < (x3.length : Int) then (none) else (if 0 ≤ (x3.length : Int) then (if (x3.length : Int) ≤ (x6.length : Int) then ((capstanref03_Same.f k (x6.take ((x3.length : Int) : Int).toNat) x3).bind fun t378 => (if t378 = true then (capstanlaw06_PoolOnce.l0 k x0 x6 (wrap64 (x4 + 1))) else (none))) else (none)) else (none))) else (none)) else (none)) else (if (x6.length : Int) < (x3.length : Int) then (none) else (if 0 ≤ (x3.length : Int) then (if (x3.length : Int) ≤ (x6.length : Int) then ((capstanref03_Same.f k (x6.take ((x3.length : Int) : Int).toNat) x3).bind fun t383 => (if t383 = true then (capstanlaw06_PoolOnce.l0 k x0 x6 (wrap64 (x4 + 1))) else (none))) else (none)) else (none)))))
def capstanlaw06_PoolOnce.l1 : Nat → List (S38) → Int → Option (Bool)
  | 0, _, _ => none
  | k + 1, x3, x9 => if x9 < (x3.length : Int) then (if 0 ≤ x9 then ((pool_Find.f k x3 ((rd_T38 x3 x9).f0) ((rd_T38 x3 x9).f1) ((rd_T38 x3 x9).f2)).bind fun t385 => (if t385 = x9 then (capstanlaw06_PoolOnce.l1 k x3 (wrap64 (x9 + 1))) else (none))) else (none)) else (some true)
end
def capstanlaw06_PoolOnce.f (k : Nat) (l0 : List (S38)) : Option (Bool) := (capstanlaw06_awake.f k).bind fun t339 => (if t339 = true then (if (l0.length : Int) > 100 then (some true) else (capstanlaw06_PoolOnce.l0 k l0 ([] : List (S38)) 0)) else (none))
theorem capstanlaw06_PoolOnce.mono_l : ∀ k, (∀ y0 y1 y2, LeO (capstanlaw06_PoolOnce.l0 k y0 y1 y2) (capstanlaw06_PoolOnce.l0 (k + 1) y0 y1 y2)) ∧ (∀ y0 y1 y2 y3 y4 y5 y6, LeO (capstanlaw06_PoolOnce.j1 k y0 y1 y2 y3 y4 y5 y6) (capstanlaw06_PoolOnce.j1 (k + 1) y0 y1 y2 y3 y4 y5 y6)) ∧ (∀ y0 y1, LeO (capstanlaw06_PoolOnce.l1 k y0 y1) (capstanlaw06_PoolOnce.l1 (k + 1) y0 y1))
  | 0 => ⟨fun _ _ _ r h => by simp [capstanlaw06_PoolOnce.l0] at h, fun _ _ _ _ _ _ _ r h => by simp [capstanlaw06_PoolOnce.j1] at h, fun _ _ r h => by simp [capstanlaw06_PoolOnce.l1] at h⟩
  | k + 1 => by
    obtain ⟨ih0, ih1, ih2⟩ := capstanlaw06_PoolOnce.mono_l k
    refine ⟨?_, ?_, ?_⟩
    · intro y0 y1 y2
      unfold capstanlaw06_PoolOnce.l0
      repeat' first
      | (with_reducible exact ih0 _ _ _)
      | (with_reducible exact ih1 _ _ _ _ _ _ _)
      | (with_reducible exact ih2 _ _)
      | (with_reducible exact capstanlaw06_awake.mono _)
      | (with_reducible exact capstanref03_Same.mono _ _ _)
      | (with_reducible exact pool_Add.mono _ _ _ _ _)
      | (with_reducible exact pool_Find.mono _ _ _ _ _)
      | (with_reducible exact pool_May.mono _ _)
      | (with_reducible exact LeO.refl _)
      | (with_reducible exact LeO.none _)
      | (with_reducible refine LeO.ite ?_ ?_)
      | (with_reducible refine LeO.bind ?_ (fun _ => ?_))
      | exact ih0 _ _ _
      | exact ih1 _ _ _ _ _ _ _
      | exact ih2 _ _
      | exact capstanlaw06_awake.mono _
      | exact capstanref03_Same.mono _ _ _
      | exact pool_Add.mono _ _ _ _ _
      | exact pool_Find.mono _ _ _ _ _
      | exact pool_May.mono _ _
      | exact LeO.none _
      | refine LeO.ite ?_ ?_
      | refine LeO.bind ?_ (fun _ => ?_)
    · intro y0 y1 y2 y3 y4 y5 y6
      unfold capstanlaw06_PoolOnce.j1
      repeat' first
      | (with_reducible exact ih0 _ _ _)
      | (with_reducible exact ih1 _ _ _ _ _ _ _)
      | (with_reducible exact ih2 _ _)
      | (with_reducible exact capstanlaw06_awake.mono _)
      | (with_reducible exact capstanref03_Same.mono _ _ _)
      | (with_reducible exact pool_Add.mono _ _ _ _ _)
      | (with_reducible exact pool_Find.mono _ _ _ _ _)
      | (with_reducible exact pool_May.mono _ _)
      | (with_reducible exact LeO.refl _)
      | (with_reducible exact LeO.none _)
      | (with_reducible refine LeO.ite ?_ ?_)
      | (with_reducible refine LeO.bind ?_ (fun _ => ?_))
      | exact ih0 _ _ _
      | exact ih1 _ _ _ _ _ _ _
      | exact ih2 _ _
      | exact capstanlaw06_awake.mono _
      | exact capstanref03_Same.mono _ _ _
      | exact pool_Add.mono _ _ _ _ _
      | exact pool_Find.mono _ _ _ _ _
      | exact pool_May.mono _ _
      | exact LeO.none _
      | refine LeO.ite ?_ ?_
      | refine LeO.bind ?_ (fun _ => ?_)
    · intro y0 y1
      unfold capstanlaw06_PoolOnce.l1
      repeat' first
      | (with_reducible exact ih0 _ _ _)
      | (with_reducible exact ih1 _ _ _ _ _ _ _)
      | (with_reducible exact ih2 _ _)
      | (with_reducible exact capstanlaw06_awake.mono _)
      | (with_reducible exact capstanref03_Same.mono _ _ _)
      | (with_reducible exact pool_Add.mono _ _ _ _ _)
      | (with_reducible exact pool_Find.mono _ _ _ _ _)
      | (with_reducible exact pool_May.mono _ _)
      | (with_reducible exact LeO.refl _)
      | (with_reducible exact LeO.none _)
      | (with_reducible refine LeO.ite ?_ ?_)
      | (with_reducible refine LeO.bind ?_ (fun _ => ?_))
      | exact ih0 _ _ _
      | exact ih1 _ _ _ _ _ _ _
      | exact ih2 _ _
      | exact capstanlaw06_awake.mono _
      | exact capstanref03_Same.mono _ _ _
      | exact pool_Add.mono _ _ _ _ _
      | exact pool_Find.mono _ _ _ _ _
      | exact pool_May.mono _ _
      | exact LeO.none _
      | refine LeO.ite ?_ ?_
      | refine LeO.bind ?_ (fun _ => ?_)
theorem capstanlaw06_PoolOnce.mono : ∀ a0 k, LeO (capstanlaw06_PoolOnce.f k a0) (capstanlaw06_PoolOnce.f (k + 1) a0) := by
  intro a0 k
  obtain ⟨ih0, ih1, ih2⟩ := capstanlaw06_PoolOnce.mono_l k
  unfold capstanlaw06_PoolOnce.f
  repeat' first
      | (with_reducible exact ih0 _ _ _)
      | (with_reducible exact ih1 _ _ _ _ _ _ _)
      | (with_reducible exact ih2 _ _)
      | (with_reducible exact capstanlaw06_awake.mono _)
      | (with_reducible exact capstanref03_Same.mono _ _ _)
      | (with_reducible exact pool_Add.mono _ _ _ _ _)
      | (with_reducible exact pool_Find.mono _ _ _ _ _)
      | (with_reducible exact pool_May.mono _ _)
      | (with_reducible exact LeO.refl _)
      | (with_reducible exact LeO.none _)
      | (with_reducible refine LeO.ite ?_ ?_)
      | (with_reducible refine LeO.bind ?_ (fun _ => ?_))
      | exact ih0 _ _ _
      | exact ih1 _ _ _ _ _ _ _
      | exact ih2 _ _
      | exact capstanlaw06_awake.mono _
      | exact capstanref03_Same.mono _ _ _
      | exact pool_Add.mono _ _ _ _ _
      | exact pool_Find.mono _ _ _ _ _
      | exact pool_May.mono _ _
      | exact LeO.none _
      | refine LeO.ite ?_ ?_
      | refine LeO.bind ?_ (fun _ => ?_)
def capstanlaw06_PoolOnce.T12 : Bool × List (List Nat × List Nat) := (true, [([], []), ([0], [0]), ([1], [1]), ([2], [2]), ([3, 2], [2, 3]), ([4, 2], [2, 4]), ([2, 5], [2, 5]), ([6, 2], [6]), ([7], [7]), ([8, 7, 7], [7, 8]), ([7], [7]), ([7], [7]), ([10, 11, 7], [7, 10, 11]), ([12, 7], [7, 12]), ([13, 7], [7, 13]), ([9, 14, 9, 7], [7, 9, 14]), ([15, 15, 7], [7, 15]), ([7, 16], [7, 16])])
def capstanlaw06_PoolOnce.B12 : List Nat := [0, 1, 3, 7, 15, 31, 63, 127, 255, 511, 255, 255, 3327, 7423, 15615, 32767, 65535, 131071]
theorem capstanlaw06_PoolOnce.tab12 : rtab .any (opsOf Tryd.f5 12) = capstanlaw06_PoolOnce.T12 := by kernel_rfl
theorem capstanlaw06_PoolOnce.bits12 : waitsOk capstanlaw06_PoolOnce.T12.2 capstanlaw06_PoolOnce.B12 = true := by kernel_rfl
def capstanlaw06_PoolOnce.T14 : Bool × List (List Nat × List Nat) := (true, [([], []), ([0], [0]), ([1], [1]), ([2, 1], [2]), ([3], [3]), ([4, 3], [3, 4]), ([3, 5], [3, 5]), ([6, 3], [6]), ([7], [7]), ([7], [7]), ([9, 7], [7, 9]), ([8, 10, 7], [7, 8, 10]), ([7, 11], [7, 11]), ([12, 7], [12]), ([13], [13]), ([13], [13]), ([14, 15, 13], [13, 14, 15]), ([16, 13], [13, 16]), ([13], [13]), ([13], [13]), ([18, 19, 13], [13, 18, 19]), ([20, 13], [13, 20]), ([17, 21, 13], [13, 17, 21]), ([13, 22], [13, 22]), ([23, 13], [23]), ([24], [24]), ([24], [24]), ([24], [24]), ([26, 27, 24], [24, 26, 27]), ([28, 24], [24, 28]), ([25, 29, 24, 24], [24, 25, 29]), ([24], [24]), ([30, 31, 24], [24, 30, 31]), ([24, 32], [24, 32])])
def capstanlaw06_PoolOnce.B14 : List Nat := [0, 1, 3, 7, 15, 31, 63, 127, 255, 255, 767, 2047, 4095, 8191, 16383, 16383, 65535, 131071, 16383, 16383, 802815, 1851391, 4194303, 8388607, 16777215, 33554431, 33554431, 33554431, 234881023, 503316479, 1073741823, 33554431, 4294967295, 8589934591]
theorem capstanlaw06_PoolOnce.tab14 : rtab .any (opsOf Tryd.f5 14) = capstanlaw06_PoolOnce.T14 := by kernel_rfl
theorem capstanlaw06_PoolOnce.bits14 : waitsOk capstanlaw06_PoolOnce.T14.2 capstanlaw06_PoolOnce.B14 = true := by kernel_rfl
set_option maxHeartbeats 8000000 in
set_option maxRecDepth 100000 in
theorem capstanlaw06_PoolOnce.calls (k : Nat) (A0 : Option Addr) (c0 : Nat) (l0 : List (S38)) (r : Bool) (w : World) (hG : Gl w) (hr0 : Kd.C k38 w A0 l0.length l0) (hc0 : l0.length ≤ c0) (h : capstanlaw06_PoolOnce.f k l0 = some r) :
    Calls Tryd.prog 5 #[.slice A0 l0.length c0] w fun e w' => e = .returned (.bool r) ∧ Below w.heap.size w w' := by
  have hu38 := Tryd.underlying38
  have HG := Aside0.mk hG
  clear hG
  have HR0 := Aside0.mk hr0
  have HC0 := Aside0.mk hc0
  clear hr0 hc0
  have HB := Aside0.mk (Below.refl w.heap.size w)
  have H : ((capstanlaw06_awake.f k).bind fun t339 => (if t339 = true then (if (l0.length : Int) > 100 then (some true) else (capstanlaw06_PoolOnce.l0 k l0 ([] : List (S38)) 0)) else (none))) = some r := h
  clear h
  replace H := Option.bind_eq_some_iff.mp H
  obtain ⟨t339, A20, H⟩ := H
  replace H : (if t339 = true then (if (l0.length : Int) > 100 then (some true) else (capstanlaw06_PoolOnce.l0 k l0 ([] : List (S38)) 0)) else (none)) = some r := H
  have A2 := Aside0.mk A20
  clear A20
  by_cases c3 : t339 = true
  · subst c3
    have H1 : (if (l0.length : Int) > 100 then (some true) else (capstanlaw06_PoolOnce.l0 k l0 ([] : List (S38)) 0)) = some r := by rw [if_pos rfl] at H; exact H
    clear H
    have H := H1
    clear H1
    by_cases c4 : (l0.length : Int) > 100
    · rw [if_pos c4] at H
      have c4b0 : decide (100 < (l0.length : Int)) = true := decide_eq_true c4
      have c4b1 : decide (100 < l0.length) = true := decide_eq_true (by omega)
      clear c4
      obtain rfl := Option.some.inj H
      go_enter Tryd.func5, Tryd.ntmps5
      go_wp2_with (first | ((with_reducible refine gate_callee (f := 9) rfl ?_); refine goesL_ (some 10) rfl rfl Tryd.func9 (by kernel_rfl) rfl #[] rfl (by (try simp only [List.map_toArray, List.map_cons, List.map_nil]); first | done | rfl | (simp only [List.length_drop, List.length_take]; rfl)) ?_; (with_reducible refine (capstanlaw06_awake.calls k  true _ ?side1 A2.out).mono ?_); (case side1 => first | exact HG.out | ((repeat (first | exact HG.out | exact Gl.below HG.out HB.out | (with_reducible refine Gl.alloc ?_ _) | (with_reducible refine Gl.drewN ?_ _) | (with_reducible refine Gl.drew ?_))); done) | exact Gl.below HG.out (by repeat (first | (with_reducible first | exact HB.out | apply below_alloc | apply pw_below_drewN | apply below_drew1) | exact HB.out | exact ⟨HB.out.os, HB.out.tape, HB.out.output, HB.out.size, HB.out.block⟩))); rintro e w5 ⟨rfl, hb⟩; refine ⟨_, rfl, ?_⟩; have n0_ := Aside0.mk (below_step (by repeat (first | (with_reducible first | exact HB.out | apply below_alloc | apply pw_below_drewN | apply below_drew1) | exact HB.out | exact ⟨HB.out.os, HB.out.tape, HB.out.output, HB.out.size, HB.out.block⟩)) hb); clear HB; have HB := n0_; clear n0_; (try clear hb); (try clear hb2); (try clear hk); (try clear hi)))
      go_ret
      exact ⟨by first | rfl | (simp [errW_none, errW_some] <;> rfl) | (simp [*, errW_none, errW_some] <;> rfl), by repeat (first | (with_reducible first | exact HB.out | apply below_alloc | apply pw_below_drewN | apply below_drew1) | exact HB.out | exact ⟨HB.out.os, HB.out.tape, HB.out.output, HB.out.size, HB.out.block⟩)⟩
    · rw [if_neg c4] at H
      have c4b0 : decide (100 < (l0.length : Int)) = false := decide_eq_false c4
      have c4b1 : decide (100 < l0.length) = false := decide_eq_false (by omega)
      clear c4
      have H' := Aside0.mk H
      clear H
      go_enter Tryd.func5, Tryd.ntmps5
      go_wp2_with (first | ((with_reducible refine gate_callee (f := 9) rfl ?_); refine goesL_ (some 10) rfl rfl Tryd.func9 (by kernel_rfl) rfl #[] rfl (by (try simp only [List.map_toArray, List.map_cons, List.map_nil]); first | done | rfl | (simp only [List.length_drop, List.length_take]; rfl)) ?_; (with_reducible refine (capstanlaw06_awake.calls k  true _ ?side1 A2.out).mono ?_); (case side1 => first | exact HG.out | ((repeat (first | exact HG.out | exact Gl.below HG.out HB.out | (with_reducible refine Gl.alloc ?_ _) | (with_reducible refine Gl.drewN ?_ _) | (with_reducible refine Gl.drew ?_))); done) | exact Gl.below HG.out (by repeat (first | (with_reducible first | exact HB.out | apply below_alloc | apply pw_below_drewN | apply below_drew1) | exact HB.out | exact ⟨HB.out.os, HB.out.tape, HB.out.output, HB.out.size, HB.out.block⟩))); rintro e w6 ⟨rfl, hb⟩; refine ⟨_, rfl, ?_⟩; have n0_ := Aside0.mk (below_step (by repeat (first | (with_reducible first | exact HB.out | apply below_alloc | apply pw_below_drewN | apply below_drew1) | exact HB.out | exact ⟨HB.out.os, HB.out.tape, HB.out.output, HB.out.size, HB.out.block⟩)) hb); clear HB; have HB := n0_; clear n0_; (try clear hb); (try clear hb2); (try clear hk); (try clear hi)))
      go_loopg [3, 4] k (fun kq v3 v4 w' => ∃ (x3_1 : List (S38)) (x4_1 : Int), v4 = .int .i64 x4_1 ∧ Aside0 (capstanlaw06_PoolOnce.l0 kq l0 x3_1 x4_1 = some r) ∧ Aside0 (kq ≤ k) ∧ Aside0 (Kd.R k38 38 w' w.heap.size (fun _ => True) v3 x3_1) ∧ Aside0 (Below w.heap.size w w'))
      case atStart => exact ⟨(([] : List (S38))), (0), (by first | rfl | (simp; done) | (simp [*]; done)), H', ⟨Nat.le_refl _⟩, ⟨by first | exact Kd.R_nil _ _ _ _ _ | exact Kd.N_nil _ _ _ _ _ | exact Kd.V_nil _ _ _ _ _ | exact Kd.Q_nil _ _ _ _ _ | exact Kd.S_nil _ _ _ _ _⟩, ⟨by repeat (first | (with_reducible first | exact HB.out | apply below_alloc | apply pw_below_drewN | apply below_drew1) | exact HB.out | exact ⟨HB.out.os, HB.out.tape, HB.out.output, HB.out.size, HB.out.block⟩)⟩⟩
      case round =>
        clear H'
        try clear p2
        try clear c3
        try clear c4
        try clear c4b0
        try clear c4b1
        try clear c5
        obtain ⟨x3_1, x4_1, rfl, HA, HK1, HO_3, HB⟩ := hrel
        cases gk with
        | zero => exact absurd HA.out (by simp [capstanlaw06_PoolOnce.l0])
        | succ k1 =>
          have H := HA.out
          clear HA
          simp only [capstanlaw06_PoolOnce.l0] at H
          by_cases c7 : x4_1 < (l0.length : Int)
          · rw [if_pos c7] at H
            have c7b0 : decide (x4_1 < (l0.length : Int)) = true := decide_eq_true c7
            clear c7
            by_cases c8 : 0 ≤ x4_1
            · rw [if_pos c8] at H
              have c8b0 : decide (0 ≤ x4_1) = true := decide_eq_true c8
              clear c8
              replace H := Option.bind_eq_some_iff.mp H
              obtain ⟨t341, A90, H⟩ := H
              replace H : ((pool_Add.f k1 x3_1 ((rd_T38 l0 x4_1).f0) ((rd_T38 l0 x4_1).f1) ((rd_T38 l0 x4_1).f2)).bind fun bt343 => (if bt343.2.2 = 0 then ((pool_May.f k1 bt343.1).bind fun t359 => (if t359 = true then (if bt343.2.1 < 0 then (none) else (if bt343.2.1 ≥ (bt343.1.length : Int) then (none) else (if 0 ≤ bt343.2.1 then (if bt343.2.1 < (bt343.1.length : Int) then (if (!(((rd_T38 bt343.1 bt343.2.1).f0) == ((rd_T38 l0 x4_1).f0)) || (!(((rd_T38 bt343.1 bt343.2.1).f1) == ((rd_T38 l0 x4_1).f1)) || (!(((rd_T38 bt343.1 bt343.2.1).f2) == ((rd_T38 l0 x4_1).f2))))) = true then (none) else ((pool_Find.f k1 bt343.1 ((rd_T38 l0 x4_1).f0) ((rd_T38 l0 x4_1).f1) ((rd_T38 l0 x4_1).f2)).bind fun t363 => (capstanlaw06_PoolOnce.j1 k1 l0 x3_1 x4_1 t341 bt343.1 bt343.2.1 (t363 != bt343.2.1)))) else (none)) else (none)))) else (none))) else (if t341 ≥ 0 then (none) else (if (bt343.1.length : Int) > 0 then (none) else ((capstanref03_Copy.f x3_1).bind fun t348 => ((some (([(⟨(rd_T38 l0 x4_1).f0, (rd_T38 l0 x4_1).f1, (rd_T38 l0 x4_1).f2⟩ : S38)] : List (S38)) : List (S38))).bind fun y352 => (if t348.length + y352.length < 5864062014805 then ((pool_May.f k1 (t348 ++ y352)).bind fun t358 => (if t358 = true then (none) else (capstanlaw06_PoolOnce.l0 k1 l0 x3_1 (wrap64 (x4_1 + 1))))) else (none)))))))) = some r := H
              have A9 := Aside0.mk A90
              clear A90
              replace H := Option.bind_eq_some_iff.mp H
              obtain ⟨⟨t343, t346, t347⟩, A100, H⟩ := H
              replace H : (if t347 = 0 then ((pool_May.f k1 t343).bind fun t359 => (if t359 = true then (if t346 < 0 then (none) else (if t346 ≥ (t343.length : Int) then (none) else (if 0 ≤ t346 then (if t346 < (t343.length : Int) then (if (!(((rd_T38 t343 t346).f0) == ((rd_T38 l0 x4_1).f0)) || (!(((rd_T38 t343 t346).f1) == ((rd_T38 l0 x4_1).f1)) || (!(((rd_T38 t343 t346).f2) == ((rd_T38 l0 x4_1).f2))))) = true then (none) else ((pool_Find.f k1 t343 ((rd_T38 l0 x4_1).f0) ((rd_T38 l0 x4_1).f1) ((rd_T38 l0 x4_1).f2)).bind fun t363 => (capstanlaw06_PoolOnce.j1 k1 l0 x3_1 x4_1 t341 t343 t346 (t363 != t346)))) else (none)) else (none)))) else (none))) else (if t341 ≥ 0 then (none) else (if (t343.length : Int) > 0 then (none) else ((capstanref03_Copy.f x3_1).bind fun t348 => ((some (([(⟨(rd_T38 l0 x4_1).f0, (rd_T38 l0 x4_1).f1, (rd_T38 l0 x4_1).f2⟩ : S38)] : List (S38)) : List (S38))).bind fun y352 => (if t348.length + y352.length < 5864062014805 then ((pool_May.f k1 (t348 ++ y352)).bind fun t358 => (if t358 = true then (none) else (capstanlaw06_PoolOnce.l0 k1 l0 x3_1 (wrap64 (x4_1 + 1))))) else (none))))))) = some r := H
              have A10 := Aside0.mk A100
              clear A100
              by_cases c11 : t347 = 0
              · rw [if_pos c11] at H
                have c11b0 : (t347 == 0) = true := beq_iff_eq.mpr c11
                have c11b1 : (t347 != 0) = false := bne_eq_false_iff_eq.mpr c11
                clear c11
                have HC12 := Aside0.mk H
                clear H
                have p340 : 0 ≤ (x4_1 : Int) := of_decide_eq_true (by first | (with_reducible assumption) | assumption)
                have q340 : x4_1 < (l0.length : Int) := of_decide_eq_true (by first | (with_reducible assumption) | assumption)
                obtain ⟨ad340, e340, hx340_0, hx340_1, hx340_2⟩ := at_T38 HR0.out x4_1 p340 q340
                cases e340
                replace hx340_0 := (HB.out.cell (World.block_lt_of_cell? w _ hx340_0)).trans hx340_0
                replace hx340_1 := (HB.out.cell (World.block_lt_of_cell? w _ hx340_1)).trans hx340_1
                replace hx340_2 := (HB.out.cell (World.block_lt_of_cell? w _ hx340_2)).trans hx340_2
                replace p340 := eq_true p340
                replace q340 := eq_true q340
                obtain ⟨Ao13, co13, eo13⟩ := Kd.R_slice HO_3.out
                subst eo13
                go_upto_region 14 with (first | ((with_reducible refine gate_callee (f := 12) rfl ?_); refine goesL_ (some 26) rfl rfl Tryd.func12 (by kernel_rfl) rfl #[.slice Ao13 x3_1.length co13, .agg #[.int .u8 ((rd_T38 l0 x4_1).f0), .int .i64 ((rd_T38 l0 x4_1).f1), .int .i64 ((rd_T38 l0 x4_1).f2)]] rfl (by (try simp only [List.map_toArray, List.map_cons, List.map_nil]); first | done | rfl | (simp only [List.length_drop, List.length_take]; rfl)) ?_; (with_reducible refine (pool_Find.calls k1 _ _ x3_1 ((rd_T38 l0 x4_1).f0) ((rd_T38 l0 x4_1).f1) ((rd_T38 l0 x4_1).f2) t341 _ ?side1 ?side2 A9.out).mono ?_); (case side1 => repeat (first | exact (Kd.R_reads' HO_3.out).2.2 | (with_reducible refine Kd.C_alloc ?_ _) | (with_reducible refine Kd.C_drewN ?_ _) | (with_reducible refine Kd.C_drew ?_))); (case side2 => exact (Kd.R_reads' HO_3.out).2.1); rintro e w14 ⟨rfl, hb⟩; refine ⟨_, rfl, ?_⟩; have n0_ := Aside0.mk (Kd.R_below (by (with_reducible repeat (first | apply Kd.R_alloc | apply Kd.R_drewN | apply Kd.R_drew)); exact HO_3.out) hb); have n1_ := Aside0.mk (below_step (by repeat (first | (with_reducible first | exact HB.out | apply below_alloc | apply pw_below_drewN | apply below_drew1) | exact HB.out | exact ⟨HB.out.os, HB.out.tape, HB.out.output, HB.out.size, HB.out.block⟩)) hb); clear HO_3; clear HB; have HO_3 := n0_; have HB := n1_; clear n0_ n1_; (try clear hb); (try clear hb2); (try clear hk); (try clear hi); have p342 : 0 ≤ (x4_1 : Int) := of_decide_eq_true (by first | (with_reducible assumption) | assumption); have q342 : x4_1 < (l0.length : Int) := of_decide_eq_true (by first | (with_reducible assumption) | assumption); obtain ⟨ad342, e342, hx342_0, hx342_1, hx342_2⟩ := at_T38 HR0.out x4_1 p342 q342; obtain rfl : ad340 = ad342 := (by injection e342); replace hx342_0 := (HB.out.cell (World.block_lt_of_cell? w _ hx342_0)).trans hx342_0; replace hx342_1 := (HB.out.cell (World.block_lt_of_cell? w _ hx342_1)).trans hx342_1; replace hx342_2 := (HB.out.cell (World.block_lt_of_cell? w _ hx342_2)).trans hx342_2; replace p342 := eq_true p342; replace q342 := eq_true q342) | ((with_reducible refine gate_callee (f := 13) rfl ?_); refine goesL_ (some 33) rfl rfl Tryd.func13 (by kernel_rfl) rfl #[.slice Ao13 x3_1.length co13, .agg #[.int .u8 ((rd_T38 l0 x4_1).f0), .int .i64 ((rd_T38 l0 x4_1).f1), .int .i64 ((rd_T38 l0 x4_1).f2)]] rfl (by (try simp only [List.map_toArray, List.map_cons, List.map_nil]); first | done | rfl | (simp only [List.length_drop, List.length_take]; rfl)) ?_; (with_reducible refine (pool_Add.calls k1 _ _ x3_1 ((rd_T38 l0 x4_1).f0) ((rd_T38 l0 x4_1).f1) ((rd_T38 l0 x4_1).f2) t343 t346 t347 _ ?side1 ?side2 A10.out).mono ?_); (case side1 => repeat (first | exact (Kd.R_reads' HO_3.out).2.2 | (with_reducible refine Kd.C_alloc ?_ _) | (with_reducible refine Kd.C_drewN ?_ _) | (with_reducible refine Kd.C_drew ?_))); (case side2 => exact (Kd.R_reads' HO_3.out).2.1); rintro e w15 ⟨v344, rfl, ho0, hb⟩; refine ⟨_, rfl, ?_⟩; have n0_ := Aside0.mk (Kd.R_elder' (by (with_reducible repeat (first | apply Kd.R_alloc | apply Kd.R_drewN | apply Kd.R_drew)); exact HO_3.out) (Kd.R_base ho0) hb); have n1_ := Aside0.mk (Kd.R_lower (Kd.R_new' ho0 (Kd.R_lt (by (with_reducible repeat (first | apply Kd.R_alloc | apply Kd.R_drewN | apply Kd.R_drew)); exact HO_3.out))) (below_size (by repeat (first | (with_reducible first | exact HB.out | apply below_alloc | apply pw_below_drewN | apply below_drew1) | exact HB.out | exact ⟨HB.out.os, HB.out.tape, HB.out.output, HB.out.size, HB.out.block⟩)))); have n2_ := Aside0.mk (below_step (by repeat (first | (with_reducible first | exact HB.out | apply below_alloc | apply pw_below_drewN | apply below_drew1) | exact HB.out | exact ⟨HB.out.os, HB.out.tape, HB.out.output, HB.out.size, HB.out.block⟩)) hb); clear HO_3; clear HB; have HO_3 := n0_; have HO345 := n1_; have HB := n2_; clear n0_ n1_ n2_; (try clear hb); (try clear hb2); (try clear hk); (try clear hi); (try clear ho0)))
                (try simp only [Act.put, List.setIfInBounds_toArray, List.set_cons_zero, List.set_cons_succ])
                go_cut [90] (fun v90 wc => ∃ (kq : Nat) (x90_11 : Bool), v90 = .bool x90_11 ∧ Aside0 (capstanlaw06_PoolOnce.j1 kq l0 x3_1 x4_1 t341 t343 t346 x90_11 = some r) ∧ Aside0 (kq ≤ k1) ∧ Aside0 (Kd.R k38 38 wc w.heap.size (fun k_ => some k_ ≠ (v344 : Value).ownBlock) (.slice Ao13 x3_1.length co13) x3_1) ∧ Aside0 (Kd.R k38 38 wc w.heap.size (fun k_ => some k_ ≠ ((.slice Ao13 x3_1.length co13) : Value).ownBlock) v344 t343) ∧ Aside0 (Below w.heap.size w wc))
                case first =>
                  have H := HC12.out
                  clear HC12
                  replace H := Option.bind_eq_some_iff.mp H
                  obtain ⟨t359, A160, H⟩ := H
                  replace H : (if t359 = true then (if t346 < 0 then (none) else (if t346 ≥ (t343.length : Int) then (none) else (if 0 ≤ t346 then (if t346 < (t343.length : Int) then (if (!(((rd_T38 t343 t346).f0) == ((rd_T38 l0 x4_1).f0)) || (!(((rd_T38 t343 t346).f1) == ((rd_T38 l0 x4_1).f1)) || (!(((rd_T38 t343 t346).f2) == ((rd_T38 l0 x4_1).f2))))) = true then (none) else ((pool_Find.f k1 t343 ((rd_T38 l0 x4_1).f0) ((rd_T38 l0 x4_1).f1) ((rd_T38 l0 x4_1).f2)).bind fun t363 => (capstanlaw06_PoolOnce.j1 k1 l0 x3_1 x4_1 t341 t343 t346 (t363 != t346)))) else (none)) else (none)))) else (none)) = some r := H
                  have A16 := Aside0.mk A160
                  clear A160
                  by_cases c17 : t359 = true
                  · subst c17
                    have H1 : (if t346 < 0 then (none) else (if t346 ≥ (t343.length : Int) then (none) else (if 0 ≤ t346 then (if t346 < (t343.length : Int) then (if (!(((rd_T38 t343 t346).f0) == ((rd_T38 l0 x4_1).f0)) || (!(((rd_T38 t343 t346).f1) == ((rd_T38 l0 x4_1).f1)) || (!(((rd_T38 t343 t346).f2) == ((rd_T38 l0 x4_1).f2))))) = true then (none) else ((pool_Find.f k1 t343 ((rd_T38 l0 x4_1).f0) ((rd_T38 l0 x4_1).f1) ((rd_T38 l0 x4_1).f2)).bind fun t363 => (capstanlaw06_PoolOnce.j1 k1 l0 x3_1 x4_1 t341 t343 t346 (t363 != t346)))) else (none)) else (none)))) = some r := by rw [if_pos rfl] at H; exact H
                    clear H
                    have H := H1
                    clear H1
                    by_cases c18 : t346 < 0
                    · rw [if_pos c18] at H
                      exact absurd H (by simp)
                    · rw [if_neg c18] at H
                      have c18b0 : decide (t346 < 0) = false := decide_eq_false c18
                      clear c18
                      (first | rw [c18b0] | (simp only [i64_w, i32_w]; rw [c18b0]) | skip)
                      by_cases c19 : t346 ≥ (t343.length : Int)
                      · rw [if_pos c19] at H
                        exact absurd H (by simp)
                      · rw [if_neg c19] at H
                        have c19b0 : decide ((t343.length : Int) ≤ t346) = false := decide_eq_false c19
                        clear c19
                        by_cases c20 : 0 ≤ t346
                        · rw [if_pos c20] at H
                          have c20b0 : decide (0 ≤ t346) = true := decide_eq_true c20
                          clear c20
                          by_cases c21 : t346 < (t343.length : Int)
                          · rw [if_pos c21] at H
                            have c21b0 : decide (t346 < (t343.length : Int)) = true := decide_eq_true c21
                            clear c21
                            by_cases c22 : (!(((rd_T38 t343 t346).f0) == ((rd_T38 l0 x4_1).f0)) || (!(((rd_T38 t343 t346).f1) == ((rd_T38 l0 x4_1).f1)) || (!(((rd_T38 t343 t346).f2) == ((rd_T38 l0 x4_1).f2))))) = true
                            · rw [if_pos c22] at H
                              exact absurd H (by simp)
                            · rw [if_neg c22] at H
                              have c22b0 : (!(((rd_T38 t343 t346).f0) == ((rd_T38 l0 x4_1).f0)) || (!(((rd_T38 t343 t346).f1) == ((rd_T38 l0 x4_1).f1)) || (!(((rd_T38 t343 t346).f2) == ((rd_T38 l0 x4_1).f2))))) = false := by simpa using c22
                              clear c22
                              replace H := Option.bind_eq_some_iff.mp H
                              obtain ⟨t363, A230, H⟩ := H
                              replace H : (capstanlaw06_PoolOnce.j1 k1 l0 x3_1 x4_1 t341 t343 t346 (t363 != t346)) = some r := H
                              have A23 := Aside0.mk A230
                              clear A230
                              have H' := Aside0.mk H
                              clear H
                              try go_wp2
                              (try (rw [drewN_self w15]; generalize hq_ : World.drewN w15 _ = w15; have n0_ : Aside0 (Kd.R k38 38 w15 w.heap.size (fun k_ => some k_ ≠ (.slice Ao13 x3_1.length co13 : Value).ownBlock) v344 t343) := ⟨by rw [← hq_]; exact (by (with_reducible repeat (first | apply Kd.R_alloc | apply Kd.R_drewN | apply Kd.R_drew)); exact Kd.R_mono HO345.out (fun _ hk => hk.2))⟩; have n1_ : Aside0 (Kd.R k38 38 w15 w.heap.size (fun k_ => some k_ ≠ (v344 : Value).ownBlock) (.slice Ao13 x3_1.length co13) x3_1) := ⟨by rw [← hq_]; exact (by (with_reducible repeat (first | apply Kd.R_alloc | apply Kd.R_drewN | apply Kd.R_drew)); exact Kd.R_mono HO_3.out (fun _ hk => hk.2))⟩; have n2_ : Aside0 (Below w.heap.size w w15) := ⟨by rw [← hq_]; exact (by repeat (first | (with_reducible first | exact HB.out | apply below_alloc | apply pw_below_drewN | apply below_drew1) | exact HB.out | exact ⟨HB.out.os, HB.out.tape, HB.out.output, HB.out.size, HB.out.block⟩))⟩; clear HO345 HO_3 HB hq_; have HO345 := n0_; have HO_3 := n1_; have HB := n2_; clear n0_ n1_ n2_))
                              have n0_ := Aside0.mk (Kd.R_drew HO_3.out)
                              have n1_ := Aside0.mk (Kd.R_drew HO345.out)
                              have n2_ := Aside0.mk (below_drew1 HB.out)
                              clear HO_3
                              clear HO345
                              clear HB
                              have HO_3 := n0_
                              have HO345 := n1_
                              have HB := n2_
                              clear n0_ n1_ n2_
                              obtain ⟨Ao25, co25, eo25⟩ := Kd.R_slice HO345.out
                              (first | subst eo25 | (injection eo25 with f1_ f2_ f3_; have f4_ := f1_.symm; have f5_ := f3_.symm; clear f1_ f2_ f3_; subst f4_; subst f5_))
                              have p360 : 0 ≤ (t346 : Int) := of_decide_eq_true (by first | (with_reducible assumption) | assumption)
                              have q360 : t346 < (t343.length : Int) := of_decide_eq_true (by first | (with_reducible assumption) | assumption)
                              obtain ⟨ad360, e360, hx360_0, hx360_1, hx360_2⟩ := at_T38 (Kd.R_reads' HO345.out).2.2 t346 p360 q360
                              cases e360
                              replace p360 := eq_true p360
                              replace q360 := eq_true q360
                              have p361 : 0 ≤ (x4_1 : Int) := of_decide_eq_true (by first | (with_reducible assumption) | assumption)
                              have q361 : x4_1 < (l0.length : Int) := of_decide_eq_true (by first | (with_reducible assumption) | assumption)
                              obtain ⟨ad361, e361, hx361_0, hx361_1, hx361_2⟩ := at_T38 HR0.out x4_1 p361 q361
                              have hw361_2 := hx361_2
                              have hw361_1 := hx361_1
                              have hw361_0 := hx361_0
                              obtain rfl : ad340 = ad361 := (by injection e361)
                              replace hx361_0 := (HB.out.cell (World.block_lt_of_cell? w _ hx361_0)).trans hx361_0
                              replace hx361_1 := (HB.out.cell (World.block_lt_of_cell? w _ hx361_1)).trans hx361_1
                              replace hx361_2 := (HB.out.cell (World.block_lt_of_cell? w _ hx361_2)).trans hx361_2
                              replace p361 := eq_true p361
                              replace q361 := eq_true q361
                              have p362 : 0 ≤ (x4_1 : Int) := of_decide_eq_true (by first | (with_reducible assumption) | assumption)
                              have q362 : x4_1 < (l0.length : Int) := of_decide_eq_true (by first | (with_reducible assumption) | assumption)
                              obtain ⟨ad362, e362, hx362_0, hx362_1, hx362_2⟩ := at_T38 HR0.out x4_1 p362 q362
                              have hw362_2 := hx362_2
                              have hw362_1 := hx362_1
                              have hw362_0 := hx362_0
                              obtain rfl : ad340 = ad362 := (by injection e362)
                              replace hx362_0 := (HB.out.cell (World.block_lt_of_cell? w _ hx362_0)).trans hx362_0
                              replace hx362_1 := (HB.out.cell (World.block_lt_of_cell? w _ hx362_1)).trans hx362_1
                              replace hx362_2 := (HB.out.cell (World.block_lt_of_cell? w _ hx362_2)).trans hx362_2
                              replace p362 := eq_true p362
                              replace q362 := eq_true q362
                              refine start_ (n := 34) (S := fun w' => w'.cell? (ad360.add ((t346).toNat * 3)) = some (.int .u8 ((rd_T38 t343 t346).f0)) ∧ w'.cell? ⟨(ad360.add ((t346).toNat * 3)).block, (ad360.add ((t346).toNat * 3)).off + 1, none⟩ = some (.int .i64 ((rd_T38 t343 t346).f1)) ∧ w'.cell? ⟨(ad360.add ((t346).toNat * 3)).block, (ad360.add ((t346).toNat * 3)).off + 2, none⟩ = some (.int .i64 ((rd_T38 t343 t346).f2)) ∧ w'.cell? (ad340.add ((x4_1).toNat * 3)) = some (.int .u8 ((rd_T38 l0 x4_1).f0)) ∧ w'.cell? ⟨(ad340.add ((x4_1).toNat * 3)).block, (ad340.add ((x4_1).toNat * 3)).off + 1, none⟩ = some (.int .i64 ((rd_T38 l0 x4_1).f1)) ∧ w'.cell? ⟨(ad340.add ((x4_1).toNat * 3)).block, (ad340.add ((x4_1).toNat * 3)).off + 2, none⟩ = some (.int .i64 ((rd_T38 l0 x4_1).f2)) ∧ w'.cell? (ad340.add ((x4_1).toNat * 3)) = some (.int .u8 ((rd_T38 l0 x4_1).f0)) ∧ w'.cell? ⟨(ad340.add ((x4_1).toNat * 3)).block, (ad340.add ((x4_1).toNat * 3)).off + 1, none⟩ = some (.int .i64 ((rd_T38 l0 x4_1).f1)) ∧ w'.cell? ⟨(ad340.add ((x4_1).toNat * 3)).block, (ad340.add ((x4_1).toNat * 3)).off + 2, none⟩ = some (.int .i64 ((rd_T38 l0 x4_1).f2))) (ds := []) #[false, false, false, false, false, false, false, false, false, false, false, false, false, false, false, false, false, false, false, false, false, false, false, false, false, false, false, false, false, false, false, false, false, false] (by kernel_rfl) rfl rfl ⟨hx360_0, hx360_1, hx360_2, ((HB.out.cell (World.block_lt_of_cell? w _ hw361_0)).trans hw361_0), ((HB.out.cell (World.block_lt_of_cell? w _ hw361_1)).trans hw361_1), ((HB.out.cell (World.block_lt_of_cell? w _ hw361_2)).trans hw361_2), ((HB.out.cell (World.block_lt_of_cell? w _ hw362_0)).trans hw362_0), ((HB.out.cell (World.block_lt_of_cell? w _ hw362_1)).trans hw362_1), ((HB.out.cell (World.block_lt_of_cell? w _ hw362_2)).trans hw362_2)⟩ (fun hHeld => ?_); refine with_tabW capstanlaw06_PoolOnce.tab14 capstanlaw06_PoolOnce.bits14 (fun HT_ HW_ => ?_)
                              generalize w15.drew = w24 at HO_3 HO345 HB hx360_0 hx360_1 hx360_2 hx361_0 hx361_1 hx361_2 hx362_0 hx362_1 hx362_2 hHeld ⊢
                              refine pure_ (i := 0) (N := some 57) (v := ?_) (a' := ?_) #[true, false, false, false, false, false, false, false, false, false, false, false, false, false, false, false, false, false, false, false, false, false, false, false, false, false, false, false, false, false, false, false, false, false] rfl rfl (any_of HT_.out (by kernel_rfl)) (fun _ _ _ h => h) (Or.inl ⟨by rfl, ?_⟩) ?_ ?_
                              rotate_left
                              · intro w'
                                go_simp
                                with_reducible rfl
                              rotate_left
                              · simp only [Act.put, List.setIfInBounds_toArray, List.set_cons_zero, List.set_cons_succ, i64_w, i32_w]
                                rfl
                              refine one_ (i := 1) (N := some 58) #[true, true, false, false, false, false, false, false, false, false, false, false, false, false, false, false, false, false, false, false, false, false, false, false, false, false, false, false, false, false, false, false, false, false] rfl rfl (one_of HT_.out (by kernel_rfl)) (by decide) (fun K hK => ?_)
                              refine goes_ Tryd.func11 (by kernel_rfl) rfl #[.slice (some ad360) t343.length co25] (by rfl) rfl rfl (by (try simp only [List.map_toArray, List.map_cons, List.map_nil]); first | done | rfl | (simp only [List.length_drop, List.length_take]; rfl)) ?_
                              with_reducible refine (pool_May.calls k1 _ _ t343 true _ ?side1 ?side2 A16.out).mono ?_
                              (case side1 => repeat (first | exact (Kd.R_reads' HO345.out).2.2 | (with_reducible refine Kd.C_alloc ?_ _) | (with_reducible refine Kd.C_drewN ?_ _) | (with_reducible refine Kd.C_drew ?_)))
                              (case side2 => exact (Kd.R_reads' HO345.out).2.1)
                              rintro e w26 ⟨rfl, hb⟩
                              have HS0_ := (hb.cell (World.block_lt_of_cell? _ _ (hHeld.1))).trans (hHeld.1)
                              have HS1_ := (hb.cell (World.block_lt_of_cell? _ _ (hHeld.2.1))).trans (hHeld.2.1)
                              have HS2_ := (hb.cell (World.block_lt_of_cell? _ _ (hHeld.2.2.1))).trans (hHeld.2.2.1)
                              refine ⟨_, rfl, ?_⟩
                              have n0_ := Aside0.mk (Kd.R_below (by (with_reducible repeat (first | apply Kd.R_alloc | apply Kd.R_drewN | apply Kd.R_drew)); exact HO_3.out) hb)
                              have n1_ := Aside0.mk (Kd.R_below (by (with_reducible repeat (first | apply Kd.R_alloc | apply Kd.R_drewN | apply Kd.R_drew)); exact HO345.out) hb)
                              have n2_ := Aside0.mk (below_step (by repeat (first | (with_reducible first | exact HB.out | apply below_alloc | apply pw_below_drewN | apply below_drew1) | exact HB.out | exact ⟨HB.out.os, HB.out.tape, HB.out.output, HB.out.size, HB.out.block⟩)) hb)
                              clear HO_3
                              clear HO345
                              clear HB
                              have HO_3 := n0_
                              have HO345 := n1_
                              have HB := n2_
                              clear n0_ n1_ n2_
                              (try clear hb)
                              (try clear hb2)
                              (try clear hk)
                              (try clear hi)
                              refine hK.out _ _ ⟨HS0_, HS1_, HS2_, ((HB.out.cell (World.block_lt_of_cell? w _ hw361_0)).trans hw361_0), ((HB.out.cell (World.block_lt_of_cell? w _ hw361_1)).trans hw361_1), ((HB.out.cell (World.block_lt_of_cell? w _ hw361_2)).trans hw361_2), ((HB.out.cell (World.block_lt_of_cell? w _ hw362_0)).trans hw362_0), ((HB.out.cell (World.block_lt_of_cell? w _ hw362_1)).trans hw362_1), ((HB.out.cell (World.block_lt_of_cell? w _ hw362_2)).trans hw362_2)⟩ (fun hHeld => ?_)
                              clear hK K
                              refine norm_ (a' := ?_) ?_ ?_
                              rotate_left
                              · show Act.put _ (some 58) _ = _
                                simp only [Act.put, List.setIfInBounds_toArray, List.set_cons_zero, List.set_cons_succ, i64_w, i32_w]
                                rfl
                              refine pure_ (i := 2) (N := some 59) (v := ?_) (a' := ?_) #[true, true, true, false, false, false, false, false, false, false, false, false, false, false, false, false, false, false, false, false, false, false, false, false, false, false, false, false, false, false, false, false, false, false] rfl rfl (any_of HT_.out (by kernel_rfl)) (fun _ _ _ h => h) (Or.inl ⟨by rfl, ?_⟩) ?_ ?_
                              rotate_left
                              · intro w'
                                go_simp
                                with_reducible rfl
                              rotate_left
                              · simp only [Act.put, List.setIfInBounds_toArray, List.set_cons_zero, List.set_cons_succ, i64_w, i32_w]
                                rfl
                              refine pure_ (i := 3) (N := some 60) (v := ?_) (a' := ?_) #[true, true, true, true, false, false, false, false, false, false, false, false, false, false, false, false, false, false, false, false, false, false, false, false, false, false, false, false, false, false, false, false, false, false] rfl rfl (any_of HT_.out (by kernel_rfl)) (fun _ _ _ h => h) (Or.inl ⟨by rfl, ?_⟩) ?_ ?_
                              rotate_left
                              · intro w'
                                go_simp
                                with_reducible rfl
                              rotate_left
                              · simp only [Act.put, List.setIfInBounds_toArray, List.set_cons_zero, List.set_cons_succ, i64_w, i32_w]
                                rfl
                              refine pure_ (i := 4) (N := some 61) (v := ?_) (a' := ?_) #[true, true, true, true, true, false, false, false, false, false, false, false, false, false, false, false, false, false, false, false, false, false, false, false, false, false, false, false, false, false, false, false, false, false] rfl rfl (any_of HT_.out (by kernel_rfl)) (fun _ _ _ h => h) (Or.inl ⟨by rfl, ?_⟩) ?_ ?_
                              rotate_left
                              · intro w'
                                go_simp
                                with_reducible rfl
                              rotate_left
                              · simp only [Act.put, List.setIfInBounds_toArray, List.set_cons_zero, List.set_cons_succ, i64_w, i32_w]
                                rfl
                              refine pure_ (i := 5) (N := some 62) (v := ?_) (a' := ?_) #[true, true, true, true, true, true, false, false, false, false, false, false, false, false, false, false, false, false, false, false, false, false, false, false, false, false, false, false, false, false, false, false, false, false] rfl rfl (any_of HT_.out (by kernel_rfl)) (fun _ _ _ h => h) (Or.inl ⟨by rfl, ?_⟩) ?_ ?_
                              rotate_left
                              · intro w'
                                go_simp
                                with_reducible rfl
                              rotate_left
                              · simp only [Act.put, List.setIfInBounds_toArray, List.set_cons_zero, List.set_cons_succ, i64_w, i32_w]
                                rfl
                              refine pure_ (i := 6) (N := some 63) (v := ?_) (a' := ?_) #[true, true, true, true, true, true, true, false, false, false, false, false, false, false, false, false, false, false, false, false, false, false, false, false, false, false, false, false, false, false, false, false, false, false] rfl rfl (any_of HT_.out (by kernel_rfl)) (fun _ _ _ h => h) (Or.inl ⟨by rfl, ?_⟩) ?_ ?_
                              rotate_left
                              · intro w'
                                go_simp
                                with_reducible rfl
                              rotate_left
                              · simp only [Act.put, List.setIfInBounds_toArray, List.set_cons_zero, List.set_cons_succ, i64_w, i32_w]
                                rfl
                              refine pure_ (i := 7) (N := some 64) (v := ?_) (a' := ?_) #[true, true, true, true, true, true, true, true, false, false, false, false, false, false, false, false, false, false, false, false, false, false, false, false, false, false, false, false, false, false, false, false, false, false] rfl rfl (any_of HT_.out (by kernel_rfl)) (fun _ _ _ h => h) (Or.inl ⟨by rfl, ?_⟩) ?_ ?_
                              rotate_left
                              · intro w'
                                go_simp
                                with_reducible rfl
                              rotate_left
                              · simp only [Act.put, List.setIfInBounds_toArray, List.set_cons_zero, List.set_cons_succ, i64_w, i32_w]
                                rfl
                              refine pure_ (i := 8) (N := some 65) (v := ?_) (a' := ?_) #[true, true, true, true, true, true, true, true, true, false, false, false, false, false, false, false, false, false, false, false, false, false, false, false, false, false, false, false, false, false, false, false, false, false] rfl rfl (any_of HT_.out (by kernel_rfl)) (fun _ _ _ h => h) (Or.inl ⟨by rfl, ?_⟩) ?_ ?_
                              rotate_left
                              · intro w'
                                go_simp
                                with_reducible rfl
                              rotate_left
                              · simp only [Act.put, List.setIfInBounds_toArray, List.set_cons_zero, List.set_cons_succ, i64_w, i32_w]
                                rfl
                              refine pure_ (i := 9) (N := some 66) (v := ?_) (a' := ?_) #[true, true, true, true, true, true, true, true, true, true, false, false, false, false, false, false, false, false, false, false, false, false, false, false, false, false, false, false, false, false, false, false, false, false] rfl rfl (any_of HT_.out (by kernel_rfl)) (fun _ _ _ h => h) (Or.inl ⟨by rfl, ?_⟩) ?_ ?_
                              rotate_left
                              · intro w'
                                go_simp
                                with_reducible rfl
                              rotate_left
                              · simp only [Act.put, List.setIfInBounds_toArray, List.set_cons_zero, List.set_cons_succ, i64_w, i32_w]
                                rfl
                              refine pure_ (i := 10) (N := some 67) (v := ?_) (a' := ?_) #[true, true, true, true, true, true, true, true, true, true, true, false, false, false, false, false, false, false, false, false, false, false, false, false, false, false, false, false, false, false, false, false, false, false] rfl rfl (any_of HT_.out (by kernel_rfl)) (fun _ _ _ h => h) (Or.inl ⟨by rfl, ?_⟩) ?_ ?_
                              rotate_left
                              · intro w'
                                go_simp
                                with_reducible rfl
                              rotate_left
                              · simp only [Act.put, List.setIfInBounds_toArray, List.set_cons_zero, List.set_cons_succ, i64_w, i32_w]
                                rfl
                              refine pure_ (i := 11) (N := some 68) (v := ?_) (a' := ?_) #[true, true, true, true, true, true, true, true, true, true, true, true, false, false, false, false, false, false, false, false, false, false, false, false, false, false, false, false, false, false, false, false, false, false] rfl rfl (any_of HT_.out (by kernel_rfl)) (fun _ _ _ h => h) (Or.inl ⟨by rfl, ?_⟩) ?_ ?_
                              rotate_left
                              · intro w'
                                go_simp
                                with_reducible rfl
                              rotate_left
                              · simp only [Act.put, List.setIfInBounds_toArray, List.set_cons_zero, List.set_cons_succ, i64_w, i32_w]
                                rfl
                              refine pure_ (i := 12) (N := some 69) (v := ?_) (a' := ?_) #[true, true, true, true, true, true, true, true, true, true, true, true, true, false, false, false, false, false, false, false, false, false, false, false, false, false, false, false, false, false, false, false, false, false] rfl rfl (any_of HT_.out (by kernel_rfl)) (fun _ _ _ h => h) (Or.inl ⟨by rfl, ?_⟩) ?_ ?_
                              rotate_left
                              · intro w'
                                go_simp
                                with_reducible rfl
                              rotate_left
                              · simp only [Act.put, List.setIfInBounds_toArray, List.set_cons_zero, List.set_cons_succ, i64_w, i32_w]
                                rfl
                              refine pure_ (i := 13) (N := some 70) (v := ?_) (a' := ?_) #[true, true, true, true, true, true, true, true, true, true, true, true, true, true, false, false, false, false, false, false, false, false, false, false, false, false, false, false, false, false, false, false, false, false] rfl rfl (any_of HT_.out (by kernel_rfl)) (fun _ _ _ h => h) (Or.inl ⟨by rfl, ?_⟩) ?_ ?_
                              rotate_left
                              · intro w'
                                go_simp
                                with_reducible rfl
                              rotate_left
                              · simp only [Act.put, List.setIfInBounds_toArray, List.set_cons_zero, List.set_cons_succ, i64_w, i32_w]
                                rfl
                              refine pure_ (i := 14) (N := some 71) (v := ?_) (a' := ?_) #[true, true, true, true, true, true, true, true, true, true, true, true, true, true, true, false, false, false, false, false, false, false, false, false, false, false, false, false, false, false, false, false, false, false] rfl rfl (any_of HT_.out (by kernel_rfl)) (fun _ _ _ h => h) (Or.inl ⟨by rfl, ?_⟩) ?_ ?_
                              rotate_left
                              · intro w'
                                go_simp
                                with_reducible rfl
                              rotate_left
                              · simp only [Act.put, List.setIfInBounds_toArray, List.set_cons_zero, List.set_cons_succ, i64_w, i32_w]
                                rfl
                              refine pure_ (i := 15) (N := some 72) (v := ?_) (a' := ?_) #[true, true, true, true, true, true, true, true, true, true, true, true, true, true, true, true, false, false, false, false, false, false, false, false, false, false, false, false, false, false, false, false, false, false] rfl rfl (any_of HT_.out (by kernel_rfl)) (fun _ _ _ h => h) (Or.inl ⟨by rfl, ?_⟩) ?_ ?_
                              rotate_left
                              · intro w'
                                go_simp
                                with_reducible rfl
                              rotate_left
                              · simp only [Act.put, List.setIfInBounds_toArray, List.set_cons_zero, List.set_cons_succ, i64_w, i32_w]
                                rfl
                              refine pure_ (i := 16) (N := some 73) (v := ?_) (a' := ?_) #[true, true, true, true, true, true, true, true, true, true, true, true, true, true, true, true, true, false, false, false, false, false, false, false, false, false, false, false, false, false, false, false, false, false] rfl rfl (any_of HT_.out (by kernel_rfl)) (fun _ _ _ h => h) (Or.inl ⟨by rfl, ?_⟩) ?_ ?_
                              rotate_left
                              · intro w'
                                go_simp
                                with_reducible rfl
                              rotate_left
                              · simp only [Act.put, List.setIfInBounds_toArray, List.set_cons_zero, List.set_cons_succ, i64_w, i32_w]
                                rfl
                              refine pure_ (i := 18) (N := some 75) (v := ?_) (a' := ?_) #[true, true, true, true, true, true, true, true, true, true, true, true, true, true, true, true, true, false, true, false, false, false, false, false, false, false, false, false, false, false, false, false, false, false] rfl rfl (any_of HT_.out (by kernel_rfl)) (fun _ _ _ h => h) (Or.inl ⟨by rfl, ?_⟩) ?_ ?_
                              rotate_left
                              · intro w'
                                go_simp
                                with_reducible rfl
                              rotate_left
                              · simp only [Act.put, List.setIfInBounds_toArray, List.set_cons_zero, List.set_cons_succ, i64_w, i32_w]
                                rfl
                              refine pure_ (i := 19) (N := some 76) (v := ?_) (a' := ?_) #[true, true, true, true, true, true, true, true, true, true, true, true, true, true, true, true, true, false, true, true, false, false, false, false, false, false, false, false, false, false, false, false, false, false] rfl rfl (any_of HT_.out (by kernel_rfl)) (fun _ _ _ h => h) (Or.inl ⟨by rfl, ?_⟩) ?_ ?_
                              rotate_left
                              · intro w'
                                go_simp
                                with_reducible rfl
                              rotate_left
                              · simp only [Act.put, List.setIfInBounds_toArray, List.set_cons_zero, List.set_cons_succ, i64_w, i32_w]
                                rfl
                              refine pure_ (i := 20) (N := some 77) (v := ?_) (a' := ?_) #[true, true, true, true, true, true, true, true, true, true, true, true, true, true, true, true, true, false, true, true, true, false, false, false, false, false, false, false, false, false, false, false, false, false] rfl rfl (any_of HT_.out (by kernel_rfl)) (fun _ _ _ h => h) (Or.inl ⟨by rfl, ?_⟩) ?_ ?_
                              rotate_left
                              · intro w'
                                go_simp
                                with_reducible rfl
                              rotate_left
                              · simp only [Act.put, List.setIfInBounds_toArray, List.set_cons_zero, List.set_cons_succ, i64_w, i32_w]
                                rfl
                              refine take_ (i := 17) (N := some 74) (v := ?_) (a' := ?_) #[true, true, true, true, true, true, true, true, true, true, true, true, true, true, true, true, true, true, true, true, true, false, false, false, false, false, false, false, false, false, false, false, false, false] rfl rfl (take_ofW HT_.out HW_.out (by kernel_rfl)) (fun _ _ _ h => h) (Or.inl ⟨by rfl, ?_⟩) hHeld ?_ ?_
                              rotate_left
                              · rintro w' ⟨s0, s1, s2, s3, s4, s5, s6, s7, s8⟩
                                go_simp
                                with_reducible rfl
                              rotate_left
                              · simp only [Act.put, List.setIfInBounds_toArray, List.set_cons_zero, List.set_cons_succ, i64_w, i32_w]
                                rfl
                              refine take_ (i := 21) (N := some 78) (v := ?_) (a' := ?_) #[true, true, true, true, true, true, true, true, true, true, true, true, true, true, true, true, true, true, true, true, true, true, false, false, false, false, false, false, false, false, false, false, false, false] rfl rfl (take_ofW HT_.out HW_.out (by kernel_rfl)) (fun _ _ _ h => h) (Or.inl ⟨by rfl, ?_⟩) hHeld ?_ ?_
                              rotate_left
                              · rintro w' ⟨s0, s1, s2, s3, s4, s5, s6, s7, s8⟩
                                go_simp
                                with_reducible rfl
                              rotate_left
                              · simp only [Act.put, List.setIfInBounds_toArray, List.set_cons_zero, List.set_cons_succ, i64_w, i32_w]
                                rfl
                              refine pure_ (i := 22) (N := some 79) (v := ?_) (a' := ?_) #[true, true, true, true, true, true, true, true, true, true, true, true, true, true, true, true, true, true, true, true, true, true, true, false, false, false, false, false, false, false, false, false, false, false] rfl rfl (any_of HT_.out (by kernel_rfl)) (fun _ _ _ h => h) (Or.inl ⟨by rfl, ?_⟩) ?_ ?_
                              rotate_left
                              · intro w'
                                go_simp
                                with_reducible rfl
                              rotate_left
                              · simp only [Act.put, List.setIfInBounds_toArray, List.set_cons_zero, List.set_cons_succ, i64_w, i32_w]
                                rfl
                              refine pure_ (i := 23) (N := some 80) (v := ?_) (a' := ?_) #[true, true, true, true, true, true, true, true, true, true, true, true, true, true, true, true, true, true, true, true, true, true, true, true, false, false, false, false, false, false, false, false, false, false] rfl rfl (any_of HT_.out (by kernel_rfl)) (fun _ _ _ h => h) (Or.inl ⟨by rfl, ?_⟩) ?_ ?_
                              rotate_left
                              · intro w'
                                go_simp
                                with_reducible rfl
                              rotate_left
                              · simp only [Act.put, List.setIfInBounds_toArray, List.set_cons_zero, List.set_cons_succ, i64_w, i32_w]
                                rfl
                              refine pure_ (i := 24) (N := some 81) (v := ?_) (a' := ?_) #[true, true, true, true, true, true, true, true, true, true, true, true, true, true, true, true, true, true, true, true, true, true, true, true, true, false, false, false, false, false, false, false, false, false] rfl rfl (any_of HT_.out (by kernel_rfl)) (fun _ _ _ h => h) (Or.inl ⟨by rfl, ?_⟩) ?_ ?_
                              rotate_left
                              · intro w'
                                go_simp
                                with_reducible rfl
                              rotate_left
                              · simp only [Act.put, List.setIfInBounds_toArray, List.set_cons_zero, List.set_cons_succ, i64_w, i32_w]
                                rfl
                              refine pure_ (i := 25) (N := some 82) (v := ?_) (a' := ?_) #[true, true, true, true, true, true, true, true, true, true, true, true, true, true, true, true, true, true, true, true, true, true, true, true, true, true, false, false, false, false, false, false, false, false] rfl rfl (any_of HT_.out (by kernel_rfl)) (fun _ _ _ h => h) (Or.inl ⟨by rfl, ?_⟩) ?_ ?_
                              rotate_left
                              · intro w'
                                go_simp
                                with_reducible rfl
                              rotate_left
                              · simp only [Act.put, List.setIfInBounds_toArray, List.set_cons_zero, List.set_cons_succ, i64_w, i32_w]
                                rfl
                              refine pure_ (i := 26) (N := some 83) (v := ?_) (a' := ?_) #[true, true, true, true, true, true, true, true, true, true, true, true, true, true, true, true, true, true, true, true, true, true, true, true, true, true, true, false, false, false, false, false, false, false] rfl rfl (any_of HT_.out (by kernel_rfl)) (fun _ _ _ h => h) (Or.inl ⟨by rfl, ?_⟩) ?_ ?_
                              rotate_left
                              · intro w'
                                go_simp
                                with_reducible rfl
                              rotate_left
                              · simp only [Act.put, List.setIfInBounds_toArray, List.set_cons_zero, List.set_cons_succ, i64_w, i32_w]
                                rfl
                              refine pure_ (i := 27) (N := some 84) (v := ?_) (a' := ?_) #[true, true, true, true, true, true, true, true, true, true, true, true, true, true, true, true, true, true, true, true, true, true, true, true, true, true, true, true, false, false, false, false, false, false] rfl rfl (any_of HT_.out (by kernel_rfl)) (fun _ _ _ h => h) (Or.inl ⟨by rfl, ?_⟩) ?_ ?_
                              rotate_left
                              · intro w'
                                go_simp
                                with_reducible rfl
                              rotate_left
                              · simp only [Act.put, List.setIfInBounds_toArray, List.set_cons_zero, List.set_cons_succ, i64_w, i32_w]
                                rfl
                              refine pure_ (i := 28) (N := some 85) (v := ?_) (a' := ?_) #[true, true, true, true, true, true, true, true, true, true, true, true, true, true, true, true, true, true, true, true, true, true, true, true, true, true, true, true, true, false, false, false, false, false] rfl rfl (any_of HT_.out (by kernel_rfl)) (fun _ _ _ h => h) (Or.inl ⟨by rfl, ?_⟩) ?_ ?_
                              rotate_left
                              · intro w'
                                go_simp
                                with_reducible rfl
                              rotate_left
                              · simp only [Act.put, List.setIfInBounds_toArray, List.set_cons_zero, List.set_cons_succ, i64_w, i32_w]
                                rfl
                              refine pure_ (i := 31) (N := some 88) (v := ?_) (a' := ?_) #[true, true, true, true, true, true, true, true, true, true, true, true, true, true, true, true, true, true, true, true, true, true, true, true, true, true, true, true, true, false, false, true, false, false] rfl rfl (any_of HT_.out (by kernel_rfl)) (fun _ _ _ h => h) (Or.inl ⟨by rfl, ?_⟩) ?_ ?_
                              rotate_left
                              · intro w'
                                go_simp
                                with_reducible rfl
                              rotate_left
                              · simp only [Act.put, List.setIfInBounds_toArray, List.set_cons_zero, List.set_cons_succ, i64_w, i32_w]
                                rfl
                              refine take_ (i := 29) (N := some 86) (v := ?_) (a' := ?_) #[true, true, true, true, true, true, true, true, true, true, true, true, true, true, true, true, true, true, true, true, true, true, true, true, true, true, true, true, true, true, false, true, false, false] rfl rfl (take_ofW HT_.out HW_.out (by kernel_rfl)) (fun _ _ _ h => h) (Or.inl ⟨by rfl, ?_⟩) hHeld ?_ ?_
                              rotate_left
                              · rintro w' ⟨s0, s1, s2, s3, s4, s5, s6, s7, s8⟩
                                go_simp
                                with_reducible rfl
                              rotate_left
                              · simp only [Act.put, List.setIfInBounds_toArray, List.set_cons_zero, List.set_cons_succ, i64_w, i32_w]
                                rfl
                              refine one_ (i := 30) (N := some 87) #[true, true, true, true, true, true, true, true, true, true, true, true, true, true, true, true, true, true, true, true, true, true, true, true, true, true, true, true, true, true, true, true, false, false] rfl rfl (one_of HT_.out (by kernel_rfl)) (by decide) (fun K hK => ?_)
                              refine goes_ Tryd.func12 (by kernel_rfl) rfl #[.slice (some ad360) t343.length co25, .agg #[.int .u8 ((rd_T38 l0 x4_1).f0), .int .i64 ((rd_T38 l0 x4_1).f1), .int .i64 ((rd_T38 l0 x4_1).f2)]] (by rfl) rfl rfl (by (try simp only [List.map_toArray, List.map_cons, List.map_nil]); first | done | rfl | (simp only [List.length_drop, List.length_take]; rfl)) ?_
                              with_reducible refine (pool_Find.calls k1 _ _ t343 ((rd_T38 l0 x4_1).f0) ((rd_T38 l0 x4_1).f1) ((rd_T38 l0 x4_1).f2) t363 _ ?side1 ?side2 A23.out).mono ?_
                              (case side1 => repeat (first | exact (Kd.R_reads' HO345.out).2.2 | (with_reducible refine Kd.C_alloc ?_ _) | (with_reducible refine Kd.C_drewN ?_ _) | (with_reducible refine Kd.C_drew ?_)))
                              (case side2 => exact (Kd.R_reads' HO345.out).2.1)
                              rintro e w27 ⟨rfl, hb⟩
                              have HS0_ := (hb.cell (World.block_lt_of_cell? _ _ (hHeld.1))).trans (hHeld.1)
                              have HS1_ := (hb.cell (World.block_lt_of_cell? _ _ (hHeld.2.1))).trans (hHeld.2.1)
                              have HS2_ := (hb.cell (World.block_lt_of_cell? _ _ (hHeld.2.2.1))).trans (hHeld.2.2.1)
                              refine ⟨_, rfl, ?_⟩
                              have n0_ := Aside0.mk (Kd.R_below (by (with_reducible repeat (first | apply Kd.R_alloc | apply Kd.R_drewN | apply Kd.R_drew)); exact HO_3.out) hb)
                              have n1_ := Aside0.mk (Kd.R_below (by (with_reducible repeat (first | apply Kd.R_alloc | apply Kd.R_drewN | apply Kd.R_drew)); exact HO345.out) hb)
                              have n2_ := Aside0.mk (below_step (by repeat (first | (with_reducible first | exact HB.out | apply below_alloc | apply pw_below_drewN | apply below_drew1) | exact HB.out | exact ⟨HB.out.os, HB.out.tape, HB.out.output, HB.out.size, HB.out.block⟩)) hb)
                              clear HO_3
                              clear HO345
                              clear HB
                              have HO_3 := n0_
                              have HO345 := n1_
                              have HB := n2_
                              clear n0_ n1_ n2_
                              (try clear hb)
                              (try clear hb2)
                              (try clear hk)
                              (try clear hi)
                              refine hK.out _ _ ⟨HS0_, HS1_, HS2_, ((HB.out.cell (World.block_lt_of_cell? w _ hw361_0)).trans hw361_0), ((HB.out.cell (World.block_lt_of_cell? w _ hw361_1)).trans hw361_1), ((HB.out.cell (World.block_lt_of_cell? w _ hw361_2)).trans hw361_2), ((HB.out.cell (World.block_lt_of_cell? w _ hw362_0)).trans hw362_0), ((HB.out.cell (World.block_lt_of_cell? w _ hw362_1)).trans hw362_1), ((HB.out.cell (World.block_lt_of_cell? w _ hw362_2)).trans hw362_2)⟩ (fun hHeld => ?_)
                              clear hK K
                              refine norm_ (a' := ?_) ?_ ?_
                              rotate_left
                              · show Act.put _ (some 87) _ = _
                                simp only [Act.put, List.setIfInBounds_toArray, List.set_cons_zero, List.set_cons_succ, i64_w, i32_w]
                                rfl
                              refine pure_ (i := 32) (N := some 89) (v := ?_) (a' := ?_) #[true, true, true, true, true, true, true, true, true, true, true, true, true, true, true, true, true, true, true, true, true, true, true, true, true, true, true, true, true, true, true, true, true, false] rfl rfl (any_of HT_.out (by kernel_rfl)) (fun _ _ _ h => h) (Or.inl ⟨by rfl, ?_⟩) ?_ ?_
                              rotate_left
                              · intro w'
                                go_simp
                                with_reducible rfl
                              rotate_left
                              · simp only [Act.put, List.setIfInBounds_toArray, List.set_cons_zero, List.set_cons_succ, i64_w, i32_w]
                                rfl
                              refine pure_ (i := 33) (N := some 90) (v := ?_) (a' := ?_) #[true, true, true, true, true, true, true, true, true, true, true, true, true, true, true, true, true, true, true, true, true, true, true, true, true, true, true, true, true, true, true, true, true, true] rfl rfl (any_of HT_.out (by kernel_rfl)) (fun _ _ _ h => h) (Or.inl ⟨by rfl, ?_⟩) ?_ ?_
                              rotate_left
                              · intro w'
                                go_simp
                                with_reducible rfl
                              rotate_left
                              · simp only [Act.put, List.setIfInBounds_toArray, List.set_cons_zero, List.set_cons_succ, i64_w, i32_w]
                                rfl
                              refine done_ (done_of HT_.out (by kernel_rfl)) ?_
                              try go_wp2
                              go_meet
                              case rel => exact ⟨_, ((t363 != t346)), (by first | rfl | (simp; done) | (simp [*]; done)), H', ⟨by have := HK1.out; first | omega | exact Nat.le_refl _⟩, ⟨by (with_reducible repeat (first | apply Kd.R_alloc | apply Kd.R_drewN | apply Kd.R_drew)); exact Kd.R_mono HO_3.out (fun _ hk => hk.2)⟩, ⟨by (with_reducible repeat (first | apply Kd.R_alloc | apply Kd.R_drewN | apply Kd.R_drew)); exact Kd.R_mono HO345.out (fun _ hk => hk.2)⟩, ⟨by repeat (first | (with_reducible first | exact HB.out | apply below_alloc | apply pw_below_drewN | apply below_drew1) | exact HB.out | exact ⟨HB.out.os, HB.out.tape, HB.out.output, HB.out.size, HB.out.block⟩)⟩⟩
                          · rw [if_neg c21] at H
                            exact absurd H (by simp)
                        · rw [if_neg c20] at H
                          exact absurd H (by simp)
                  · replace c17 := Bool.eq_false_iff.mpr c17
                    subst c17
                    have H1 : (none) = some r := by rw [if_neg (show ¬ (false = true) by decide)] at H; exact H
                    clear H
                    have H := H1
                    clear H1
                    exact absurd H (by simp)
                case rest =>
                  clear HC12
                  try clear c1
                  try clear c2
                  try clear p2
                  try clear c3
                  try clear p3
                  try clear q3
                  try clear hx3
                  try clear c4
                  try clear c4b0
                  try clear c4b1
                  try clear c5
                  try clear p6
                  try clear c7
                  try clear c7b0
                  try clear c8
                  try clear c8b0
                  try clear c9
                  try clear c11
                  try clear c11b0
                  try clear c11b1
                  try clear c12
                  try clear c13
                  try clear c17
                  try clear c18
                  try clear c18b0
                  try clear c19
                  try clear c19b0
                  try clear c20
                  try clear c20b0
                  try clear c21
                  try clear c21b0
                  try clear c22
                  try clear c22b0
                  try clear hx340_0
                  try clear hx340_1
                  try clear hx340_2
                  try clear hx342_0
                  try clear hx342_1
                  try clear hx342_2
                  try clear hx360_0
                  try clear hx360_1
                  try clear hx360_2
                  try clear hx361_0
                  try clear hx361_1
                  try clear hx361_2
                  try clear hx362_0
                  try clear hx362_1
                  try clear hx362_2
                  try clear p2
                  try clear p340
                  try clear p342
                  try clear p360
                  try clear p361
                  try clear p362
                  try clear q340
                  try clear q342
                  try clear q360
                  try clear q361
                  try clear q362
                  obtain ⟨kq, x90_11, rfl, HA, HJ11, HO_3, HO_6, HB⟩ := hcut
                  cases kq with
                  | zero => exact absurd HA.out (by simp [capstanlaw06_PoolOnce.j1])
                  | succ kj11 =>
                    have H := HA.out
                    clear HA
                    simp only [capstanlaw06_PoolOnce.j1] at H
                    by_cases c28 : x90_11 = true
                    · subst c28
                      have H1 : (none) = some r := by rw [if_pos rfl] at H; exact H
                      clear H
                      have H := H1
                      clear H1
                      exact absurd H (by simp)
                    · replace c28 := Bool.eq_false_iff.mpr c28
                      subst c28
                      have H1 : (if t341 ≥ 0 then (if t346 = t341 then (if (t343.length : Int) = (x3_1.length : Int) then (if t341 < 0 then (if t346 = (x3_1.length : Int) then (if (t343.length : Int) = (wrap64 ((x3_1.length : Int) + 1)) then (if (t343.length : Int) < (x3_1.length : Int) then (none) else (if 0 ≤ (x3_1.length : Int) then (if (x3_1.length : Int) ≤ (t343.length : Int) then ((capstanref03_Same.f kj11 (t343.take ((x3_1.length : Int) : Int).toNat) x3_1).bind fun t368 => (if t368 = true then (capstanlaw06_PoolOnce.l0 kj11 l0 t343 (wrap64 (x4_1 + 1))) else (none))) else (none)) else (none))) else (none)) else (none)) else (if (t343.length : Int) < (x3_1.length : Int) then (none) else (if 0 ≤ (x3_1.length : Int) then (if (x3_1.length : Int) ≤ (t343.length : Int) then ((capstanref03_Same.f kj11 (t343.take ((x3_1.length : Int) : Int).toNat) x3_1).bind fun t373 => (if t373 = true then (capstanlaw06_PoolOnce.l0 kj11 l0 t343 (wrap64 (x4_1 + 1))) else (none))) else (none)) else (none)))) else (none)) else (none)) else (if t341 < 0 then (if t346 = (x3_1.length : Int) then (if (t343.length : Int) = (wrap64 ((x3_1.length : Int) + 1)) then (if (t343.length : Int) < (x3_1.length : Int) then (none) else (if 0 ≤ (x3_1.length : Int) then (if (x3_1.length : Int) ≤ (t343.length : Int) then ((capstanref03_Same.f kj11 (t343.take ((x3_1.length : Int) : Int).toNat) x3_1).bind fun t378 => (if t378 = true then (capstanlaw06_PoolOnce.l0 kj11 l0 t343 (wrap64 (x4_1 + 1))) else (none))) else (none)) else (none))) else (none)) else (none)) else (if (t343.length : Int) < (x3_1.length : Int) then (none) else (if 0 ≤ (x3_1.length : Int) then (if (x3_1.length : Int) ≤ (t343.length : Int) then ((capstanref03_Same.f kj11 (t343.take ((x3_1.length : Int) : Int).toNat) x3_1).bind fun t383 => (if t383 = true then (capstanlaw06_PoolOnce.l0 kj11 l0 t343 (wrap64 (x4_1 + 1))) else (none))) else (none)) else (none))))) = some r := by rw [if_neg (show ¬ (false = true) by decide)] at H; exact H
                      clear H
                      have H := H1
                      clear H1
                      by_cases c29 : t341 ≥ 0
                      · rw [if_pos c29] at H
                        have c29b0 : decide (0 ≤ t341) = true := decide_eq_true c29
                        clear c29
                        by_cases c30 : t346 = t341
                        · rw [if_pos c30] at H
                          have c30b0 : (t346 == t341) = true := beq_iff_eq.mpr c30
                          have c30b1 : (t346 != t341) = false := bne_eq_false_iff_eq.mpr c30
                          clear c30
                          by_cases c31 : (t343.length : Int) = (x3_1.length : Int)
                          · rw [if_pos c31] at H
                            have c31b0 : ((t343.length : Int) == (x3_1.length : Int)) = true := beq_iff_eq.mpr c31
                            have c31b1 : ((t343.length : Int) != (x3_1.length : Int)) = false := bne_eq_false_iff_eq.mpr c31
                            have c31b2 : (t343.length == x3_1.length) = true := by first | simpa using c31 | (simp at c31 ⊢; omega)
                            clear c31
                            by_cases c32 : t341 < 0
                            · rw [if_pos c32] at H
                              have c32b0 : decide (t341 < 0) = true := decide_eq_true c32
                              clear c32
                              by_cases c33 : t346 = (x3_1.length : Int)
                              · rw [if_pos c33] at H
                                have c33b0 : (t346 == (x3_1.length : Int)) = true := beq_iff_eq.mpr c33
                                have c33b1 : (t346 != (x3_1.length : Int)) = false := bne_eq_false_iff_eq.mpr c33
                                clear c33
                                by_cases c34 : (t343.length : Int) = (wrap64 ((x3_1.length : Int) + 1))
                                · rw [if_pos c34] at H
                                  have c34b0 : ((t343.length : Int) == (wrap64 ((x3_1.length : Int) + 1))) = true := beq_iff_eq.mpr c34
                                  have c34b1 : ((t343.length : Int) != (wrap64 ((x3_1.length : Int) + 1))) = false := bne_eq_false_iff_eq.mpr c34
                                  clear c34
                                  by_cases c35 : (t343.length : Int) < (x3_1.length : Int)
                                  · rw [if_pos c35] at H
                                    exact absurd H (by simp)
                                  · rw [if_neg c35] at H
                                    have c35b0 : decide ((t343.length : Int) < (x3_1.length : Int)) = false := decide_eq_false c35
                                    have c35b1 : decide (t343.length < x3_1.length) = false := decide_eq_false (fun h => c35 (Int.ofNat_lt.mpr h))
                                    clear c35
                                    by_cases c36 : 0 ≤ (x3_1.length : Int)
                                    · rw [if_pos c36] at H
                                      have c36b0 := eq_true c36
                                      have c36b1 : decide (0 ≤ (x3_1.length : Int)) = true := decide_eq_true c36
                                      clear c36
                                      by_cases c37 : (x3_1.length : Int) ≤ (t343.length : Int)
                                      · rw [if_pos c37] at H
                                        have c37b0 := eq_true c37
                                        have c37b1 : decide ((x3_1.length : Int) ≤ (t343.length : Int)) = true := decide_eq_true c37
                                        clear c37
                                        obtain ⟨y364, hy364⟩ : ∃ y_ : List (S38), y_ = (t343.take ((x3_1.length : Int) : Int).toNat) := ⟨_, rfl⟩
                                        replace H : ((capstanref03_Same.f kj11 y364 x3_1).bind fun t368 => (if t368 = true then (capstanlaw06_PoolOnce.l0 kj11 l0 t343 (wrap64 (x4_1 + 1))) else (none))) = some r := by first | (rw [hy364]; with_reducible exact H) | (have H2_ := (Option.bind_some _ _).symm.trans H; rw [hy364]; with_reducible exact H2_) | (have H2_ := (Option.bind_some _ _).symm.trans H; with_reducible exact H2_) | with_reducible exact H | (rw [hy364]; exact H) | exact H
                                        have Ny364 := Aside0.mk hy364
                                        clear hy364
                                        replace H := Option.bind_eq_some_iff.mp H
                                        obtain ⟨t368, A380, H⟩ := H
                                        replace H : (if t368 = true then (capstanlaw06_PoolOnce.l0 kj11 l0 t343 (wrap64 (x4_1 + 1))) else (none)) = some r := H
                                        have A38 := Aside0.mk A380
                                        clear A380
                                        by_cases c39 : t368 = true
                                        · subst c39
                                          have H1 : (capstanlaw06_PoolOnce.l0 kj11 l0 t343 (wrap64 (x4_1 + 1))) = some r := by rw [if_pos rfl] at H; exact H
                                          clear H
                                          have H := H1
                                          clear H1
                                          have H' := Aside0.mk H
                                          clear H
                                          obtain ⟨Ao40, co40, eo40⟩ := Kd.R_slice HO_6.out
                                          subst eo40
                                          have q41 : ((x3_1.length : Int) : Int) ≤ ((t343.length : Int) : Int) := of_decide_eq_true (by first | (with_reducible assumption) | assumption)
                                          obtain ⟨i041, hi041, _, hsz41, _⟩ := info_parts info38
                                          have hroom41 : t343.length ≤ co40 := (Kd.R_reads' HO_6.out).2.1
                                          have hC41 : Kd.C k38 _ Ao40 t343.length t343 := (Kd.R_reads' HO_6.out).2.2
                                          have hcut41 := cut_to (P := Tryd.prog) 23 38 .i64 Tryd.underlying23 hi041 Ao40 t343.length co40 (x3_1.length : Int) (of_decide_eq_true (by first | (with_reducible assumption) | assumption)) q41 hroom41
                                          have hr41 := Kd.C_take (m := ((x3_1.length : Int) : Int).toNat) hC41 (by omega)
                                          have hy41 : y364.length = ((x3_1.length : Int) : Int).toNat := (by rw [Ny364.out, List.length_take]; omega)
                                          rw [← Ny364.out] at hr41
                                          rw [← hy41] at hcut41
                                          have HR367 := Aside0.mk hr41
                                          have HC367 := Aside0.mk (show y364.length ≤ co40 from by omega)
                                          clear hr41 hC41 hroom41 hi041 hsz41
                                          have KY41 := Aside0.mk hy41
                                          clear hy41
                                          have KL41 := Aside0.mk (show ((x3_1.length : Int) : Int).toNat ≤ t343.length from by omega)
                                          replace q41 := eq_true q41
                                          go_wp2_with (first | (go_at_call 8; (with_reducible refine (capstanref03_Same.calls kj11 _ _ y364 _ _ x3_1 true _ ?side1 ?side2 ?side3 ?side4 A38.out).mono ?_); (case side1 => repeat (first | exact (by repeat (first | (with_reducible exact HR367.out) | (with_reducible refine Kd.C_alloc ?_ _) | (with_reducible refine Kd.C_drewN ?_ _) | (with_reducible refine Kd.C_drew ?_) | exact HR367.out)) | (with_reducible refine Kd.C_alloc ?_ _) | (with_reducible refine Kd.C_drewN ?_ _) | (with_reducible refine Kd.C_drew ?_))); (case side2 => exact HC367.out); (case side3 => repeat (first | exact (Kd.R_reads' HO_3.out).2.2 | (with_reducible refine Kd.C_alloc ?_ _) | (with_reducible refine Kd.C_drewN ?_ _) | (with_reducible refine Kd.C_drew ?_))); (case side4 => exact (Kd.R_reads' HO_3.out).2.1); rintro e w' ⟨rfl, ⟨nd, rfl⟩⟩))
                                          go_roundg kj11
                                          case measure => have := HK1.out; have := HJ11.out; omega
                                          case rel => exact ⟨(t343), (wrap64 (x4_1 + 1)), (by first | rfl | (simp; done) | (simp [*]; done)), H', ⟨by have := HK1.out; have := HJ11.out; omega⟩, ⟨by (with_reducible repeat (first | apply Kd.R_alloc | apply Kd.R_drewN | apply Kd.R_drew)); exact Kd.R_mono HO_6.out (fun _ hk => trivial)⟩, ⟨by repeat (first | (with_reducible first | exact HB.out | apply below_alloc | apply pw_below_drewN | apply below_drew1) | exact HB.out | exact ⟨HB.out.os, HB.out.tape, HB.out.output, HB.out.size, HB.out.block⟩)⟩⟩
                                        · replace c39 := Bool.eq_false_iff.mpr c39
                                          subst c39
                                          have H1 : (none) = some r := by rw [if_neg (show ¬ (false = true) by decide)] at H; exact H
                                          clear H
                                          have H := H1
                                          clear H1
                                          exact absurd H (by simp)
                                      · rw [if_neg c37] at H
                                        exact absurd H (by simp)
                                    · rw [if_neg c36] at H
                                      exact absurd H (by simp)
                                · rw [if_neg c34] at H
                                  exact absurd H (by simp)
                              · rw [if_neg c33] at H
                                exact absurd H (by simp)
                            · rw [if_neg c32] at H
                              have c32b0 : decide (t341 < 0) = false := decide_eq_false c32
                              clear c32
                              by_cases c42 : (t343.length : Int) < (x3_1.length : Int)
                              · rw [if_pos c42] at H
                                exact absurd H (by simp)
                              · rw [if_neg c42] at H
                                have c42b0 : decide ((t343.length : Int) < (x3_1.length : Int)) = false := decide_eq_false c42
                                have c42b1 : decide (t343.length < x3_1.length) = false := decide_eq_false (fun h => c42 (Int.ofNat_lt.mpr h))
                                clear c42
                                by_cases c43 : 0 ≤ (x3_1.length : Int)
                                · rw [if_pos c43] at H
                                  have c43b0 := eq_true c43
                                  have c43b1 : decide (0 ≤ (x3_1.length : Int)) = true := decide_eq_true c43
                                  clear c43
                                  by_cases c44 : (x3_1.length : Int) ≤ (t343.length : Int)
                                  · rw [if_pos c44] at H
                                    have c44b0 := eq_true c44
                                    have c44b1 : decide ((x3_1.length : Int) ≤ (t343.length : Int)) = true := decide_eq_true c44
                                    clear c44
                                    obtain ⟨y369, hy369⟩ : ∃ y_ : List (S38), y_ = (t343.take ((x3_1.length : Int) : Int).toNat) := ⟨_, rfl⟩
                                    replace H : ((capstanref03_Same.f kj11 y369 x3_1).bind fun t373 => (if t373 = true then (capstanlaw06_PoolOnce.l0 kj11 l0 t343 (wrap64 (x4_1 + 1))) else (none))) = some r := by first | (rw [hy369]; with_reducible exact H) | (have H2_ := (Option.bind_some _ _).symm.trans H; rw [hy369]; with_reducible exact H2_) | (have H2_ := (Option.bind_some _ _).symm.trans H; with_reducible exact H2_) | with_reducible exact H | (rw [hy369]; exact H) | exact H
                                    have Ny369 := Aside0.mk hy369
                                    clear hy369
                                    replace H := Option.bind_eq_some_iff.mp H
                                    obtain ⟨t373, A450, H⟩ := H
                                    replace H : (if t373 = true then (capstanlaw06_PoolOnce.l0 kj11 l0 t343 (wrap64 (x4_1 + 1))) else (none)) = some r := H
                                    have A45 := Aside0.mk A450
                                    clear A450
                                    by_cases c46 : t373 = true
                                    · subst c46
                                      have H1 : (capstanlaw06_PoolOnce.l0 kj11 l0 t343 (wrap64 (x4_1 + 1))) = some r := by rw [if_pos rfl] at H; exact H
                                      clear H
                                      have H := H1
                                      clear H1
                                      have H' := Aside0.mk H
                                      clear H
                                      obtain ⟨Ao47, co47, eo47⟩ := Kd.R_slice HO_6.out
                                      subst eo47
                                      have q48 : ((x3_1.length : Int) : Int) ≤ ((t343.length : Int) : Int) := of_decide_eq_true (by first | (with_reducible assumption) | assumption)
                                      obtain ⟨i048, hi048, _, hsz48, _⟩ := info_parts info38
                                      have hroom48 : t343.length ≤ co47 := (Kd.R_reads' HO_6.out).2.1
                                      have hC48 : Kd.C k38 _ Ao47 t343.length t343 := (Kd.R_reads' HO_6.out).2.2
                                      have hcut48 := cut_to (P := Tryd.prog) 23 38 .i64 Tryd.underlying23 hi048 Ao47 t343.length co47 (x3_1.length : Int) (of_decide_eq_true (by first | (with_reducible assumption) | assumption)) q48 hroom48
                                      have hr48 := Kd.C_take (m := ((x3_1.length : Int) : Int).toNat) hC48 (by omega)
                                      have hy48 : y369.length = ((x3_1.length : Int) : Int).toNat := (by rw [Ny369.out, List.length_take]; omega)
                                      rw [← Ny369.out] at hr48
                                      rw [← hy48] at hcut48
                                      have HR372 := Aside0.mk hr48
                                      have HC372 := Aside0.mk (show y369.length ≤ co47 from by omega)
                                      clear hr48 hC48 hroom48 hi048 hsz48
                                      have KY48 := Aside0.mk hy48
                                      clear hy48
                                      have KL48 := Aside0.mk (show ((x3_1.length : Int) : Int).toNat ≤ t343.length from by omega)
                                      replace q48 := eq_true q48
                                      go_wp2_with (first | (go_at_call 8; (with_reducible refine (capstanref03_Same.calls kj11 _ _ y369 _ _ x3_1 true _ ?side1 ?side2 ?side3 ?side4 A45.out).mono ?_); (case side1 => repeat (first | exact (by repeat (first | (with_reducible exact HR372.out) | (with_reducible refine Kd.C_alloc ?_ _) | (with_reducible refine Kd.C_drewN ?_ _) | (with_reducible refine Kd.C_drew ?_) | exact HR372.out)) | (with_reducible refine Kd.C_alloc ?_ _) | (with_reducible refine Kd.C_drewN ?_ _) | (with_reducible refine Kd.C_drew ?_))); (case side2 => exact HC372.out); (case side3 => repeat (first | exact (Kd.R_reads' HO_3.out).2.2 | (with_reducible refine Kd.C_alloc ?_ _) | (with_reducible refine Kd.C_drewN ?_ _) | (with_reducible refine Kd.C_drew ?_))); (case side4 => exact (Kd.R_reads' HO_3.out).2.1); rintro e w' ⟨rfl, ⟨nd, rfl⟩⟩))
                                      go_roundg kj11
                                      case measure => have := HK1.out; have := HJ11.out; omega
                                      case rel => exact ⟨(t343), (wrap64 (x4_1 + 1)), (by first | rfl | (simp; done) | (simp [*]; done)), H', ⟨by have := HK1.out; have := HJ11.out; omega⟩, ⟨by (with_reducible repeat (first | apply Kd.R_alloc | apply Kd.R_drewN | apply Kd.R_drew)); exact Kd.R_mono HO_6.out (fun _ hk => trivial)⟩, ⟨by repeat (first | (with_reducible first | exact HB.out | apply below_alloc | apply pw_below_drewN | apply below_drew1) | exact HB.out | exact ⟨HB.out.os, HB.out.tape, HB.out.output, HB.out.size, HB.out.block⟩)⟩⟩
                                    · replace c46 := Bool.eq_false_iff.mpr c46
                                      subst c46
                                      have H1 : (none) = some r := by rw [if_neg (show ¬ (false = true) by decide)] at H; exact H
                                      clear H
                                      have H := H1
                                      clear H1
                                      exact absurd H (by simp)
                                  · rw [if_neg c44] at H
                                    exact absurd H (by simp)
                                · rw [if_neg c43] at H
                                  exact absurd H (by simp)
                          · rw [if_neg c31] at H
                            exact absurd H (by simp)
                        · rw [if_neg c30] at H
                          exact absurd H (by simp)
                      · rw [if_neg c29] at H
                        have c29b0 : decide (0 ≤ t341) = false := decide_eq_false c29
                        clear c29
                        by_cases c49 : t341 < 0
                        · rw [if_pos c49] at H
                          have c49b0 : decide (t341 < 0) = true := decide_eq_true c49
                          clear c49
                          by_cases c50 : t346 = (x3_1.length : Int)
                          · rw [if_pos c50] at H
                            have c50b0 : (t346 == (x3_1.length : Int)) = true := beq_iff_eq.mpr c50
                            have c50b1 : (t346 != (x3_1.length : Int)) = false := bne_eq_false_iff_eq.mpr c50
                            clear c50
                            by_cases c51 : (t343.length : Int) = (wrap64 ((x3_1.length : Int) + 1))
                            · rw [if_pos c51] at H
                              have c51b0 : ((t343.length : Int) == (wrap64 ((x3_1.length : Int) + 1))) = true := beq_iff_eq.mpr c51
                              have c51b1 : ((t343.length : Int) != (wrap64 ((x3_1.length : Int) + 1))) = false := bne_eq_false_iff_eq.mpr c51
                              clear c51
                              by_cases c52 : (t343.length : Int) < (x3_1.length : Int)
                              · rw [if_pos c52] at H
                                exact absurd H (by simp)
                              · rw [if_neg c52] at H
                                have c52b0 : decide ((t343.length : Int) < (x3_1.length : Int)) = false := decide_eq_false c52
                                have c52b1 : decide (t343.length < x3_1.length) = false := decide_eq_false (fun h => c52 (Int.ofNat_lt.mpr h))
                                clear c52
                                by_cases c53 : 0 ≤ (x3_1.length : Int)
                                · rw [if_pos c53] at H
                                  have c53b0 := eq_true c53
                                  have c53b1 : decide (0 ≤ (x3_1.length : Int)) = true := decide_eq_true c53
                                  clear c53
                                  by_cases c54 : (x3_1.length : Int) ≤ (t343.length : Int)
                                  · rw [if_pos c54] at H
                                    have c54b0 := eq_true c54
                                    have c54b1 : decide ((x3_1.length : Int) ≤ (t343.length : Int)) = true := decide_eq_true c54
                                    clear c54
                                    obtain ⟨y374, hy374⟩ : ∃ y_ : List (S38), y_ = (t343.take ((x3_1.length : Int) : Int).toNat) := ⟨_, rfl⟩
                                    replace H : ((capstanref03_Same.f kj11 y374 x3_1).bind fun t378 => (if t378 = true then (capstanlaw06_PoolOnce.l0 kj11 l0 t343 (wrap64 (x4_1 + 1))) else (none))) = some r := by first | (rw [hy374]; with_reducible exact H) | (have H2_ := (Option.bind_some _ _).symm.trans H; rw [hy374]; with_reducible exact H2_) | (have H2_ := (Option.bind_some _ _).symm.trans H; with_reducible exact H2_) | with_reducible exact H | (rw [hy374]; exact H) | exact H
                                    have Ny374 := Aside0.mk hy374
                                    clear hy374
                                    replace H := Option.bind_eq_some_iff.mp H
                                    obtain ⟨t378, A550, H⟩ := H
                                    replace H : (if t378 = true then (capstanlaw06_PoolOnce.l0 kj11 l0 t343 (wrap64 (x4_1 + 1))) else (none)) = some r := H
                                    have A55 := Aside0.mk A550
                                    clear A550
                                    by_cases c56 : t378 = true
                                    · subst c56
                                      have H1 : (capstanlaw06_PoolOnce.l0 kj11 l0 t343 (wrap64 (x4_1 + 1))) = some r := by rw [if_pos rfl] at H; exact H
                                      clear H
                                      have H := H1
                                      clear H1
                                      have H' := Aside0.mk H
                                      clear H
                                      obtain ⟨Ao57, co57, eo57⟩ := Kd.R_slice HO_6.out
                                      subst eo57
                                      have q58 : ((x3_1.length : Int) : Int) ≤ ((t343.length : Int) : Int) := of_decide_eq_true (by first | (with_reducible assumption) | assumption)
                                      obtain ⟨i058, hi058, _, hsz58, _⟩ := info_parts info38
                                      have hroom58 : t343.length ≤ co57 := (Kd.R_reads' HO_6.out).2.1
                                      have hC58 : Kd.C k38 _ Ao57 t343.length t343 := (Kd.R_reads' HO_6.out).2.2
                                      have hcut58 := cut_to (P := Tryd.prog) 23 38 .i64 Tryd.underlying23 hi058 Ao57 t343.length co57 (x3_1.length : Int) (of_decide_eq_true (by first | (with_reducible assumption) | assumption)) q58 hroom58
                                      have hr58 := Kd.C_take (m := ((x3_1.length : Int) : Int).toNat) hC58 (by omega)
                                      have hy58 : y374.length = ((x3_1.length : Int) : Int).toNat := (by rw [Ny374.out, List.length_take]; omega)
                                      rw [← Ny374.out] at hr58
                                      rw [← hy58] at hcut58
                                      have HR377 := Aside0.mk hr58
                                      have HC377 := Aside0.mk (show y374.length ≤ co57 from by omega)
                                      clear hr58 hC58 hroom58 hi058 hsz58
                                      have KY58 := Aside0.mk hy58
                                      clear hy58
                                      have KL58 := Aside0.mk (show ((x3_1.length : Int) : Int).toNat ≤ t343.length from by omega)
                                      replace q58 := eq_true q58
                                      go_wp2_with (first | (go_at_call 8; (with_reducible refine (capstanref03_Same.calls kj11 _ _ y374 _ _ x3_1 true _ ?side1 ?side2 ?side3 ?side4 A55.out).mono ?_); (case side1 => repeat (first | exact (by repeat (first | (with_reducible exact HR377.out) | (with_reducible refine Kd.C_alloc ?_ _) | (with_reducible refine Kd.C_drewN ?_ _) | (with_reducible refine Kd.C_drew ?_) | exact HR377.out)) | (with_reducible refine Kd.C_alloc ?_ _) | (with_reducible refine Kd.C_drewN ?_ _) | (with_reducible refine Kd.C_drew ?_))); (case side2 => exact HC377.out); (case side3 => repeat (first | exact (Kd.R_reads' HO_3.out).2.2 | (with_reducible refine Kd.C_alloc ?_ _) | (with_reducible refine Kd.C_drewN ?_ _) | (with_reducible refine Kd.C_drew ?_))); (case side4 => exact (Kd.R_reads' HO_3.out).2.1); rintro e w' ⟨rfl, ⟨nd, rfl⟩⟩))
                                      go_roundg kj11
                                      case measure => have := HK1.out; have := HJ11.out; omega
                                      case rel => exact ⟨(t343), (wrap64 (x4_1 + 1)), (by first | rfl | (simp; done) | (simp [*]; done)), H', ⟨by have := HK1.out; have := HJ11.out; omega⟩, ⟨by (with_reducible repeat (first | apply Kd.R_alloc | apply Kd.R_drewN | apply Kd.R_drew)); exact Kd.R_mono HO_6.out (fun _ hk => trivial)⟩, ⟨by repeat (first | (with_reducible first | exact HB.out | apply below_alloc | apply pw_below_drewN | apply below_drew1) | exact HB.out | exact ⟨HB.out.os, HB.out.tape, HB.out.output, HB.out.size, HB.out.block⟩)⟩⟩
                                    · replace c56 := Bool.eq_false_iff.mpr c56
                                      subst c56
                                      have H1 : (none) = some r := by rw [if_neg (show ¬ (false = true) by decide)] at H; exact H
                                      clear H
                                      have H := H1
                                      clear H1
                                      exact absurd H (by simp)
                                  · rw [if_neg c54] at H
                                    exact absurd H (by simp)
                                · rw [if_neg c53] at H
                                  exact absurd H (by simp)
                            · rw [if_neg c51] at H
                              exact absurd H (by simp)
                          · rw [if_neg c50] at H
                            exact absurd H (by simp)
                        · rw [if_neg c49] at H
                          have c49b0 : decide (t341 < 0) = false := decide_eq_false c49
                          clear c49
                          by_cases c59 : (t343.length : Int) < (x3_1.length : Int)
                          · rw [if_pos c59] at H
                            exact absurd H (by simp)
                          · rw [if_neg c59] at H
                            have c59b0 : decide ((t343.length : Int) < (x3_1.length : Int)) = false := decide_eq_false c59
                            have c59b1 : decide (t343.length < x3_1.length) = false := decide_eq_false (fun h => c59 (Int.ofNat_lt.mpr h))
                            clear c59
                            by_cases c60 : 0 ≤ (x3_1.length : Int)
                            · rw [if_pos c60] at H
                              have c60b0 := eq_true c60
                              have c60b1 : decide (0 ≤ (x3_1.length : Int)) = true := decide_eq_true c60
                              clear c60
                              by_cases c61 : (x3_1.length : Int) ≤ (t343.length : Int)
                              · rw [if_pos c61] at H
                                have c61b0 := eq_true c61
                                have c61b1 : decide ((x3_1.length : Int) ≤ (t343.length : Int)) = true := decide_eq_true c61
                                clear c61
                                obtain ⟨y379, hy379⟩ : ∃ y_ : List (S38), y_ = (t343.take ((x3_1.length : Int) : Int).toNat) := ⟨_, rfl⟩
                                replace H : ((capstanref03_Same.f kj11 y379 x3_1).bind fun t383 => (if t383 = true then (capstanlaw06_PoolOnce.l0 kj11 l0 t343 (wrap64 (x4_1 + 1))) else (none))) = some r := by first | (rw [hy379]; with_reducible exact H) | (have H2_ := (Option.bind_some _ _).symm.trans H; rw [hy379]; with_reducible exact H2_) | (have H2_ := (Option.bind_some _ _).symm.trans H; with_reducible exact H2_) | with_reducible exact H | (rw [hy379]; exact H) | exact H
                                have Ny379 := Aside0.mk hy379
                                clear hy379
                                replace H := Option.bind_eq_some_iff.mp H
                                obtain ⟨t383, A620, H⟩ := H
                                replace H : (if t383 = true then (capstanlaw06_PoolOnce.l0 kj11 l0 t343 (wrap64 (x4_1 + 1))) else (none)) = some r := H
                                have A62 := Aside0.mk A620
                                clear A620
                                by_cases c63 : t383 = true
                                · subst c63
                                  have H1 : (capstanlaw06_PoolOnce.l0 kj11 l0 t343 (wrap64 (x4_1 + 1))) = some r := by rw [if_pos rfl] at H; exact H
                                  clear H
                                  have H := H1
                                  clear H1
                                  have H' := Aside0.mk H
                                  clear H
                                  obtain ⟨Ao64, co64, eo64⟩ := Kd.R_slice HO_6.out
                                  subst eo64
                                  have q65 : ((x3_1.length : Int) : Int) ≤ ((t343.length : Int) : Int) := of_decide_eq_true (by first | (with_reducible assumption) | assumption)
                                  obtain ⟨i065, hi065, _, hsz65, _⟩ := info_parts info38
                                  have hroom65 : t343.length ≤ co64 := (Kd.R_reads' HO_6.out).2.1
                                  have hC65 : Kd.C k38 _ Ao64 t343.length t343 := (Kd.R_reads' HO_6.out).2.2
                                  have hcut65 := cut_to (P := Tryd.prog) 23 38 .i64 Tryd.underlying23 hi065 Ao64 t343.length co64 (x3_1.length : Int) (of_decide_eq_true (by first | (with_reducible assumption) | assumption)) q65 hroom65
                                  have hr65 := Kd.C_take (m := ((x3_1.length : Int) : Int).toNat) hC65 (by omega)
                                  have hy65 : y379.length = ((x3_1.length : Int) : Int).toNat := (by rw [Ny379.out, List.length_take]; omega)
                                  rw [← Ny379.out] at hr65
                                  rw [← hy65] at hcut65
                                  have HR382 := Aside0.mk hr65
                                  have HC382 := Aside0.mk (show y379.length ≤ co64 from by omega)
                                  clear hr65 hC65 hroom65 hi065 hsz65
                                  have KY65 := Aside0.mk hy65
                                  clear hy65
                                  have KL65 := Aside0.mk (show ((x3_1.length : Int) : Int).toNat ≤ t343.length from by omega)
                                  replace q65 := eq_true q65
                                  go_wp2_with (first | (go_at_call 8; (with_reducible refine (capstanref03_Same.calls kj11 _ _ y379 _ _ x3_1 true _ ?side1 ?side2 ?side3 ?side4 A62.out).mono ?_); (case side1 => repeat (first | exact (by repeat (first | (with_reducible exact HR382.out) | (with_reducible refine Kd.C_alloc ?_ _) | (with_reducible refine Kd.C_drewN ?_ _) | (with_reducible refine Kd.C_drew ?_) | exact HR382.out)) | (with_reducible refine Kd.C_alloc ?_ _) | (with_reducible refine Kd.C_drewN ?_ _) | (with_reducible refine Kd.C_drew ?_))); (case side2 => exact HC382.out); (case side3 => repeat (first | exact (Kd.R_reads' HO_3.out).2.2 | (with_reducible refine Kd.C_alloc ?_ _) | (with_reducible refine Kd.C_drewN ?_ _) | (with_reducible refine Kd.C_drew ?_))); (case side4 => exact (Kd.R_reads' HO_3.out).2.1); rintro e w' ⟨rfl, ⟨nd, rfl⟩⟩))
                                  go_roundg kj11
                                  case measure => have := HK1.out; have := HJ11.out; omega
                                  case rel => exact ⟨(t343), (wrap64 (x4_1 + 1)), (by first | rfl | (simp; done) | (simp [*]; done)), H', ⟨by have := HK1.out; have := HJ11.out; omega⟩, ⟨by (with_reducible repeat (first | apply Kd.R_alloc | apply Kd.R_drewN | apply Kd.R_drew)); exact Kd.R_mono HO_6.out (fun _ hk => trivial)⟩, ⟨by repeat (first | (with_reducible first | exact HB.out | apply below_alloc | apply pw_below_drewN | apply below_drew1) | exact HB.out | exact ⟨HB.out.os, HB.out.tape, HB.out.output, HB.out.size, HB.out.block⟩)⟩⟩
                                · replace c63 := Bool.eq_false_iff.mpr c63
                                  subst c63
                                  have H1 : (none) = some r := by rw [if_neg (show ¬ (false = true) by decide)] at H; exact H
                                  clear H
                                  have H := H1
                                  clear H1
                                  exact absurd H (by simp)
                              · rw [if_neg c61] at H
                                exact absurd H (by simp)
                            · rw [if_neg c60] at H
                              exact absurd H (by simp)
              · rw [if_neg c11] at H
                have c11b0 : (t347 == 0) = false := beq_eq_false_iff_ne.mpr c11
                have c11b1 : (t347 != 0) = true := bne_iff_ne.mpr c11
                by_cases c66 : t341 ≥ 0
                · rw [if_pos c66] at H
                  exact absurd H (by simp)
                · rw [if_neg c66] at H
                  have c66b0 : decide (0 ≤ t341) = false := decide_eq_false c66
                  clear c66
                  by_cases c67 : (t343.length : Int) > 0
                  · rw [if_pos c67] at H
                    exact absurd H (by simp)
                  · rw [if_neg c67] at H
                    have c67b0 : decide (0 < (t343.length : Int)) = false := decide_eq_false c67
                    have c67b1 : decide (0 < t343.length) = false := decide_eq_false (by omega)
                    clear c67
                    replace H := Option.bind_eq_some_iff.mp H
                    obtain ⟨t348, A680, H⟩ := H
                    replace H : ((some (([(⟨(rd_T38 l0 x4_1).f0, (rd_T38 l0 x4_1).f1, (rd_T38 l0 x4_1).f2⟩ : S38)] : List (S38)) : List (S38))).bind fun y352 => (if t348.length + y352.length < 5864062014805 then ((pool_May.f k1 (t348 ++ y352)).bind fun t358 => (if t358 = true then (none) else (capstanlaw06_PoolOnce.l0 k1 l0 x3_1 (wrap64 (x4_1 + 1))))) else (none))) = some r := H
                    have A68 := Aside0.mk A680
                    clear A680
                    obtain ⟨y352, hy352⟩ : ∃ y_ : List (S38), y_ = (([(⟨(rd_T38 l0 x4_1).f0, (rd_T38 l0 x4_1).f1, (rd_T38 l0 x4_1).f2⟩ : S38)] : List (S38))) := ⟨_, rfl⟩
                    replace H : (if t348.length + y352.length < 5864062014805 then ((pool_May.f k1 (t348 ++ y352)).bind fun t358 => (if t358 = true then (none) else (capstanlaw06_PoolOnce.l0 k1 l0 x3_1 (wrap64 (x4_1 + 1))))) else (none)) = some r := by first | (rw [hy352]; with_reducible exact H) | (have H2_ := (Option.bind_some _ _).symm.trans H; rw [hy352]; with_reducible exact H2_) | (have H2_ := (Option.bind_some _ _).symm.trans H; with_reducible exact H2_) | with_reducible exact H | (rw [hy352]; exact H) | exact H
                    have Ny352 := Aside0.mk hy352
                    clear hy352
                    by_cases c69 : t348.length + y352.length < 5864062014805
                    · rw [if_pos c69] at H
                      have LMc69 := Aside0.mk c69
                      clear c69
                      obtain ⟨y355, hy355⟩ : ∃ y_ : List (S38), y_ = (t348 ++ y352) := ⟨_, rfl⟩
                      replace H : ((pool_May.f k1 y355).bind fun t358 => (if t358 = true then (none) else (capstanlaw06_PoolOnce.l0 k1 l0 x3_1 (wrap64 (x4_1 + 1))))) = some r := by first | (rw [hy355]; with_reducible exact H) | (have H2_ := (Option.bind_some _ _).symm.trans H; rw [hy355]; with_reducible exact H2_) | (have H2_ := (Option.bind_some _ _).symm.trans H; with_reducible exact H2_) | with_reducible exact H | (rw [hy355]; exact H) | exact H
                      have Ny355 := Aside0.mk hy355
                      clear hy355
                      replace H := Option.bind_eq_some_iff.mp H
                      obtain ⟨t358, A700, H⟩ := H
                      replace H : (if t358 = true then (none) else (capstanlaw06_PoolOnce.l0 k1 l0 x3_1 (wrap64 (x4_1 + 1)))) = some r := H
                      have A70 := Aside0.mk A700
                      clear A700
                      by_cases c71 : t358 = true
                      · subst c71
                        have H1 : (none) = some r := by rw [if_pos rfl] at H; exact H
                        clear H
                        have H := H1
                        clear H1
                        exact absurd H (by simp)
                      · replace c71 := Bool.eq_false_iff.mpr c71
                        subst c71
                        have H1 : (capstanlaw06_PoolOnce.l0 k1 l0 x3_1 (wrap64 (x4_1 + 1))) = some r := by rw [if_neg (show ¬ (false = true) by decide)] at H; exact H
                        clear H
                        have H := H1
                        clear H1
                        have H' := Aside0.mk H
                        clear H
                        have p340 : 0 ≤ (x4_1 : Int) := of_decide_eq_true (by first | (with_reducible assumption) | assumption)
                        have q340 : x4_1 < (l0.length : Int) := of_decide_eq_true (by first | (with_reducible assumption) | assumption)
                        obtain ⟨ad340, e340, hx340_0, hx340_1, hx340_2⟩ := at_T38 HR0.out x4_1 p340 q340
                        cases e340
                        replace hx340_0 := (HB.out.cell (World.block_lt_of_cell? w _ hx340_0)).trans hx340_0
                        replace hx340_1 := (HB.out.cell (World.block_lt_of_cell? w _ hx340_1)).trans hx340_1
                        replace hx340_2 := (HB.out.cell (World.block_lt_of_cell? w _ hx340_2)).trans hx340_2
                        replace p340 := eq_true p340
                        replace q340 := eq_true q340
                        obtain ⟨Ao72, co72, eo72⟩ := Kd.R_slice HO_3.out
                        subst eo72
                        try go_wp2_with (first | ((with_reducible refine gate_callee (f := 12) rfl ?_); refine goesL_ (some 26) rfl rfl Tryd.func12 (by kernel_rfl) rfl #[.slice Ao72 x3_1.length co72, .agg #[.int .u8 ((rd_T38 l0 x4_1).f0), .int .i64 ((rd_T38 l0 x4_1).f1), .int .i64 ((rd_T38 l0 x4_1).f2)]] rfl (by (try simp only [List.map_toArray, List.map_cons, List.map_nil]); first | done | rfl | (simp only [List.length_drop, List.length_take]; rfl)) ?_; (with_reducible refine (pool_Find.calls k1 _ _ x3_1 ((rd_T38 l0 x4_1).f0) ((rd_T38 l0 x4_1).f1) ((rd_T38 l0 x4_1).f2) t341 _ ?side1 ?side2 A9.out).mono ?_); (case side1 => repeat (first | exact (Kd.R_reads' HO_3.out).2.2 | (with_reducible refine Kd.C_alloc ?_ _) | (with_reducible refine Kd.C_drewN ?_ _) | (with_reducible refine Kd.C_drew ?_))); (case side2 => exact (Kd.R_reads' HO_3.out).2.1); rintro e w73 ⟨rfl, hb⟩; refine ⟨_, rfl, ?_⟩; have n0_ := Aside0.mk (Kd.R_below (by (with_reducible repeat (first | apply Kd.R_alloc | apply Kd.R_drewN | apply Kd.R_drew)); exact HO_3.out) hb); have n1_ := Aside0.mk (below_step (by repeat (first | (with_reducible first | exact HB.out | apply below_alloc | apply pw_below_drewN | apply below_drew1) | exact HB.out | exact ⟨HB.out.os, HB.out.tape, HB.out.output, HB.out.size, HB.out.block⟩)) hb); clear HO_3; clear HB; have HO_3 := n0_; have HB := n1_; clear n0_ n1_; (try clear hb); (try clear hb2); (try clear hk); (try clear hi); have p342 : 0 ≤ (x4_1 : Int) := of_decide_eq_true (by first | (with_reducible assumption) | assumption); have q342 : x4_1 < (l0.length : Int) := of_decide_eq_true (by first | (with_reducible assumption) | assumption); obtain ⟨ad342, e342, hx342_0, hx342_1, hx342_2⟩ := at_T38 HR0.out x4_1 p342 q342; obtain rfl : ad340 = ad342 := (by injection e342); replace hx342_0 := (HB.out.cell (World.block_lt_of_cell? w _ hx342_0)).trans hx342_0; replace hx342_1 := (HB.out.cell (World.block_lt_of_cell? w _ hx342_1)).trans hx342_1; replace hx342_2 := (HB.out.cell (World.block_lt_of_cell? w _ hx342_2)).trans hx342_2; replace p342 := eq_true p342; replace q342 := eq_true q342) | ((with_reducible refine gate_callee (f := 13) rfl ?_); refine goesL_ (some 33) rfl rfl Tryd.func13 (by kernel_rfl) rfl #[.slice Ao72 x3_1.length co72, .agg #[.int .u8 ((rd_T38 l0 x4_1).f0), .int .i64 ((rd_T38 l0 x4_1).f1), .int .i64 ((rd_T38 l0 x4_1).f2)]] rfl (by (try simp only [List.map_toArray, List.map_cons, List.map_nil]); first | done | rfl | (simp only [List.length_drop, List.length_take]; rfl)) ?_; (with_reducible refine (pool_Add.calls k1 _ _ x3_1 ((rd_T38 l0 x4_1).f0) ((rd_T38 l0 x4_1).f1) ((rd_T38 l0 x4_1).f2) t343 t346 t347 _ ?side1 ?side2 A10.out).mono ?_); (case side1 => repeat (first | exact (Kd.R_reads' HO_3.out).2.2 | (with_reducible refine Kd.C_alloc ?_ _) | (with_reducible refine Kd.C_drewN ?_ _) | (with_reducible refine Kd.C_drew ?_))); (case side2 => exact (Kd.R_reads' HO_3.out).2.1); rintro e w74 ⟨v344, rfl, ho0, hb⟩; refine ⟨_, rfl, ?_⟩; have n0_ := Aside0.mk (Kd.R_elder' (by (with_reducible repeat (first | apply Kd.R_alloc | apply Kd.R_drewN | apply Kd.R_drew)); exact HO_3.out) (Kd.R_base ho0) hb); have n1_ := Aside0.mk (Kd.R_lower (Kd.R_new' ho0 (Kd.R_lt (by (with_reducible repeat (first | apply Kd.R_alloc | apply Kd.R_drewN | apply Kd.R_drew)); exact HO_3.out))) (below_size (by repeat (first | (with_reducible first | exact HB.out | apply below_alloc | apply pw_below_drewN | apply below_drew1) | exact HB.out | exact ⟨HB.out.os, HB.out.tape, HB.out.output, HB.out.size, HB.out.block⟩)))); have n2_ := Aside0.mk (below_step (by repeat (first | (with_reducible first | exact HB.out | apply below_alloc | apply pw_below_drewN | apply below_drew1) | exact HB.out | exact ⟨HB.out.os, HB.out.tape, HB.out.output, HB.out.size, HB.out.block⟩)) hb); clear HO_3; clear HB; have HO_3 := n0_; have HO345 := n1_; have HB := n2_; clear n0_ n1_ n2_; (try clear hb); (try clear hb2); (try clear hk); (try clear hi); (try clear ho0)))
                        (try (rw [drewN_self w74]; generalize hq_ : World.drewN w74 _ = w74; have n0_ : Aside0 (Kd.R k38 38 w74 w.heap.size (fun k_ => some k_ ≠ (.slice Ao72 x3_1.length co72 : Value).ownBlock) v344 t343) := ⟨by rw [← hq_]; exact (by (with_reducible repeat (first | apply Kd.R_alloc | apply Kd.R_drewN | apply Kd.R_drew)); exact Kd.R_mono HO345.out (fun _ hk => hk.2))⟩; have n1_ : Aside0 (Kd.R k38 38 w74 w.heap.size (fun k_ => some k_ ≠ (v344 : Value).ownBlock) (.slice Ao72 x3_1.length co72) x3_1) := ⟨by rw [← hq_]; exact (by (with_reducible repeat (first | apply Kd.R_alloc | apply Kd.R_drewN | apply Kd.R_drew)); exact Kd.R_mono HO_3.out (fun _ hk => hk.2))⟩; have n2_ : Aside0 (Below w.heap.size w w74) := ⟨by rw [← hq_]; exact (by repeat (first | (with_reducible first | exact HB.out | apply below_alloc | apply pw_below_drewN | apply below_drew1) | exact HB.out | exact ⟨HB.out.os, HB.out.tape, HB.out.output, HB.out.size, HB.out.block⟩))⟩; clear HO345 HO_3 HB hq_; have HO345 := n0_; have HO_3 := n1_; have HB := n2_; clear n0_ n1_ n2_))
                        have n0_ := Aside0.mk (Kd.R_drew HO_3.out)
                        have n1_ := Aside0.mk (Kd.R_drew HO345.out)
                        have n2_ := Aside0.mk (below_drew1 HB.out)
                        clear HO_3
                        clear HO345
                        clear HB
                        have HO_3 := n0_
                        have HO345 := n1_
                        have HB := n2_
                        clear n0_ n1_ n2_
                        obtain ⟨Ao76, co76, eo76⟩ := Kd.R_slice HO345.out
                        (first | subst eo76 | (injection eo76 with f1_ f2_ f3_; have f4_ := f1_.symm; have f5_ := f3_.symm; clear f1_ f2_ f3_; subst f4_; subst f5_))
                        have p351 : 0 ≤ (x4_1 : Int) := of_decide_eq_true (by first | (with_reducible assumption) | assumption)
                        have q351 : x4_1 < (l0.length : Int) := of_decide_eq_true (by first | (with_reducible assumption) | assumption)
                        obtain ⟨ad351, e351, hx351_0, hx351_1, hx351_2⟩ := at_T38 HR0.out x4_1 p351 q351
                        have hw351_2 := hx351_2
                        have hw351_1 := hx351_1
                        have hw351_0 := hx351_0
                        obtain rfl : ad340 = ad351 := (by injection e351)
                        replace hx351_0 := (HB.out.cell (World.block_lt_of_cell? w _ hx351_0)).trans hx351_0
                        replace hx351_1 := (HB.out.cell (World.block_lt_of_cell? w _ hx351_1)).trans hx351_1
                        replace hx351_2 := (HB.out.cell (World.block_lt_of_cell? w _ hx351_2)).trans hx351_2
                        replace p351 := eq_true p351
                        replace q351 := eq_true q351
                        refine start_ (n := 18) (S := fun w' => w'.cell? (ad340.add ((x4_1).toNat * 3)) = some (.int .u8 ((rd_T38 l0 x4_1).f0)) ∧ w'.cell? ⟨(ad340.add ((x4_1).toNat * 3)).block, (ad340.add ((x4_1).toNat * 3)).off + 1, none⟩ = some (.int .i64 ((rd_T38 l0 x4_1).f1)) ∧ w'.cell? ⟨(ad340.add ((x4_1).toNat * 3)).block, (ad340.add ((x4_1).toNat * 3)).off + 2, none⟩ = some (.int .i64 ((rd_T38 l0 x4_1).f2))) (ds := []) #[false, false, false, false, false, false, false, false, false, false, false, false, false, false, false, false, false, false] (by kernel_rfl) rfl rfl ⟨((HB.out.cell (World.block_lt_of_cell? w _ hw351_0)).trans hw351_0), ((HB.out.cell (World.block_lt_of_cell? w _ hw351_1)).trans hw351_1), ((HB.out.cell (World.block_lt_of_cell? w _ hw351_2)).trans hw351_2)⟩ (fun hHeld => ?_); refine with_tabW capstanlaw06_PoolOnce.tab12 capstanlaw06_PoolOnce.bits12 (fun HT_ HW_ => ?_)
                        generalize w74.drew = w75 at HO_3 HO345 HB hx351_0 hx351_1 hx351_2 hHeld ⊢
                        refine pure_ (i := 0) (N := some 39) (v := ?_) (a' := ?_) #[true, false, false, false, false, false, false, false, false, false, false, false, false, false, false, false, false, false] rfl rfl (any_of HT_.out (by kernel_rfl)) (fun _ _ _ h => h) (Or.inl ⟨by rfl, ?_⟩) ?_ ?_
                        rotate_left
                        · intro w'
                          go_simp
                          with_reducible rfl
                        rotate_left
                        · simp only [Act.put, List.setIfInBounds_toArray, List.set_cons_zero, List.set_cons_succ, i64_w, i32_w]
                          rfl
                        refine pure_ (i := 1) (N := some 40) (v := ?_) (a' := ?_) #[true, true, false, false, false, false, false, false, false, false, false, false, false, false, false, false, false, false] rfl rfl (any_of HT_.out (by kernel_rfl)) (fun _ _ _ h => h) (Or.inl ⟨by rfl, ?_⟩) ?_ ?_
                        rotate_left
                        · intro w'
                          go_simp
                          with_reducible rfl
                        rotate_left
                        · simp only [Act.put, List.setIfInBounds_toArray, List.set_cons_zero, List.set_cons_succ, i64_w, i32_w]
                          rfl
                        refine pure_ (i := 2) (N := some 41) (v := ?_) (a' := ?_) #[true, true, true, false, false, false, false, false, false, false, false, false, false, false, false, false, false, false] rfl rfl (any_of HT_.out (by kernel_rfl)) (fun _ _ _ h => h) (Or.inl ⟨by rfl, ?_⟩) ?_ ?_
                        rotate_left
                        · intro w'
                          go_simp
                          with_reducible rfl
                        rotate_left
                        · simp only [Act.put, List.setIfInBounds_toArray, List.set_cons_zero, List.set_cons_succ, i64_w, i32_w]
                          rfl
                        refine pure_ (i := 3) (N := some 42) (v := ?_) (a' := ?_) #[true, true, true, true, false, false, false, false, false, false, false, false, false, false, false, false, false, false] rfl rfl (any_of HT_.out (by kernel_rfl)) (fun _ _ _ h => h) (Or.inl ⟨by rfl, ?_⟩) ?_ ?_
                        rotate_left
                        · intro w'
                          go_simp
                          with_reducible rfl
                        rotate_left
                        · simp only [Act.put, List.setIfInBounds_toArray, List.set_cons_zero, List.set_cons_succ, i64_w, i32_w]
                          rfl
                        refine pure_ (i := 4) (N := some 43) (v := ?_) (a' := ?_) #[true, true, true, true, true, false, false, false, false, false, false, false, false, false, false, false, false, false] rfl rfl (any_of HT_.out (by kernel_rfl)) (fun _ _ _ h => h) (Or.inl ⟨by rfl, ?_⟩) ?_ ?_
                        rotate_left
                        · intro w'
                          go_simp
                          with_reducible rfl
                        rotate_left
                        · simp only [Act.put, List.setIfInBounds_toArray, List.set_cons_zero, List.set_cons_succ, i64_w, i32_w]
                          rfl
                        refine pure_ (i := 5) (N := some 44) (v := ?_) (a' := ?_) #[true, true, true, true, true, true, false, false, false, false, false, false, false, false, false, false, false, false] rfl rfl (any_of HT_.out (by kernel_rfl)) (fun _ _ _ h => h) (Or.inl ⟨by rfl, ?_⟩) ?_ ?_
                        rotate_left
                        · intro w'
                          go_simp
                          with_reducible rfl
                        rotate_left
                        · simp only [Act.put, List.setIfInBounds_toArray, List.set_cons_zero, List.set_cons_succ, i64_w, i32_w]
                          rfl
                        refine pure_ (i := 6) (N := some 45) (v := ?_) (a' := ?_) #[true, true, true, true, true, true, true, false, false, false, false, false, false, false, false, false, false, false] rfl rfl (any_of HT_.out (by kernel_rfl)) (fun _ _ _ h => h) (Or.inl ⟨by rfl, ?_⟩) ?_ ?_
                        rotate_left
                        · intro w'
                          go_simp
                          with_reducible rfl
                        rotate_left
                        · simp only [Act.put, List.setIfInBounds_toArray, List.set_cons_zero, List.set_cons_succ, i64_w, i32_w]
                          rfl
                        refine pure_ (i := 7) (N := some 46) (v := ?_) (a' := ?_) #[true, true, true, true, true, true, true, true, false, false, false, false, false, false, false, false, false, false] rfl rfl (any_of HT_.out (by kernel_rfl)) (fun _ _ _ h => h) (Or.inl ⟨by rfl, ?_⟩) ?_ ?_
                        rotate_left
                        · intro w'
                          go_simp
                          with_reducible rfl
                        rotate_left
                        · simp only [Act.put, List.setIfInBounds_toArray, List.set_cons_zero, List.set_cons_succ, i64_w, i32_w]
                          rfl
                        refine pure_ (i := 8) (N := some 47) (v := ?_) (a' := ?_) #[true, true, true, true, true, true, true, true, true, false, false, false, false, false, false, false, false, false] rfl rfl (any_of HT_.out (by kernel_rfl)) (fun _ _ _ h => h) (Or.inl ⟨by rfl, ?_⟩) ?_ ?_
                        rotate_left
                        · intro w'
                          go_simp
                          with_reducible rfl
                        rotate_left
                        · simp only [Act.put, List.setIfInBounds_toArray, List.set_cons_zero, List.set_cons_succ, i64_w, i32_w]
                          rfl
                        refine pure_ (i := 10) (N := some 49) (v := ?_) (a' := ?_) #[true, true, true, true, true, true, true, true, true, false, true, false, false, false, false, false, false, false] rfl rfl (any_of HT_.out (by kernel_rfl)) (fun _ _ _ h => h) (Or.inl ⟨by rfl, ?_⟩) ?_ ?_
                        rotate_left
                        · intro w'
                          go_simp
                          with_reducible rfl
                        rotate_left
                        · simp only [Act.put, List.setIfInBounds_toArray, List.set_cons_zero, List.set_cons_succ, i64_w, i32_w]
                          rfl
                        refine pure_ (i := 11) (N := some 50) (v := ?_) (a' := ?_) #[true, true, true, true, true, true, true, true, true, false, true, true, false, false, false, false, false, false] rfl rfl (any_of HT_.out (by kernel_rfl)) (fun _ _ _ h => h) (Or.inl ⟨by rfl, ?_⟩) ?_ ?_
                        rotate_left
                        · intro w'
                          go_simp
                          with_reducible rfl
                        rotate_left
                        · simp only [Act.put, List.setIfInBounds_toArray, List.set_cons_zero, List.set_cons_succ, i64_w, i32_w]
                          rfl
                        refine pure_ (i := 12) (N := some 51) (v := ?_) (a' := ?_) #[true, true, true, true, true, true, true, true, true, false, true, true, true, false, false, false, false, false] rfl rfl (any_of HT_.out (by kernel_rfl)) (fun _ _ _ h => h) (Or.inl ⟨by rfl, ?_⟩) ?_ ?_
                        rotate_left
                        · intro w'
                          go_simp
                          with_reducible rfl
                        rotate_left
                        · simp only [Act.put, List.setIfInBounds_toArray, List.set_cons_zero, List.set_cons_succ, i64_w, i32_w]
                          rfl
                        refine take_ (i := 13) (N := some 52) (v := ?_) (a' := ?_) #[true, true, true, true, true, true, true, true, true, false, true, true, true, true, false, false, false, false] rfl rfl (take_ofW HT_.out HW_.out (by kernel_rfl)) (fun _ _ _ h => h) (Or.inl ⟨by rfl, ?_⟩) hHeld ?_ ?_
                        rotate_left
                        · rintro w' ⟨s0, s1, s2⟩
                          go_simp
                          with_reducible rfl
                        rotate_left
                        · simp only [Act.put, List.setIfInBounds_toArray, List.set_cons_zero, List.set_cons_succ, i64_w, i32_w]
                          rfl
                        refine join_ (σ := Value × Value) 3 #[true, true, true, true, true, true, true, true, true, true, true, true, true, true, true, false, false, false] (fun s_ => [(48, s_.1), (53, s_.2)]) (fun s_ w' => (w'.cell? (ad340.add ((x4_1).toNat * 3)) = some (.int .u8 ((rd_T38 l0 x4_1).f0)) ∧ w'.cell? ⟨(ad340.add ((x4_1).toNat * 3)).block, (ad340.add ((x4_1).toNat * 3)).off + 1, none⟩ = some (.int .i64 ((rd_T38 l0 x4_1).f1)) ∧ w'.cell? ⟨(ad340.add ((x4_1).toNat * 3)).block, (ad340.add ((x4_1).toNat * 3)).off + 2, none⟩ = some (.int .i64 ((rd_T38 l0 x4_1).f2))) ∧ (Kd.R k38 38 w' w.heap.size (fun k_ => some k_ ≠ (s_.1 : Value).ownBlock ∧ some k_ ≠ (s_.2 : Value).ownBlock ∧ some k_ ≠ (.slice Ao72 x3_1.length co72 : Value).ownBlock) (.slice Ao76 t343.length co76) t343) ∧ (Kd.R k38 38 w' w.heap.size (fun k_ => some k_ ≠ (.slice Ao76 t343.length co76 : Value).ownBlock ∧ some k_ ≠ (s_.2 : Value).ownBlock ∧ some k_ ≠ (.slice Ao72 x3_1.length co72 : Value).ownBlock) s_.1 t348) ∧ (Kd.R k38 38 w' w.heap.size (fun k_ => some k_ ≠ (.slice Ao76 t343.length co76 : Value).ownBlock ∧ some k_ ≠ (s_.1 : Value).ownBlock ∧ some k_ ≠ (.slice Ao72 x3_1.length co72 : Value).ownBlock) s_.2 y352) ∧ (Kd.R k38 38 w' w.heap.size (fun k_ => some k_ ≠ (.slice Ao76 t343.length co76 : Value).ownBlock ∧ some k_ ≠ (s_.1 : Value).ownBlock ∧ some k_ ≠ (s_.2 : Value).ownBlock) (.slice Ao72 x3_1.length co72) x3_1) ∧ (Below w.heap.size w w')) ?_ ?_
                        rotate_left
                        · intro hCont
                          refine two_ (i := 9) (j := 14) (Ni := some 48) (Nj := some 53) #[true, true, true, true, true, true, true, true, true, true, true, true, true, true, false, false, false, false] #[true, true, true, true, true, true, true, true, true, false, true, true, true, true, true, false, false, false] rfl rfl rfl rfl (two_of HT_.out (by kernel_rfl)) (by decide) (by decide) (fun K hK => ?_) (fun K hK => ?_)
                          · skip
                            refine goes_ Tryd.func14 (by kernel_rfl) rfl #[.slice Ao72 x3_1.length co72] (by rfl) rfl rfl (by (try simp only [List.map_toArray, List.map_cons, List.map_nil]); first | done | rfl | (simp only [List.length_drop, List.length_take]; rfl)) ?_
                            with_reducible refine (capstanref03_Copy.calls _ _ x3_1 t348 _ ?side1 ?side2 A68.out).mono ?_
                            (case side1 => repeat (first | exact (Kd.R_reads' HO_3.out).2.2 | (with_reducible refine Kd.C_alloc ?_ _) | (with_reducible refine Kd.C_drewN ?_ _) | (with_reducible refine Kd.C_drew ?_)))
                            (case side2 => exact (Kd.R_reads' HO_3.out).2.1)
                            rintro e w77 ⟨v349, rfl, ho0, hb⟩
                            refine ⟨_, rfl, ?_⟩
                            have n0_ := Aside0.mk (Kd.R_elder' (by (with_reducible repeat (first | apply Kd.R_alloc | apply Kd.R_drewN | apply Kd.R_drew)); exact HO_3.out) (Kd.R_base ho0) hb)
                            have n1_ := Aside0.mk (Kd.R_elder' (by (with_reducible repeat (first | apply Kd.R_alloc | apply Kd.R_drewN | apply Kd.R_drew)); exact HO345.out) (Kd.R_base ho0) hb)
                            have n2_ := Aside0.mk (Kd.R_lower (Kd.R_new' (Kd.R_new' ho0 (Kd.R_lt (by (with_reducible repeat (first | apply Kd.R_alloc | apply Kd.R_drewN | apply Kd.R_drew)); exact HO_3.out))) (Kd.R_lt (by (with_reducible repeat (first | apply Kd.R_alloc | apply Kd.R_drewN | apply Kd.R_drew)); exact HO345.out))) (below_size (by repeat (first | (with_reducible first | exact HB.out | apply below_alloc | apply pw_below_drewN | apply below_drew1) | exact HB.out | exact ⟨HB.out.os, HB.out.tape, HB.out.output, HB.out.size, HB.out.block⟩))))
                            have n3_ := Aside0.mk (below_step (by repeat (first | (with_reducible first | exact HB.out | apply below_alloc | apply pw_below_drewN | apply below_drew1) | exact HB.out | exact ⟨HB.out.os, HB.out.tape, HB.out.output, HB.out.size, HB.out.block⟩)) hb)
                            clear HO_3
                            clear HO345
                            clear HB
                            have HO_3 := n0_
                            have HO345 := n1_
                            have HO350 := n2_
                            have HB := n3_
                            clear n0_ n1_ n2_ n3_
                            (try clear hb)
                            (try clear hb2)
                            (try clear hk)
                            (try clear hi)
                            (try clear ho0)
                            refine hK.out _ _ ⟨((HB.out.cell (World.block_lt_of_cell? w _ hw351_0)).trans hw351_0), ((HB.out.cell (World.block_lt_of_cell? w _ hw351_1)).trans hw351_1), ((HB.out.cell (World.block_lt_of_cell? w _ hw351_2)).trans hw351_2)⟩ (fun hHeld => ?_)
                            clear hK K
                            refine norm_ (a' := ?_) ?_ ?_
                            rotate_left
                            · show Act.put _ (some 48) _ = _
                              simp only [Act.put, List.setIfInBounds_toArray, List.set_cons_zero, List.set_cons_succ, i64_w, i32_w]
                              rfl
                            refine one_ (i := 14) (N := some 53) #[true, true, true, true, true, true, true, true, true, true, true, true, true, true, true, false, false, false] rfl rfl (one_of HT_.out (by kernel_rfl)) (by decide) (fun K hK => ?_)
                            refine Kd.R_lit_step k38 _ 38 ?hg (N := 53) ?hd (xs := ([(⟨(rd_T38 l0 x4_1).f0, (rd_T38 l0 x4_1).f1, (rd_T38 l0 x4_1).f2⟩ : S38)] : List (S38))) (inner := [.int .u8 ((rd_T38 l0 x4_1).f0), .int .i64 ((rd_T38 l0 x4_1).f1), .int .i64 ((rd_T38 l0 x4_1).f2)]) (ok := fun _ => True) (okp := fun _ => True) ?hr ?hp (fun _ hk => hk) trivial (Below.refl _ _) (Nat.le_refl _) (by simp) ?_; (case hd => rfl); (case hg => rfl); (case hr => first | (go_simp; done) | (go_simp; rfl)); (case hp => exact (Reps.c3 (show Kd.M k38 _ _ _ (⟨(rd_T38 l0 x4_1).f0, (rd_T38 l0 x4_1).f1, (rd_T38 l0 x4_1).f2⟩ : S38) [.int .u8 ((rd_T38 l0 x4_1).f0), .int .i64 ((rd_T38 l0 x4_1).f1), .int .i64 ((rd_T38 l0 x4_1).f2)] from (k38_mkM _ _ _ (⟨(rd_T38 l0 x4_1).f0, (rd_T38 l0 x4_1).f1, (rd_T38 l0 x4_1).f2⟩ : S38) )) (Reps.none _ _)))
                            intro v353 w78 ho79 hb hg_ hnew_
                            clear hg_ hnew_
                            (first | rw [← Ny352.out] at ho79 | (simp only [Int.reduceToNat] at ho79; rw [← Ny352.out] at ho79))
                            have n0_ := Aside0.mk (Kd.R_elder' (by (with_reducible repeat (first | apply Kd.R_alloc | apply Kd.R_drewN | apply Kd.R_drew)); exact HO_3.out) (Kd.R_base ho79) hb)
                            have n1_ := Aside0.mk (Kd.R_elder' (by (with_reducible repeat (first | apply Kd.R_alloc | apply Kd.R_drewN | apply Kd.R_drew)); exact HO345.out) (Kd.R_base ho79) hb)
                            have n2_ := Aside0.mk (Kd.R_elder' (by (with_reducible repeat (first | apply Kd.R_alloc | apply Kd.R_drewN | apply Kd.R_drew)); exact HO350.out) (Kd.R_base ho79) hb)
                            have n3_ := Aside0.mk (Kd.R_lower (Kd.R_new' (Kd.R_new' (Kd.R_new' ho79 (Kd.R_lt (by (with_reducible repeat (first | apply Kd.R_alloc | apply Kd.R_drewN | apply Kd.R_drew)); exact HO_3.out))) (Kd.R_lt (by (with_reducible repeat (first | apply Kd.R_alloc | apply Kd.R_drewN | apply Kd.R_drew)); exact HO345.out))) (Kd.R_lt (by (with_reducible repeat (first | apply Kd.R_alloc | apply Kd.R_drewN | apply Kd.R_drew)); exact HO350.out))) (below_size (by repeat (first | (with_reducible first | exact HB.out | apply below_alloc | apply pw_below_drewN | apply below_drew1) | exact HB.out | exact ⟨HB.out.os, HB.out.tape, HB.out.output, HB.out.size, HB.out.block⟩))))
                            have n4_ := Aside0.mk (below_step (by repeat (first | (with_reducible first | exact HB.out | apply below_alloc | apply pw_below_drewN | apply below_drew1) | exact HB.out | exact ⟨HB.out.os, HB.out.tape, HB.out.output, HB.out.size, HB.out.block⟩)) hb)
                            clear HO_3
                            clear HO345
                            clear HO350
                            clear HB
                            have HO_3 := n0_
                            have HO345 := n1_
                            have HO350 := n2_
                            have HO354 := n3_
                            have HB := n4_
                            clear n0_ n1_ n2_ n3_ n4_
                            clear hb ho79
                            refine hK.out _ _ ⟨((HB.out.cell (World.block_lt_of_cell? w _ hw351_0)).trans hw351_0), ((HB.out.cell (World.block_lt_of_cell? w _ hw351_1)).trans hw351_1), ((HB.out.cell (World.block_lt_of_cell? w _ hw351_2)).trans hw351_2)⟩ (fun hHeld => ?_)
                            clear hK K
                            refine norm_ (a' := ?_) ?_ ?_
                            rotate_left
                            · show Act.put _ (some 53) _ = _
                              simp only [Act.put, List.setIfInBounds_toArray, List.set_cons_zero, List.set_cons_succ, i64_w, i32_w]
                              rfl
                            exact norm_ (by simp only [putAll, Act.put, List.setIfInBounds_toArray, List.set_cons_zero, List.set_cons_succ]) (hCont (v349, v353) _ ⟨hHeld, (by (with_reducible repeat (first | apply Kd.R_alloc | apply Kd.R_drewN | apply Kd.R_drew)); exact Kd.R_mono HO345.out (fun _ hk => ⟨hk.1.2, ⟨hk.2, hk.1.1.2⟩⟩)), (by (with_reducible repeat (first | apply Kd.R_alloc | apply Kd.R_drewN | apply Kd.R_drew)); exact Kd.R_mono HO350.out (fun _ hk => ⟨hk.1.2, ⟨hk.2, hk.1.1.2⟩⟩)), (by (with_reducible repeat (first | apply Kd.R_alloc | apply Kd.R_drewN | apply Kd.R_drew)); exact Kd.R_mono HO354.out (fun _ hk => ⟨hk.1.2, ⟨hk.2, hk.1.1.2⟩⟩)), (by (with_reducible repeat (first | apply Kd.R_alloc | apply Kd.R_drewN | apply Kd.R_drew)); exact Kd.R_mono HO_3.out (fun _ hk => ⟨hk.1.1.2, ⟨hk.1.2, hk.2⟩⟩)), (by repeat (first | (with_reducible first | exact HB.out | apply below_alloc | apply pw_below_drewN | apply below_drew1) | exact HB.out | exact ⟨HB.out.os, HB.out.tape, HB.out.output, HB.out.size, HB.out.block⟩))⟩)
                          · skip
                            refine Kd.R_lit_step k38 _ 38 ?hg (N := 53) ?hd (xs := ([(⟨(rd_T38 l0 x4_1).f0, (rd_T38 l0 x4_1).f1, (rd_T38 l0 x4_1).f2⟩ : S38)] : List (S38))) (inner := [.int .u8 ((rd_T38 l0 x4_1).f0), .int .i64 ((rd_T38 l0 x4_1).f1), .int .i64 ((rd_T38 l0 x4_1).f2)]) (ok := fun _ => True) (okp := fun _ => True) ?hr ?hp (fun _ hk => hk) trivial (Below.refl _ _) (Nat.le_refl _) (by simp) ?_; (case hd => rfl); (case hg => rfl); (case hr => first | (go_simp; done) | (go_simp; rfl)); (case hp => exact (Reps.c3 (show Kd.M k38 _ _ _ (⟨(rd_T38 l0 x4_1).f0, (rd_T38 l0 x4_1).f1, (rd_T38 l0 x4_1).f2⟩ : S38) [.int .u8 ((rd_T38 l0 x4_1).f0), .int .i64 ((rd_T38 l0 x4_1).f1), .int .i64 ((rd_T38 l0 x4_1).f2)] from (k38_mkM _ _ _ (⟨(rd_T38 l0 x4_1).f0, (rd_T38 l0 x4_1).f1, (rd_T38 l0 x4_1).f2⟩ : S38) )) (Reps.none _ _)))
                            intro v353 w77 ho78 hb hg_ hnew_
                            clear hg_ hnew_
                            (first | rw [← Ny352.out] at ho78 | (simp only [Int.reduceToNat] at ho78; rw [← Ny352.out] at ho78))
                            have n0_ := Aside0.mk (Kd.R_elder' (by (with_reducible repeat (first | apply Kd.R_alloc | apply Kd.R_drewN | apply Kd.R_drew)); exact HO_3.out) (Kd.R_base ho78) hb)
                            have n1_ := Aside0.mk (Kd.R_elder' (by (with_reducible repeat (first | apply Kd.R_alloc | apply Kd.R_drewN | apply Kd.R_drew)); exact HO345.out) (Kd.R_base ho78) hb)
                            have n2_ := Aside0.mk (Kd.R_lower (Kd.R_new' (Kd.R_new' ho78 (Kd.R_lt (by (with_reducible repeat (first | apply Kd.R_alloc | apply Kd.R_drewN | apply Kd.R_drew)); exact HO_3.out))) (Kd.R_lt (by (with_reducible repeat (first | apply Kd.R_alloc | apply Kd.R_drewN | apply Kd.R_drew)); exact HO345.out))) (below_size (by repeat (first | (with_reducible first | exact HB.out | apply below_alloc | apply pw_below_drewN | apply below_drew1) | exact HB.out | exact ⟨HB.out.os, HB.out.tape, HB.out.output, HB.out.size, HB.out.block⟩))))
                            have n3_ := Aside0.mk (below_step (by repeat (first | (with_reducible first | exact HB.out | apply below_alloc | apply pw_below_drewN | apply below_drew1) | exact HB.out | exact ⟨HB.out.os, HB.out.tape, HB.out.output, HB.out.size, HB.out.block⟩)) hb)
                            clear HO_3
                            clear HO345
                            clear HB
                            have HO_3 := n0_
                            have HO345 := n1_
                            have HO354 := n2_
                            have HB := n3_
                            clear n0_ n1_ n2_ n3_
                            clear hb ho78
                            refine hK.out _ _ ⟨((HB.out.cell (World.block_lt_of_cell? w _ hw351_0)).trans hw351_0), ((HB.out.cell (World.block_lt_of_cell? w _ hw351_1)).trans hw351_1), ((HB.out.cell (World.block_lt_of_cell? w _ hw351_2)).trans hw351_2)⟩ (fun hHeld => ?_)
                            clear hK K
                            refine norm_ (a' := ?_) ?_ ?_
                            rotate_left
                            · show Act.put _ (some 53) _ = _
                              simp only [Act.put, List.setIfInBounds_toArray, List.set_cons_zero, List.set_cons_succ, i64_w, i32_w]
                              rfl
                            refine one_ (i := 9) (N := some 48) #[true, true, true, true, true, true, true, true, true, true, true, true, true, true, true, false, false, false] rfl rfl (one_of HT_.out (by kernel_rfl)) (by decide) (fun K hK => ?_)
                            refine goes_ Tryd.func14 (by kernel_rfl) rfl #[.slice Ao72 x3_1.length co72] (by rfl) rfl rfl (by (try simp only [List.map_toArray, List.map_cons, List.map_nil]); first | done | rfl | (simp only [List.length_drop, List.length_take]; rfl)) ?_
                            with_reducible refine (capstanref03_Copy.calls _ _ x3_1 t348 _ ?side1 ?side2 A68.out).mono ?_
                            (case side1 => repeat (first | exact (Kd.R_reads' HO_3.out).2.2 | (with_reducible refine Kd.C_alloc ?_ _) | (with_reducible refine Kd.C_drewN ?_ _) | (with_reducible refine Kd.C_drew ?_)))
                            (case side2 => exact (Kd.R_reads' HO_3.out).2.1)
                            rintro e w79 ⟨v349, rfl, ho0, hb⟩
                            refine ⟨_, rfl, ?_⟩
                            have n0_ := Aside0.mk (Kd.R_elder' (by (with_reducible repeat (first | apply Kd.R_alloc | apply Kd.R_drewN | apply Kd.R_drew)); exact HO_3.out) (Kd.R_base ho0) hb)
                            have n1_ := Aside0.mk (Kd.R_elder' (by (with_reducible repeat (first | apply Kd.R_alloc | apply Kd.R_drewN | apply Kd.R_drew)); exact HO345.out) (Kd.R_base ho0) hb)
                            have n2_ := Aside0.mk (Kd.R_elder' (by (with_reducible repeat (first | apply Kd.R_alloc | apply Kd.R_drewN | apply Kd.R_drew)); exact HO354.out) (Kd.R_base ho0) hb)
                            have n3_ := Aside0.mk (Kd.R_lower (Kd.R_new' (Kd.R_new' (Kd.R_new' ho0 (Kd.R_lt (by (with_reducible repeat (first | apply Kd.R_alloc | apply Kd.R_drewN | apply Kd.R_drew)); exact HO_3.out))) (Kd.R_lt (by (with_reducible repeat (first | apply Kd.R_alloc | apply Kd.R_drewN | apply Kd.R_drew)); exact HO345.out))) (Kd.R_lt (by (with_reducible repeat (first | apply Kd.R_alloc | apply Kd.R_drewN | apply Kd.R_drew)); exact HO354.out))) (below_size (by repeat (first | (with_reducible first | exact HB.out | apply below_alloc | apply pw_below_drewN | apply below_drew1) | exact HB.out | exact ⟨HB.out.os, HB.out.tape, HB.out.output, HB.out.size, HB.out.block⟩))))
                            have n4_ := Aside0.mk (below_step (by repeat (first | (with_reducible first | exact HB.out | apply below_alloc | apply pw_below_drewN | apply below_drew1) | exact HB.out | exact ⟨HB.out.os, HB.out.tape, HB.out.output, HB.out.size, HB.out.block⟩)) hb)
                            clear HO_3
                            clear HO345
                            clear HO354
                            clear HB
                            have HO_3 := n0_
                            have HO345 := n1_
                            have HO354 := n2_
                            have HO350 := n3_
                            have HB := n4_
                            clear n0_ n1_ n2_ n3_ n4_
                            (try clear hb)
                            (try clear hb2)
                            (try clear hk)
                            (try clear hi)
                            (try clear ho0)
                            refine hK.out _ _ ⟨((HB.out.cell (World.block_lt_of_cell? w _ hw351_0)).trans hw351_0), ((HB.out.cell (World.block_lt_of_cell? w _ hw351_1)).trans hw351_1), ((HB.out.cell (World.block_lt_of_cell? w _ hw351_2)).trans hw351_2)⟩ (fun hHeld => ?_)
                            clear hK K
                            refine norm_ (a' := ?_) ?_ ?_
                            rotate_left
                            · show Act.put _ (some 48) _ = _
                              simp only [Act.put, List.setIfInBounds_toArray, List.set_cons_zero, List.set_cons_succ, i64_w, i32_w]
                              rfl
                            exact norm_ (by simp only [putAll, Act.put, List.setIfInBounds_toArray, List.set_cons_zero, List.set_cons_succ]) (hCont (v349, v353) _ ⟨hHeld, (by (with_reducible repeat (first | apply Kd.R_alloc | apply Kd.R_drewN | apply Kd.R_drew)); exact Kd.R_mono HO345.out (fun _ hk => ⟨hk.2, ⟨hk.1.2, hk.1.1.2⟩⟩)), (by (with_reducible repeat (first | apply Kd.R_alloc | apply Kd.R_drewN | apply Kd.R_drew)); exact Kd.R_mono HO350.out (fun _ hk => ⟨hk.1.2, ⟨hk.2, hk.1.1.2⟩⟩)), (by (with_reducible repeat (first | apply Kd.R_alloc | apply Kd.R_drewN | apply Kd.R_drew)); exact Kd.R_mono HO354.out (fun _ hk => ⟨hk.1.2, ⟨hk.2, hk.1.1.2⟩⟩)), (by (with_reducible repeat (first | apply Kd.R_alloc | apply Kd.R_drewN | apply Kd.R_drew)); exact Kd.R_mono HO_3.out (fun _ hk => ⟨hk.1.1.2, ⟨hk.2, hk.1.2⟩⟩)), (by repeat (first | (with_reducible first | exact HB.out | apply below_alloc | apply pw_below_drewN | apply below_drew1) | exact HB.out | exact ⟨HB.out.os, HB.out.tape, HB.out.output, HB.out.size, HB.out.block⟩))⟩)
                        rintro ⟨v349, v353⟩ w80 ⟨hS_, h0_, h1_, h2_, h3_, h4_⟩
                        have n0_ : Aside0 (Kd.R k38 38 w80 w.heap.size (fun k_ => some k_ ≠ (v349 : Value).ownBlock ∧ some k_ ≠ (v353 : Value).ownBlock ∧ some k_ ≠ (.slice Ao72 x3_1.length co72 : Value).ownBlock) (.slice Ao76 t343.length co76) t343) := ⟨h0_⟩
                        have n1_ : Aside0 (Kd.R k38 38 w80 w.heap.size (fun k_ => some k_ ≠ (.slice Ao76 t343.length co76 : Value).ownBlock ∧ some k_ ≠ (v353 : Value).ownBlock ∧ some k_ ≠ (.slice Ao72 x3_1.length co72 : Value).ownBlock) v349 t348) := ⟨h1_⟩
                        have n2_ : Aside0 (Kd.R k38 38 w80 w.heap.size (fun k_ => some k_ ≠ (.slice Ao76 t343.length co76 : Value).ownBlock ∧ some k_ ≠ (v349 : Value).ownBlock ∧ some k_ ≠ (.slice Ao72 x3_1.length co72 : Value).ownBlock) v353 y352) := ⟨h2_⟩
                        have n3_ : Aside0 (Kd.R k38 38 w80 w.heap.size (fun k_ => some k_ ≠ (.slice Ao76 t343.length co76 : Value).ownBlock ∧ some k_ ≠ (v349 : Value).ownBlock ∧ some k_ ≠ (v353 : Value).ownBlock) (.slice Ao72 x3_1.length co72) x3_1) := ⟨h3_⟩
                        have n4_ : Aside0 (Below w.heap.size w w80) := ⟨h4_⟩
                        clear HO_3
                        clear HO345
                        clear HB
                        clear h0_ h1_ h2_ h3_ h4_
                        have HO345 := n0_
                        have HO350 := n1_
                        have HO354 := n2_
                        have HO_3 := n3_
                        have HB := n4_
                        clear n0_ n1_ n2_ n3_ n4_
                        have hHeld : w80.cell? (ad340.add ((x4_1).toNat * 3)) = some (.int .u8 ((rd_T38 l0 x4_1).f0)) ∧ w80.cell? ⟨(ad340.add ((x4_1).toNat * 3)).block, (ad340.add ((x4_1).toNat * 3)).off + 1, none⟩ = some (.int .i64 ((rd_T38 l0 x4_1).f1)) ∧ w80.cell? ⟨(ad340.add ((x4_1).toNat * 3)).block, (ad340.add ((x4_1).toNat * 3)).off + 2, none⟩ = some (.int .i64 ((rd_T38 l0 x4_1).f2)) := hS_
                        obtain ⟨Ao82, co82, eo82⟩ := Kd.R_slice HO354.out
                        (first | subst eo82 | (injection eo82 with f1_ f2_ f3_; have f4_ := f1_.symm; have f5_ := f3_.symm; clear f1_ f2_ f3_; subst f4_; subst f5_))
                        refine norm_ (a' := ?_) ?_ ?_
                        rotate_left
                        · simp only [putAll, Act.put, List.setIfInBounds_toArray, List.set_cons_zero, List.set_cons_succ]
                          rfl
                        refine one_ (i := 15) (N := some 54) #[true, true, true, true, true, true, true, true, true, true, true, true, true, true, true, true, false, false] rfl rfl (one_of HT_.out (by kernel_rfl)) (by decide) (fun K hK => ?_)
                        refine Kd.R_append_rows_step k38 (w0 := w) w.heap.size (by rfl) (.tmp 48) (.tmp 53) 23 38 (.agg #[(.int .u8 0), (.int .i64 0), (.int .i64 0)]) 24 rfl Tryd.underlying23 info38 rfl (by decide) (by omega) v349 t348 y352 _ _ _ (fun k_ => some k_ ≠ (.slice Ao72 x3_1.length co72 : Value).ownBlock ∧ some k_ ≠ (.slice Ao76 t343.length co76 : Value).ownBlock ∧ some k_ ≠ (.slice Ao82 y352.length co82 : Value).ownBlock) (fun _ => False) rfl rfl ?aO ?aR (fun _ _ h => h) (fun _ h => h.elim) ?aF ?aB ?aS ?aL ?_
                        (case aR => repeat (first | exact (Kd.R_reads' HO354.out).2.2 | (with_reducible refine Kd.C_alloc ?_ _) | (with_reducible refine Kd.C_drewN ?_ _) | (with_reducible refine Kd.C_drew ?_)))
                        (case aB => exact (by repeat (first | (with_reducible first | exact HB.out | apply below_alloc | apply pw_below_drewN | apply below_drew1) | exact HB.out | exact ⟨HB.out.os, HB.out.tape, HB.out.output, HB.out.size, HB.out.block⟩)))
                        (case aF => exact (fun k_ hk => ⟨Kd.fresh' (Kd.R_lt (by (with_reducible repeat (first | apply Kd.R_alloc | apply Kd.R_drewN | apply Kd.R_drew)); exact HO_3.out)) k_ hk, Kd.fresh' (Kd.R_lt (by (with_reducible repeat (first | apply Kd.R_alloc | apply Kd.R_drewN | apply Kd.R_drew)); exact HO345.out)) k_ hk, Kd.fresh' (Kd.R_lt (by (with_reducible repeat (first | apply Kd.R_alloc | apply Kd.R_drewN | apply Kd.R_drew)); exact HO354.out)) k_ hk⟩))
                        (case aO => exact (by (with_reducible repeat (first | apply Kd.R_alloc | apply Kd.R_drewN | apply Kd.R_drew)); exact Kd.R_mono HO350.out (fun _ hk => ⟨hk.2.2, ⟨hk.1, hk.2.1⟩⟩)))
                        (case aS => exact (below_size (by repeat (first | (with_reducible first | exact HB.out | apply below_alloc | apply pw_below_drewN | apply below_drew1) | exact HB.out | exact ⟨HB.out.os, HB.out.tape, HB.out.output, HB.out.size, HB.out.block⟩))))
                        (case aL => have := LMc69.out; omega)
                        intro v356 w81 ho hb hg hat
                        rw [← Ny355.out] at ho
                        have n0_ := Aside0.mk (Kd.R_after (ok := (fun k_ => some k_ ≠ (.slice Ao76 t343.length co76 : Value).ownBlock ∧ some k_ ≠ (.slice Ao82 y352.length co82 : Value).ownBlock)) (by (with_reducible repeat (first | apply Kd.R_alloc | apply Kd.R_drewN | apply Kd.R_drew)); exact Kd.R_mono HO_3.out (fun _ hk => ⟨⟨hk.1, hk.2.2⟩, hk.2.1⟩)) hg hat)
                        have n1_ := Aside0.mk (Kd.R_after (ok := (fun k_ => some k_ ≠ (.slice Ao72 x3_1.length co72 : Value).ownBlock ∧ some k_ ≠ (.slice Ao82 y352.length co82 : Value).ownBlock)) (by (with_reducible repeat (first | apply Kd.R_alloc | apply Kd.R_drewN | apply Kd.R_drew)); exact Kd.R_mono HO345.out (fun _ hk => ⟨⟨hk.2.2, hk.2.1⟩, hk.1⟩)) hg hat)
                        have n2_ := Aside0.mk (Kd.R_after (ok := (fun k_ => some k_ ≠ (.slice Ao72 x3_1.length co72 : Value).ownBlock ∧ some k_ ≠ (.slice Ao76 t343.length co76 : Value).ownBlock)) (by (with_reducible repeat (first | apply Kd.R_alloc | apply Kd.R_drewN | apply Kd.R_drew)); exact Kd.R_mono HO354.out (fun _ hk => ⟨⟨hk.2.2, hk.1⟩, hk.2.1⟩)) hg hat)
                        have n3_ := Aside0.mk (hb)
                        have n4_ := Aside0.mk (ho)
                        clear HO_3
                        clear HO345
                        clear HO354
                        clear HB
                        clear HO350
                        have HO_3 := n0_
                        have HO345 := n1_
                        have HO354 := n2_
                        have HB := n3_
                        have HO357 := n4_
                        clear n0_ n1_ n2_ n3_ n4_
                        clear ho hb hg hat
                        obtain ⟨Ao83, co83, eo83⟩ := Kd.R_slice HO357.out
                        (first | subst eo83 | (injection eo83 with f1_ f2_ f3_; have f4_ := f1_.symm; have f5_ := f3_.symm; clear f1_ f2_ f3_; subst f4_; subst f5_))
                        refine hK.out _ _ ⟨((HB.out.cell (World.block_lt_of_cell? w _ hw351_0)).trans hw351_0), ((HB.out.cell (World.block_lt_of_cell? w _ hw351_1)).trans hw351_1), ((HB.out.cell (World.block_lt_of_cell? w _ hw351_2)).trans hw351_2)⟩ (fun hHeld => ?_)
                        clear hK K
                        refine norm_ (a' := ?_) ?_ ?_
                        rotate_left
                        · show Act.put _ (some 54) _ = _
                          simp only [Act.put, List.setIfInBounds_toArray, List.set_cons_zero, List.set_cons_succ, i64_w, i32_w]
                          rfl
                        refine one_ (i := 16) (N := some 55) #[true, true, true, true, true, true, true, true, true, true, true, true, true, true, true, true, true, false] rfl rfl (one_of HT_.out (by kernel_rfl)) (by decide) (fun K hK => ?_)
                        refine goes_ Tryd.func11 (by kernel_rfl) rfl #[.slice Ao83 y355.length co83] (by rfl) rfl rfl (by (try simp only [List.map_toArray, List.map_cons, List.map_nil]); first | done | rfl | (simp only [List.length_drop, List.length_take]; rfl)) ?_
                        with_reducible refine (pool_May.calls k1 _ _ y355 false _ ?side1 ?side2 A70.out).mono ?_
                        (case side1 => repeat (first | exact (Kd.R_reads' HO357.out).2.2 | (with_reducible refine Kd.C_alloc ?_ _) | (with_reducible refine Kd.C_drewN ?_ _) | (with_reducible refine Kd.C_drew ?_)))
                        (case side2 => exact (Kd.R_reads' HO357.out).2.1)
                        rintro e w84 ⟨rfl, hb⟩
                        refine ⟨_, rfl, ?_⟩
                        have n0_ := Aside0.mk (Kd.R_below (by (with_reducible repeat (first | apply Kd.R_alloc | apply Kd.R_drewN | apply Kd.R_drew)); exact HO_3.out) hb)
                        have n1_ := Aside0.mk (Kd.R_below (by (with_reducible repeat (first | apply Kd.R_alloc | apply Kd.R_drewN | apply Kd.R_drew)); exact HO345.out) hb)
                        have n2_ := Aside0.mk (Kd.R_below (by (with_reducible repeat (first | apply Kd.R_alloc | apply Kd.R_drewN | apply Kd.R_drew)); exact HO354.out) hb)
                        have n3_ := Aside0.mk (Kd.R_below (by (with_reducible repeat (first | apply Kd.R_alloc | apply Kd.R_drewN | apply Kd.R_drew)); exact HO357.out) hb)
                        have n4_ := Aside0.mk (below_step (by repeat (first | (with_reducible first | exact HB.out | apply below_alloc | apply pw_below_drewN | apply below_drew1) | exact HB.out | exact ⟨HB.out.os, HB.out.tape, HB.out.output, HB.out.size, HB.out.block⟩)) hb)
                        clear HO_3
                        clear HO345
                        clear HO354
                        clear HO357
                        clear HB
                        have HO_3 := n0_
                        have HO345 := n1_
                        have HO354 := n2_
                        have HO357 := n3_
                        have HB := n4_
                        clear n0_ n1_ n2_ n3_ n4_
                        (try clear hb)
                        (try clear hb2)
                        (try clear hk)
                        (try clear hi)
                        refine hK.out _ _ ⟨((HB.out.cell (World.block_lt_of_cell? w _ hw351_0)).trans hw351_0), ((HB.out.cell (World.block_lt_of_cell? w _ hw351_1)).trans hw351_1), ((HB.out.cell (World.block_lt_of_cell? w _ hw351_2)).trans hw351_2)⟩ (fun hHeld => ?_)
                        clear hK K
                        refine norm_ (a' := ?_) ?_ ?_
                        rotate_left
                        · show Act.put _ (some 55) _ = _
                          simp only [Act.put, List.setIfInBounds_toArray, List.set_cons_zero, List.set_cons_succ, i64_w, i32_w]
                          rfl
                        refine pure_ (i := 17) (N := some 56) (v := ?_) (a' := ?_) #[true, true, true, true, true, true, true, true, true, true, true, true, true, true, true, true, true, true] rfl rfl (any_of HT_.out (by kernel_rfl)) (fun _ _ _ h => h) (Or.inl ⟨by rfl, ?_⟩) ?_ ?_
                        rotate_left
                        · intro w'
                          go_simp
                          with_reducible rfl
                        rotate_left
                        · simp only [Act.put, List.setIfInBounds_toArray, List.set_cons_zero, List.set_cons_succ, i64_w, i32_w]
                          rfl
                        refine done_ (done_of HT_.out (by kernel_rfl)) ?_
                        try go_wp2
                        go_roundg k1
                        case measure => have := HK1.out; omega
                        case rel => exact ⟨(x3_1), (wrap64 (x4_1 + 1)), (by first | rfl | (simp; done) | (simp [*]; done)), H', ⟨by have := HK1.out; omega⟩, ⟨by (with_reducible repeat (first | apply Kd.R_alloc | apply Kd.R_drewN | apply Kd.R_drew)); exact Kd.R_mono HO_3.out (fun _ hk => trivial)⟩, ⟨by repeat (first | (with_reducible first | exact HB.out | apply below_alloc | apply pw_below_drewN | apply below_drew1) | exact HB.out | exact ⟨HB.out.os, HB.out.tape, HB.out.output, HB.out.size, HB.out.block⟩)⟩⟩
                    · rw [if_neg c69] at H
                      exact absurd H (by simp)
            · rw [if_neg c8] at H
              exact absurd H (by simp)
          · rw [if_neg c7] at H
            have c7b0 : decide (x4_1 < (l0.length : Int)) = false := decide_eq_false c7
            clear c7
            have H' := Aside0.mk H
            clear H
            go_wp2
            go_loopg [9] k1 (fun kq v9 w' => ∃ (x9_2 : Int), v9 = .int .i64 x9_2 ∧ Aside0 (capstanlaw06_PoolOnce.l1 kq x3_1 x9_2 = some r) ∧ Aside0 (kq ≤ k1) ∧ Aside0 (Kd.R k38 38 w' w.heap.size (fun _ => True) u3 x3_1) ∧ Aside0 (Below w.heap.size w w'))
            case atStart => exact ⟨(0), (by first | rfl | (simp; done) | (simp [*]; done)), H', ⟨Nat.le_refl _⟩, ⟨by (with_reducible repeat (first | apply Kd.R_alloc | apply Kd.R_drewN | apply Kd.R_drew)); exact HO_3.out⟩, ⟨by repeat (first | (with_reducible first | exact HB.out | apply below_alloc | apply pw_below_drewN | apply below_drew1) | exact HB.out | exact ⟨HB.out.os, HB.out.tape, HB.out.output, HB.out.size, HB.out.block⟩)⟩⟩
            case round =>
              clear H'
              try clear c1
              try clear c2
              try clear p2
              try clear c3
              try clear p3
              try clear q3
              try clear hx3
              try clear c4
              try clear c5
              try clear q5
              try clear c6
              try clear p6
              try clear q6
              try clear c7
              try clear c7b0
              try clear c8
              try clear c11
              try clear c11b0
              try clear c11b1
              try clear c12
              try clear c13
              try clear c14
              try clear c29
              try clear c29b0
              try clear c30
              try clear p34
              try clear q34
              try clear hx34
              try clear p35
              try clear q35
              try clear hx35
              try clear c49
              try clear c49b0
              try clear c50
              try clear c50b0
              try clear c50b1
              try clear c51
              try clear c51b0
              try clear c51b1
              try clear c52
              try clear c52b0
              try clear c52b1
              try clear c53
              try clear c53b0
              try clear c53b1
              try clear c54
              try clear c54b0
              try clear c54b1
              try clear c56
              try clear q58
              try clear c59
              try clear c59b0
              try clear c59b1
              try clear c60
              try clear c60b0
              try clear c60b1
              try clear c61
              try clear c61b0
              try clear c61b1
              try clear c63
              try clear p64
              try clear q65
              try clear c66
              try clear c66b0
              try clear c67
              try clear c67b0
              try clear c67b1
              try clear c69
              try clear c71
              try clear hx340_0
              try clear hx340_1
              try clear hx340_2
              try clear hx342_0
              try clear hx342_1
              try clear hx342_2
              try clear hx351_0
              try clear hx351_1
              try clear hx351_2
              try clear p340
              try clear p342
              try clear p351
              try clear q340
              try clear q342
              try clear q351
              try clear q58
              try clear q65
              obtain ⟨x9_2, rfl, HA, HK2, HO_3, HB⟩ := hrel
              cases gk with
              | zero => exact absurd HA.out (by simp [capstanlaw06_PoolOnce.l1])
              | succ k2 =>
                have H := HA.out
                clear HA
                simp only [capstanlaw06_PoolOnce.l1] at H
                by_cases c85 : x9_2 < (x3_1.length : Int)
                · rw [if_pos c85] at H
                  have c85b0 : decide (x9_2 < (x3_1.length : Int)) = true := decide_eq_true c85
                  clear c85
                  by_cases c86 : 0 ≤ x9_2
                  · rw [if_pos c86] at H
                    have c86b0 : decide (0 ≤ x9_2) = true := decide_eq_true c86
                    clear c86
                    replace H := Option.bind_eq_some_iff.mp H
                    obtain ⟨t385, A870, H⟩ := H
                    replace H : (if t385 = x9_2 then (capstanlaw06_PoolOnce.l1 k2 x3_1 (wrap64 (x9_2 + 1))) else (none)) = some r := H
                    have A87 := Aside0.mk A870
                    clear A870
                    by_cases c88 : t385 = x9_2
                    · rw [if_pos c88] at H
                      have c88b0 : (t385 == x9_2) = true := beq_iff_eq.mpr c88
                      have c88b1 : (t385 != x9_2) = false := bne_eq_false_iff_eq.mpr c88
                      clear c88
                      have H' := Aside0.mk H
                      clear H
                      obtain ⟨Ao89, co89, eo89⟩ := Kd.R_slice HO_3.out
                      subst eo89
                      have p384 : 0 ≤ (x9_2 : Int) := of_decide_eq_true (by first | (with_reducible assumption) | assumption)
                      have q384 : x9_2 < (x3_1.length : Int) := of_decide_eq_true (by first | (with_reducible assumption) | assumption)
                      obtain ⟨ad384, e384, hx384_0, hx384_1, hx384_2⟩ := at_T38 (Kd.R_reads' HO_3.out).2.2 x9_2 p384 q384
                      cases e384
                      replace p384 := eq_true p384
                      replace q384 := eq_true q384
                      go_wp2_with (first | ((with_reducible refine gate_callee (f := 12) rfl ?_); refine goesL_ (some 151) rfl rfl Tryd.func12 (by kernel_rfl) rfl #[.slice (some ad384) x3_1.length co89, .agg #[.int .u8 ((rd_T38 x3_1 x9_2).f0), .int .i64 ((rd_T38 x3_1 x9_2).f1), .int .i64 ((rd_T38 x3_1 x9_2).f2)]] rfl (by (try simp only [List.map_toArray, List.map_cons, List.map_nil]); first | done | rfl | (simp only [List.length_drop, List.length_take]; rfl)) ?_; (with_reducible refine (pool_Find.calls k2 _ _ x3_1 ((rd_T38 x3_1 x9_2).f0) ((rd_T38 x3_1 x9_2).f1) ((rd_T38 x3_1 x9_2).f2) t385 _ ?side1 ?side2 A87.out).mono ?_); (case side1 => repeat (first | exact (Kd.R_reads' HO_3.out).2.2 | (with_reducible refine Kd.C_alloc ?_ _) | (with_reducible refine Kd.C_drewN ?_ _) | (with_reducible refine Kd.C_drew ?_))); (case side2 => exact (Kd.R_reads' HO_3.out).2.1); rintro e w90 ⟨rfl, hb⟩; refine ⟨_, rfl, ?_⟩; have n0_ := Aside0.mk (Kd.R_below (by (with_reducible repeat (first | apply Kd.R_alloc | apply Kd.R_drewN | apply Kd.R_drew)); exact HO_3.out) hb); have n1_ := Aside0.mk (below_step (by repeat (first | (with_reducible first | exact HB.out | apply below_alloc | apply pw_below_drewN | apply below_drew1) | exact HB.out | exact ⟨HB.out.os, HB.out.tape, HB.out.output, HB.out.size, HB.out.block⟩)) hb); clear HO_3; clear HB; have HO_3 := n0_; have HB := n1_; clear n0_ n1_; (try clear hb); (try clear hb2); (try clear hk); (try clear hi)))
                      go_roundg k2
                      case measure => have := HK1.out; have := HK2.out; omega
                      case rel => exact ⟨(wrap64 (x9_2 + 1)), (by first | rfl | (simp; done) | (simp [*]; done)), H', ⟨by have := HK1.out; have := HK2.out; omega⟩, ⟨by (with_reducible repeat (first | apply Kd.R_alloc | apply Kd.R_drewN | apply Kd.R_drew)); exact HO_3.out⟩, ⟨by repeat (first | (with_reducible first | exact HB.out | apply below_alloc | apply pw_below_drewN | apply below_drew1) | exact HB.out | exact ⟨HB.out.os, HB.out.tape, HB.out.output, HB.out.size, HB.out.block⟩)⟩⟩
                    · rw [if_neg c88] at H
                      exact absurd H (by simp)
                  · rw [if_neg c86] at H
                    exact absurd H (by simp)
                · rw [if_neg c85] at H
                  have c85b0 : decide (x9_2 < (x3_1.length : Int)) = false := decide_eq_false c85
                  clear c85
                  obtain rfl := Option.some.inj H
                  obtain ⟨Ao91, co91, eo91⟩ := Kd.R_slice HO_3.out
                  subst eo91
                  go_wp2
                  go_ret
                  exact ⟨by first | rfl | (simp [errW_none, errW_some] <;> rfl) | (simp [*, errW_none, errW_some] <;> rfl), by repeat (first | (with_reducible first | exact HB.out | apply below_alloc | apply pw_below_drewN | apply below_drew1) | exact HB.out | exact ⟨HB.out.os, HB.out.tape, HB.out.output, HB.out.size, HB.out.block⟩)⟩
  · replace c3 := Bool.eq_false_iff.mpr c3
    subst c3
    have H1 : (none) = some r := by rw [if_neg (show ¬ (false = true) by decide)] at H; exact H
    clear H
    have H := H1
    clear H1
    exact absurd H (by simp)

/-- THE ONE PURE STATEMENT of capstanlaw06_PoolOnce: yours. -/
def capstanlaw06_PoolOnce.Pure : Prop := ∀ (l0 : List (S38)), (l0.length ≤ maxLen ∧ ∀ y0_ ∈ l0, (Lit.int .u8 y0_.f0).wf = true ∧ (Lit.int .i64 y0_.f1).wf = true ∧ (Lit.int .i64 y0_.f2).wf = true) → ∃ k, capstanlaw06_PoolOnce.f k l0 = some true
theorem capstanlaw06_PoolOnce.walk (P : capstanlaw06_PoolOnce.Pure) (A0 : Option Addr) (c0 : Nat) (l0 : List (S38)) (w : World) (hG : Gl w) (hr0 : Kd.C k38 w A0 l0.length l0) (hc0 : l0.length ≤ c0) (g0 : l0.length ≤ maxLen ∧ ∀ y0_ ∈ l0, (Lit.int .u8 y0_.f0).wf = true ∧ (Lit.int .i64 y0_.f1).wf = true ∧ (Lit.int .i64 y0_.f2).wf = true) :
    Calls Tryd.prog 5 #[.slice A0 l0.length c0] w fun e w' => e = .returned (.bool true) ∧ Below w.heap.size w w' := by
  obtain ⟨k, h⟩ := P l0 g0
  refine (capstanlaw06_PoolOnce.calls k _ _ l0 true w hG hr0 hc0 h).mono ?_
  rintro e w' ⟨rfl, hd⟩
  exact ⟨rfl, hd⟩

end Go.Proofs.YtjnmomhkiknhdaaDoor.P
