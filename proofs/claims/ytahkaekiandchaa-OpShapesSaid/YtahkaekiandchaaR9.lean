/- Contracts of the functions of this seat (each: the call of the function does what the plain Lean function of the same name tells; the conditions stand in each statement). Written by a program of this session and by hand; checked by Lean. -/
import Derived.Test.YtahkaekiandchaaR0
import Derived.Test.YtahkaekiandchaaR2
import Derived.Test.YtahkaekiandchaaR8
namespace Go.Proofs.Ytahkaekiandchaa.R
open Go.RowKit Go.Proofs.YtahkaekiandchaaW.PrintWords Go.Proofs.YtahkaekiandchaaW.PrintLast Go.Proofs.YtahkaekiandchaaW.PrintMore
attribute [local go_sem] max2_int min2_int max_two min_two max_three min_three max_four min_four   -- for this text's walks alone
set_option linter.unusedVariables false
set_option linter.unusedSimpArgs false

/-! ### capstanlaw04_OpShapes: function 3 -/
mutual
def capstanlaw04_OpShapes.l0 : Nat → Int → List Int → List Int → Bool → Int → Option (Bool)
  | 0, _, _, _, _, _ => none
  | k + 1, x0, x3, x4, x5, x6 => if x6 < 2 then ((op_Of.f k x0).bind fun bt507 => (if (bt507.2.2 != x5) = true then (none) else ((capstanref04_Same.f k bt507.1 x3).bind fun t515 => (if t515 = true then ((capstanref04_Same.f k bt507.2.1 x4).bind fun t516 => (capstanlaw04_OpShapes.j1 k x0 x3 x4 x5 x6 (!t516) bt507.1 bt507.2.1)) else (none))))) else (some true)
def capstanlaw04_OpShapes.j1 : Nat → Int → List Int → List Int → Bool → Int → Bool → List Int → List Int → Option (Bool)
  | 0, _, _, _, _, _, _, _, _ => none
  | k + 1, x0, x3, x4, x5, x6, x42, x515000, x515001 => if x42 = true then (none) else (capstanlaw04_OpShapes.l1 k x0 x3 x4 x5 x6 0 x515000 x515001)
def capstanlaw04_OpShapes.l1 : Nat → Int → List Int → List Int → Bool → Int → Int → List Int → List Int → Option (Bool)
  | 0, _, _, _, _, _, _, _, _ => none
  | k + 1, x0, x3, x4, x5, x6, x9, x515000, x515001 => if x9 < (x515000.length : Int) then (if 0 ≤ x9 then (capstanlaw04_OpShapes.l1 k x0 x3 x4 x5 x6 (wrap64 (x9 + 1)) (x515000.set (x9 : Int).toNat 77) x515001) else (none)) else (capstanlaw04_OpShapes.l2 k x0 x3 x4 x5 x6 0 x515000 x515001)
def capstanlaw04_OpShapes.l2 : Nat → Int → List Int → List Int → Bool → Int → Int → List Int → List Int → Option (Bool)
  | 0, _, _, _, _, _, _, _, _ => none
  | k + 1, x0, x3, x4, x5, x6, x10, x515000, x515001 => if x10 < (x515001.length : Int) then (if 0 ≤ x10 then (capstanlaw04_OpShapes.l2 k x0 x3 x4 x5 x6 (wrap64 (x10 + 1)) x515000 (x515001.set (x10 : Int).toNat 77)) else (none)) else (capstanlaw04_OpShapes.l0 k x0 x3 x4 x5 (wrap64 (x6 + 1)))
end
def capstanlaw04_OpShapes.f (k : Nat) (a0 : Int) : Option (Bool) := (capstanref04_Of.f k a0).bind fun bt500 => (capstanlaw04_OpShapes.l0 k a0 bt500.1 bt500.2.1 bt500.2.2 0)
theorem capstanlaw04_OpShapes.mono_l : ∀ k, (∀ y0 y1 y2 y3 y4, LeO (capstanlaw04_OpShapes.l0 k y0 y1 y2 y3 y4) (capstanlaw04_OpShapes.l0 (k + 1) y0 y1 y2 y3 y4)) ∧ (∀ y0 y1 y2 y3 y4 y5 y6 y7, LeO (capstanlaw04_OpShapes.j1 k y0 y1 y2 y3 y4 y5 y6 y7) (capstanlaw04_OpShapes.j1 (k + 1) y0 y1 y2 y3 y4 y5 y6 y7)) ∧ (∀ y0 y1 y2 y3 y4 y5 y6 y7, LeO (capstanlaw04_OpShapes.l1 k y0 y1 y2 y3 y4 y5 y6 y7) (capstanlaw04_OpShapes.l1 (k + 1) y0 y1 y2 y3 y4 y5 y6 y7)) ∧ (∀ y0 y1 y2 y3 y4 y5 y6 y7, LeO (capstanlaw04_OpShapes.l2 k y0 y1 y2 y3 y4 y5 y6 y7) (capstanlaw04_OpShapes.l2 (k + 1) y0 y1 y2 y3 y4 y5 y6 y7))
  | 0 => ⟨fun _ _ _ _ _ r h => by simp [capstanlaw04_OpShapes.l0] at h, fun _ _ _ _ _ _ _ _ r h => by simp [capstanlaw04_OpShapes.j1] at h, fun _ _ _ _ _ _ _ _ r h => by simp [capstanlaw04_OpShapes.l1] at h, fun _ _ _ _ _ _ _ _ r h => by simp [capstanlaw04_OpShapes.l2] at h⟩
  | k + 1 => by
    obtain ⟨ih0, ih1, ih2, ih3⟩ := capstanlaw04_OpShapes.mono_l k
    refine ⟨?_, ?_, ?_, ?_⟩
    · intro y0 y1 y2 y3 y4
      unfold capstanlaw04_OpShapes.l0
      repeat' first
      | (with_reducible exact ih0 _ _ _ _ _)
      | (with_reducible exact ih1 _ _ _ _ _ _ _ _)
      | (with_reducible exact ih2 _ _ _ _ _ _ _ _)
      | (with_reducible exact ih3 _ _ _ _ _ _ _ _)
      | (with_reducible exact capstanref04_Of.mono _ _)
      | (with_reducible exact capstanref04_Same.mono _ _ _)
      | (with_reducible exact op_Of.mono _ _)
      | (with_reducible exact LeO.refl _)
      | (with_reducible exact LeO.none _)
      | (with_reducible refine LeO.ite ?_ ?_)
      | (with_reducible refine LeO.bind ?_ (fun _ => ?_))
      | exact ih0 _ _ _ _ _
      | exact ih1 _ _ _ _ _ _ _ _
      | exact ih2 _ _ _ _ _ _ _ _
      | exact ih3 _ _ _ _ _ _ _ _
      | exact capstanref04_Of.mono _ _
      | exact capstanref04_Same.mono _ _ _
      | exact op_Of.mono _ _
      | exact LeO.none _
      | refine LeO.ite ?_ ?_
      | refine LeO.bind ?_ (fun _ => ?_)
    · intro y0 y1 y2 y3 y4 y5 y6 y7
      unfold capstanlaw04_OpShapes.j1
      repeat' first
      | (with_reducible exact ih0 _ _ _ _ _)
      | (with_reducible exact ih1 _ _ _ _ _ _ _ _)
      | (with_reducible exact ih2 _ _ _ _ _ _ _ _)
      | (with_reducible exact ih3 _ _ _ _ _ _ _ _)
      | (with_reducible exact capstanref04_Of.mono _ _)
      | (with_reducible exact capstanref04_Same.mono _ _ _)
      | (with_reducible exact op_Of.mono _ _)
      | (with_reducible exact LeO.refl _)
      | (with_reducible exact LeO.none _)
      | (with_reducible refine LeO.ite ?_ ?_)
      | (with_reducible refine LeO.bind ?_ (fun _ => ?_))
      | exact ih0 _ _ _ _ _
      | exact ih1 _ _ _ _ _ _ _ _
      | exact ih2 _ _ _ _ _ _ _ _
      | exact ih3 _ _ _ _ _ _ _ _
      | exact capstanref04_Of.mono _ _
      | exact capstanref04_Same.mono _ _ _
      | exact op_Of.mono _ _
      | exact LeO.none _
      | refine LeO.ite ?_ ?_
      | refine LeO.bind ?_ (fun _ => ?_)
    · intro y0 y1 y2 y3 y4 y5 y6 y7
      unfold capstanlaw04_OpShapes.l1
      repeat' first
      | (with_reducible exact ih0 _ _ _ _ _)
      | (with_reducible exact ih1 _ _ _ _ _ _ _ _)
      | (with_reducible exact ih2 _ _ _ _ _ _ _ _)
      | (with_reducible exact ih3 _ _ _ _ _ _ _ _)
      | (with_reducible exact capstanref04_Of.mono _ _)
      | (with_reducible exact capstanref04_Same.mono _ _ _)
      | (with_reducible exact op_Of.mono _ _)
      | (with_reducible exact LeO.refl _)
      | (with_reducible exact LeO.none _)
      | (with_reducible refine LeO.ite ?_ ?_)
      | (with_reducible refine LeO.bind ?_ (fun _ => ?_))
      | exact ih0 _ _ _ _ _
      | exact ih1 _ _ _ _ _ _ _ _
      | exact ih2 _ _ _ _ _ _ _ _
      | exact ih3 _ _ _ _ _ _ _ _
      | exact capstanref04_Of.mono _ _
      | exact capstanref04_Same.mono _ _ _
      | exact op_Of.mono _ _
      | exact LeO.none _
      | refine LeO.ite ?_ ?_
      | refine LeO.bind ?_ (fun _ => ?_)
    · intro y0 y1 y2 y3 y4 y5 y6 y7
      unfold capstanlaw04_OpShapes.l2
      repeat' first
      | (with_reducible exact ih0 _ _ _ _ _)
      | (with_reducible exact ih1 _ _ _ _ _ _ _ _)
      | (with_reducible exact ih2 _ _ _ _ _ _ _ _)
      | (with_reducible exact ih3 _ _ _ _ _ _ _ _)
      | (with_reducible exact capstanref04_Of.mono _ _)
      | (with_reducible exact capstanref04_Same.mono _ _ _)
      | (with_reducible exact op_Of.mono _ _)
      | (with_reducible exact LeO.refl _)
      | (with_reducible exact LeO.none _)
      | (with_reducible refine LeO.ite ?_ ?_)
      | (with_reducible refine LeO.bind ?_ (fun _ => ?_))
      | exact ih0 _ _ _ _ _
      | exact ih1 _ _ _ _ _ _ _ _
      | exact ih2 _ _ _ _ _ _ _ _
      | exact ih3 _ _ _ _ _ _ _ _
      | exact capstanref04_Of.mono _ _
      | exact capstanref04_Same.mono _ _ _
      | exact op_Of.mono _ _
      | exact LeO.none _
      | refine LeO.ite ?_ ?_
      | refine LeO.bind ?_ (fun _ => ?_)
theorem capstanlaw04_OpShapes.mono : ∀ a0 k, LeO (capstanlaw04_OpShapes.f k a0) (capstanlaw04_OpShapes.f (k + 1) a0) := by
  intro a0 k
  obtain ⟨ih0, ih1, ih2, ih3⟩ := capstanlaw04_OpShapes.mono_l k
  unfold capstanlaw04_OpShapes.f
  repeat' first
      | (with_reducible exact ih0 _ _ _ _ _)
      | (with_reducible exact ih1 _ _ _ _ _ _ _ _)
      | (with_reducible exact ih2 _ _ _ _ _ _ _ _)
      | (with_reducible exact ih3 _ _ _ _ _ _ _ _)
      | (with_reducible exact capstanref04_Of.mono _ _)
      | (with_reducible exact capstanref04_Same.mono _ _ _)
      | (with_reducible exact op_Of.mono _ _)
      | (with_reducible exact LeO.refl _)
      | (with_reducible exact LeO.none _)
      | (with_reducible refine LeO.ite ?_ ?_)
      | (with_reducible refine LeO.bind ?_ (fun _ => ?_))
      | exact ih0 _ _ _ _ _
      | exact ih1 _ _ _ _ _ _ _ _
      | exact ih2 _ _ _ _ _ _ _ _
      | exact ih3 _ _ _ _ _ _ _ _
      | exact capstanref04_Of.mono _ _
      | exact capstanref04_Same.mono _ _ _
      | exact op_Of.mono _ _
      | exact LeO.none _
      | refine LeO.ite ?_ ?_
      | refine LeO.bind ?_ (fun _ => ?_)
set_option maxHeartbeats 8000000 in
set_option maxRecDepth 100000 in
theorem capstanlaw04_OpShapes.calls (k : Nat) (a0 : Int) (r : Bool) (w : World) (h : capstanlaw04_OpShapes.f k a0 = some r) :
    Calls Try.prog 3 #[.int .u8 a0] w fun e w' => e = .returned (.bool r) ∧ Below w.heap.size w w' := by
  have hu26 := Try.underlying26
  have HB := Aside0.mk (Below.refl w.heap.size w)
  have H : ((capstanref04_Of.f k a0).bind fun bt500 => (capstanlaw04_OpShapes.l0 k a0 bt500.1 bt500.2.1 bt500.2.2 0)) = some r := h
  clear h
  replace H := Option.bind_eq_some_iff.mp H
  obtain ⟨⟨t500, t501, t502⟩, A20, H⟩ := H
  replace H : (capstanlaw04_OpShapes.l0 k a0 t500 t501 t502 0) = some r := H
  have A2 := Aside0.mk A20
  clear A20
  have H' := Aside0.mk H
  clear H
  go_enter Try.func3, Try.ntmps3
  go_wp2_with (first | ((with_reducible refine gate_callee (f := 4) rfl ?_); refine goesL_ (some 13) rfl rfl Try.func4 (by kernel_rfl) rfl #[.int .u8 a0] rfl (by (try simp only [List.map_toArray, List.map_cons, List.map_nil]); first | done | rfl | (simp only [List.length_drop, List.length_take]; rfl)) ?_; (with_reducible refine (capstanref04_Of.calls k a0 t500 t501 t502 _ A2.out).mono ?_); rintro e w3 ⟨v503, v505, rfl, ho0, ho1, hb⟩; refine ⟨_, rfl, ?_⟩; have n0_ := Aside0.mk (Kd.R_lower ho0 (below_size (by repeat (first | (with_reducible first | exact HB.out | apply below_alloc | apply pw_below_drewN | apply below_drew1) | exact HB.out | exact ⟨HB.out.os, HB.out.tape, HB.out.output, HB.out.size, HB.out.block⟩)))); have n1_ := Aside0.mk (Kd.R_lower ho1 (below_size (by repeat (first | (with_reducible first | exact HB.out | apply below_alloc | apply pw_below_drewN | apply below_drew1) | exact HB.out | exact ⟨HB.out.os, HB.out.tape, HB.out.output, HB.out.size, HB.out.block⟩)))); have n2_ := Aside0.mk (below_step (by repeat (first | (with_reducible first | exact HB.out | apply below_alloc | apply pw_below_drewN | apply below_drew1) | exact HB.out | exact ⟨HB.out.os, HB.out.tape, HB.out.output, HB.out.size, HB.out.block⟩)) hb); clear HB; have HO504 := n0_; have HO506 := n1_; have HB := n2_; clear n0_ n1_ n2_; (try clear hb); (try clear hb2); (try clear hk); (try clear hi); (try clear ho0); (try clear ho1)))
  go_loopg [6] k (fun kq v6 w' => ∃ (x3_1 : List Int) (x4_1 : List Int) (x6_1 : Int), v6 = .int .i64 x6_1 ∧ Aside0 (capstanlaw04_OpShapes.l0 kq a0 x3_1 x4_1 t502 x6_1 = some r) ∧ Aside0 (kq ≤ k) ∧ Aside0 (Kd.R (Kd.int .u8) 5 w' w.heap.size (fun k_ => some k_ ≠ (v505 : Value).ownBlock) v503 x3_1) ∧ Aside0 (Kd.R (Kd.int .u8) 5 w' w.heap.size (fun k_ => some k_ ≠ (v503 : Value).ownBlock) v505 x4_1) ∧ Aside0 (Below w.heap.size w w'))
  case atStart => exact ⟨(t500), (t501), (0), (by first | rfl | (simp; done) | (simp [*]; done)), H', ⟨Nat.le_refl _⟩, ⟨by (with_reducible repeat (first | apply Kd.R_alloc | apply Kd.R_drewN | apply Kd.R_drew)); exact HO504.out⟩, ⟨by (with_reducible repeat (first | apply Kd.R_alloc | apply Kd.R_drewN | apply Kd.R_drew)); exact HO506.out⟩, ⟨by repeat (first | (with_reducible first | exact HB.out | apply below_alloc | apply pw_below_drewN | apply below_drew1) | exact HB.out | exact ⟨HB.out.os, HB.out.tape, HB.out.output, HB.out.size, HB.out.block⟩)⟩⟩
  case round =>
    clear H'
    try clear p2
    try clear c3
    obtain ⟨x3_1, x4_1, x6_1, rfl, HA, HK1, HO_3, HO_4, HB⟩ := hrel
    cases gk with
    | zero => exact absurd HA.out (by simp [capstanlaw04_OpShapes.l0])
    | succ k1 =>
      have H := HA.out
      clear HA
      simp only [capstanlaw04_OpShapes.l0] at H
      by_cases c4 : x6_1 < 2
      · rw [if_pos c4] at H
        have c4b0 : decide (x6_1 < 2) = true := decide_eq_true c4
        clear c4
        replace H := Option.bind_eq_some_iff.mp H
        obtain ⟨⟨t507, t510, t513⟩, A50, H⟩ := H
        replace H : (if (t513 != t502) = true then (none) else ((capstanref04_Same.f k1 t507 x3_1).bind fun t515 => (if t515 = true then ((capstanref04_Same.f k1 t510 x4_1).bind fun t516 => (capstanlaw04_OpShapes.j1 k1 a0 x3_1 x4_1 t502 x6_1 (!t516) t507 t510)) else (none)))) = some r := H
        have A5 := Aside0.mk A50
        clear A50
        have HC6 := Aside0.mk H
        clear H
        go_upto_region 6 with (first | ((with_reducible refine gate_callee (f := 5) rfl ?_); refine goesL_ (some 23) rfl rfl Try.func5 (by kernel_rfl) rfl #[.int .u8 a0] rfl (by (try simp only [List.map_toArray, List.map_cons, List.map_nil]); first | done | rfl | (simp only [List.length_drop, List.length_take]; rfl)) ?_; (with_reducible refine (op_Of.calls k1 a0 t507 t510 t513 _ A5.out).mono ?_); rintro e w7 ⟨v508, v511, rfl, ho0, ho1, hb⟩; refine ⟨_, rfl, ?_⟩; have n0_ := Aside0.mk (Kd.R_mono (Kd.R_told (Kd.R_told (Kd.R_old (by (with_reducible repeat (first | apply Kd.R_alloc | apply Kd.R_drewN | apply Kd.R_drew)); exact HO_3.out) hb) (Kd.R_base ho0)) (Kd.R_base ho1)) (fun _ h_ => h_.1)); have n1_ := Aside0.mk (Kd.R_mono (Kd.R_told (Kd.R_told (Kd.R_old (by (with_reducible repeat (first | apply Kd.R_alloc | apply Kd.R_drewN | apply Kd.R_drew)); exact HO_4.out) hb) (Kd.R_base ho0)) (Kd.R_base ho1)) (fun _ h_ => h_.1)); have n2_ := Aside0.mk (Kd.R_lower (Kd.R_new' (Kd.R_new' ho0 (Kd.R_lt (by (with_reducible repeat (first | apply Kd.R_alloc | apply Kd.R_drewN | apply Kd.R_drew)); exact HO_3.out))) (Kd.R_lt (by (with_reducible repeat (first | apply Kd.R_alloc | apply Kd.R_drewN | apply Kd.R_drew)); exact HO_4.out))) (below_size (by repeat (first | (with_reducible first | exact HB.out | apply below_alloc | apply pw_below_drewN | apply below_drew1) | exact HB.out | exact ⟨HB.out.os, HB.out.tape, HB.out.output, HB.out.size, HB.out.block⟩)))); have n3_ := Aside0.mk (Kd.R_lower (Kd.R_new' (Kd.R_new' ho1 (Kd.R_lt (by (with_reducible repeat (first | apply Kd.R_alloc | apply Kd.R_drewN | apply Kd.R_drew)); exact HO_3.out))) (Kd.R_lt (by (with_reducible repeat (first | apply Kd.R_alloc | apply Kd.R_drewN | apply Kd.R_drew)); exact HO_4.out))) (below_size (by repeat (first | (with_reducible first | exact HB.out | apply below_alloc | apply pw_below_drewN | apply below_drew1) | exact HB.out | exact ⟨HB.out.os, HB.out.tape, HB.out.output, HB.out.size, HB.out.block⟩)))); have n4_ := Aside0.mk (below_step (by repeat (first | (with_reducible first | exact HB.out | apply below_alloc | apply pw_below_drewN | apply below_drew1) | exact HB.out | exact ⟨HB.out.os, HB.out.tape, HB.out.output, HB.out.size, HB.out.block⟩)) hb); clear HO_3; clear HO_4; clear HB; have HO_3 := n0_; have HO_4 := n1_; have HO509 := n2_; have HO512 := n3_; have HB := n4_; clear n0_ n1_ n2_ n3_ n4_; (try clear hb); (try clear hb2); (try clear hk); (try clear hi); (try clear ho0); (try clear ho1)) | ((with_reducible refine gate_dst (N := 7) rfl ?_); refine box_event ?hg (N := 7) ?hd (cs := #[.slice none 0 0, .slice none 0 0]) (t := 26) ?hr ?_; (case hd => rfl); (case hg => rfl); (case hr => first | (go_simp; done) | (go_simp; rfl)); intro gb514 hg w8 hbox hb; have n0_ := Aside0.mk (Kd.R_below (by (with_reducible repeat (first | apply Kd.R_alloc | apply Kd.R_drewN | apply Kd.R_drew)); exact HO_3.out) hb); have n1_ := Aside0.mk (Kd.R_below (by (with_reducible repeat (first | apply Kd.R_alloc | apply Kd.R_drewN | apply Kd.R_drew)); exact HO_4.out) hb); have n2_ := Aside0.mk (Kd.R_below (by (with_reducible repeat (first | apply Kd.R_alloc | apply Kd.R_drewN | apply Kd.R_drew)); exact HO509.out) hb); have n3_ := Aside0.mk (Kd.R_below (by (with_reducible repeat (first | apply Kd.R_alloc | apply Kd.R_drewN | apply Kd.R_drew)); exact HO512.out) hb); have n4_ := Aside0.mk (below_step (by repeat (first | (with_reducible first | exact HB.out | apply below_alloc | apply pw_below_drewN | apply below_drew1) | exact HB.out | exact ⟨HB.out.os, HB.out.tape, HB.out.output, HB.out.size, HB.out.block⟩)) hb); have n5_ := Aside0.mk (hbox); have n6_ := Aside0.mk ((by rw [hg]; exact (below_size (by repeat (first | (with_reducible first | exact HB.out | apply below_alloc | apply pw_below_drewN | apply below_drew1) | exact HB.out | exact ⟨HB.out.os, HB.out.tape, HB.out.output, HB.out.size, HB.out.block⟩))) : w.heap.size ≤ gb514)); have n7_ := Aside0.mk ((by rw [hg]; exact (below_size (by repeat (first | (with_reducible first | exact HB.out | apply below_alloc | apply pw_below_drewN | apply below_drew1) | exact HB.out | exact ⟨HB.out.os, HB.out.tape, HB.out.output, HB.out.size, HB.out.block⟩))) : w.heap.size ≤ gb514)); clear HO_3; clear HO_4; clear HO509; clear HO512; clear HB; have HO_3 := n0_; have HO_4 := n1_; have HO509 := n2_; have HO512 := n3_; have HB := n4_; have BK514 := n5_; have GW514 := n6_; have GE514 := n7_; clear n0_ n1_ n2_ n3_ n4_ n5_ n6_ n7_; clear hb hbox hg; obtain ⟨Ao9, co9, eo9⟩ := Kd.R_slice HO509.out; subst eo9; have hcz10_0 : w8.cell? ⟨gb514, 0, none⟩ = some (.slice none 0 0) := (blk_cell BK514.out 0).trans rfl; have hcz10_1 : w8.cell? ⟨gb514, 1, none⟩ = some (.slice none 0 0) := (blk_cell BK514.out 1).trans rfl; have hfz10_0 := blk_frozen BK514.out 0; have hfz10_1 := blk_frozen BK514.out 1; obtain ⟨Ao11, co11, eo11⟩ := Kd.R_slice HO512.out; subst eo11))
        (try simp only [Act.put, List.setIfInBounds_toArray, List.set_cons_zero, List.set_cons_succ])
        go_cut [42] (fun v42 wc => ∃ (kq : Nat) (x42_5 : Bool), v42 = .bool x42_5 ∧ Aside0 (capstanlaw04_OpShapes.j1 kq a0 x3_1 x4_1 t502 x6_1 x42_5 t507 t510 = some r) ∧ Aside0 (kq ≤ k1) ∧ Aside0 (Kd.R (Kd.int .u8) 5 wc w.heap.size (fun k_ => some k_ ≠ (v505 : Value).ownBlock ∧ some k_ ≠ ((.slice Ao9 t507.length co9) : Value).ownBlock ∧ some k_ ≠ ((.slice Ao11 t510.length co11) : Value).ownBlock) v503 x3_1) ∧ Aside0 (Kd.R (Kd.int .u8) 5 wc w.heap.size (fun k_ => some k_ ≠ (v503 : Value).ownBlock ∧ some k_ ≠ ((.slice Ao9 t507.length co9) : Value).ownBlock ∧ some k_ ≠ ((.slice Ao11 t510.length co11) : Value).ownBlock) v505 x4_1) ∧ Aside0 (Kd.R (Kd.int .u8) 5 wc w.heap.size (fun k_ => some k_ ≠ (v503 : Value).ownBlock ∧ some k_ ≠ (v505 : Value).ownBlock ∧ some k_ ≠ ((.slice Ao11 t510.length co11) : Value).ownBlock) (.slice Ao9 t507.length co9) t507) ∧ Aside0 (Kd.R (Kd.int .u8) 5 wc w.heap.size (fun k_ => some k_ ≠ (v503 : Value).ownBlock ∧ some k_ ≠ (v505 : Value).ownBlock ∧ some k_ ≠ ((.slice Ao9 t507.length co9) : Value).ownBlock) (.slice Ao11 t510.length co11) t510) ∧ Aside0 (wc.heap[gb514]? = some (.cells #[(.slice Ao9 t507.length co9), (.slice Ao11 t510.length co11)] 26 (0, 0))) ∧ Aside0 (Below w.heap.size w wc))
        case first =>
          have H := HC6.out
          clear HC6
          by_cases c12 : (t513 != t502) = true
          · rw [if_pos c12] at H
            exact absurd H (by simp)
          · rw [if_neg c12] at H
            have c12b0 : (t513 != t502) = false := by simpa using c12
            (try (have c12b1 : decide (t513 = t502) = true := by first | (simp; done) | simpa using c12))
            (try (have c12b2 : (t513 == t502) = true := by first | (simp; done) | simpa using c12))
            clear c12
            (first | rw [c12b0] | (simp only [i64_w, i32_w]; rw [c12b0]) | skip)
            replace H := Option.bind_eq_some_iff.mp H
            obtain ⟨t515, A130, H⟩ := H
            replace H : (if t515 = true then ((capstanref04_Same.f k1 t510 x4_1).bind fun t516 => (capstanlaw04_OpShapes.j1 k1 a0 x3_1 x4_1 t502 x6_1 (!t516) t507 t510)) else (none)) = some r := H
            have A13 := Aside0.mk A130
            clear A130
            by_cases c14 : t515 = true
            · subst c14
              have H1 : ((capstanref04_Same.f k1 t510 x4_1).bind fun t516 => (capstanlaw04_OpShapes.j1 k1 a0 x3_1 x4_1 t502 x6_1 (!t516) t507 t510)) = some r := by rw [if_pos rfl] at H; exact H
              clear H
              have H := H1
              clear H1
              replace H := Option.bind_eq_some_iff.mp H
              obtain ⟨t516, A150, H⟩ := H
              replace H : (capstanlaw04_OpShapes.j1 k1 a0 x3_1 x4_1 t502 x6_1 (!t516) t507 t510) = some r := H
              have A15 := Aside0.mk A150
              clear A150
              have H' := Aside0.mk H
              clear H
              have hcz16_0 : w8.cell? ⟨gb514, 0, none⟩ = some (.slice none 0 0) := (blk_cell BK514.out 0).trans rfl
              have hcz16_1 : w8.cell? ⟨gb514, 1, none⟩ = some (.slice none 0 0) := (blk_cell BK514.out 1).trans rfl
              have hfz16_0 := blk_frozen BK514.out 0
              have hfz16_1 := blk_frozen BK514.out 1
              obtain ⟨Ao17, co17, eo17⟩ := Kd.R_slice HO_3.out
              subst eo17
              go_wp2_with (first | (go_at_call 6; (with_reducible refine (capstanref04_Same.calls k1 _ _ t507 _ _ x3_1 true _ ?side1 ?side2 ?side3 ?side4 A13.out).mono ?_); (case side1 => refine (Kd.R_reads' (e := 5) (base := w.heap.size) (ok := fun k_ => ((some k_ ≠ (.slice Ao11 t510.length co11 : Value).ownBlock ∧ some k_ ≠ (.slice Ao17 x3_1.length co17 : Value).ownBlock) ∧ some k_ ≠ (v505 : Value).ownBlock)) (n := t507.length) (c := co9) ?_).2.2; exact (by (with_reducible repeat (first | apply Kd.R_alloc | apply Kd.R_drewN | apply Kd.R_drew)); exact (Kd.R_mono (Kd.R_far (p := ⟨gb514, 1, none⟩) (Kd.R_far (p := ⟨gb514, 0, none⟩) (Kd.R_types HO509.out BK514.out (by decide)) (fun _ hk => hk.2) (.slice Ao9 t507.length co9)) (fun _ hk => hk.2) (.slice Ao11 t510.length co11)) (fun _ h_ => h_.1)))); (case side2 => exact (Kd.R_reads' HO509.out).2.1); (case side3 => refine (Kd.R_reads' (e := 5) (base := w.heap.size) (ok := fun k_ => ((some k_ ≠ (v505 : Value).ownBlock ∧ some k_ ≠ (.slice Ao9 t507.length co9 : Value).ownBlock) ∧ some k_ ≠ (.slice Ao11 t510.length co11 : Value).ownBlock)) (n := x3_1.length) (c := co17) ?_).2.2; exact (by (with_reducible repeat (first | apply Kd.R_alloc | apply Kd.R_drewN | apply Kd.R_drew)); exact (Kd.R_mono (Kd.R_far (p := ⟨gb514, 1, none⟩) (Kd.R_far (p := ⟨gb514, 0, none⟩) (Kd.R_types HO_3.out BK514.out (by decide)) (fun _ hk => hk.2) (.slice Ao9 t507.length co9)) (fun _ hk => hk.2) (.slice Ao11 t510.length co11)) (fun _ h_ => h_.1)))); (case side4 => exact (Kd.R_reads' HO_3.out).2.1); rintro e w' ⟨rfl, ⟨nd, rfl⟩⟩; obtain ⟨Ao18, co18, eo18⟩ := Kd.R_slice HO_4.out; subst eo18) | (go_at_call 6; (with_reducible refine (capstanref04_Same.calls k1 _ _ t510 _ _ x4_1 t516 _ ?side1 ?side2 ?side3 ?side4 A15.out).mono ?_); (case side1 => refine (Kd.R_reads' (e := 5) (base := w.heap.size) (ok := fun k_ => ((some k_ ≠ (.slice Ao9 t507.length co9 : Value).ownBlock ∧ some k_ ≠ (.slice Ao17 x3_1.length co17 : Value).ownBlock) ∧ some k_ ≠ (.slice Ao18 x4_1.length co18 : Value).ownBlock)) (n := t510.length) (c := co11) ?_).2.2; exact (by (with_reducible repeat (first | apply Kd.R_alloc | apply Kd.R_drewN | apply Kd.R_drew)); exact (Kd.R_mono (Kd.R_far (p := ⟨gb514, 1, none⟩) (Kd.R_far (p := ⟨gb514, 0, none⟩) (Kd.R_types HO512.out BK514.out (by decide)) (fun _ hk => hk.2) (.slice Ao9 t507.length co9)) (fun _ hk => hk.2) (.slice Ao11 t510.length co11)) (fun _ h_ => h_.1)))); (case side2 => exact (Kd.R_reads' HO512.out).2.1); (case side3 => refine (Kd.R_reads' (e := 5) (base := w.heap.size) (ok := fun k_ => ((some k_ ≠ (.slice Ao17 x3_1.length co17 : Value).ownBlock ∧ some k_ ≠ (.slice Ao9 t507.length co9 : Value).ownBlock) ∧ some k_ ≠ (.slice Ao11 t510.length co11 : Value).ownBlock)) (n := x4_1.length) (c := co18) ?_).2.2; exact (by (with_reducible repeat (first | apply Kd.R_alloc | apply Kd.R_drewN | apply Kd.R_drew)); exact (Kd.R_mono (Kd.R_far (p := ⟨gb514, 1, none⟩) (Kd.R_far (p := ⟨gb514, 0, none⟩) (Kd.R_types HO_4.out BK514.out (by decide)) (fun _ hk => hk.2) (.slice Ao9 t507.length co9)) (fun _ hk => hk.2) (.slice Ao11 t510.length co11)) (fun _ h_ => h_.1)))); (case side4 => exact (Kd.R_reads' HO_4.out).2.1); rintro e w' ⟨rfl, ⟨nd, rfl⟩⟩))
              go_meet
              case rel => exact ⟨_, (!t516), (by first | rfl | (simp; done) | (simp [*]; done)), H', ⟨by have := HK1.out; first | omega | exact Nat.le_refl _⟩, ⟨by (with_reducible repeat (first | apply Kd.R_alloc | apply Kd.R_drewN | apply Kd.R_drew)); exact Kd.R_mono (Kd.R_far (p := ⟨gb514, 1, none⟩) (Kd.R_far (p := ⟨gb514, 0, none⟩) (Kd.R_types HO_3.out BK514.out (by decide)) (fun _ hk => hk.2) (.slice Ao9 t507.length co9)) (fun _ hk => hk.2) (.slice Ao11 t510.length co11)) (fun _ hk => ⟨hk.1.1.1, ⟨hk.1.1.2, hk.1.2⟩⟩)⟩, ⟨by (with_reducible repeat (first | apply Kd.R_alloc | apply Kd.R_drewN | apply Kd.R_drew)); exact Kd.R_mono (Kd.R_far (p := ⟨gb514, 1, none⟩) (Kd.R_far (p := ⟨gb514, 0, none⟩) (Kd.R_types HO_4.out BK514.out (by decide)) (fun _ hk => hk.2) (.slice Ao9 t507.length co9)) (fun _ hk => hk.2) (.slice Ao11 t510.length co11)) (fun _ hk => ⟨hk.1.1.1, ⟨hk.1.1.2, hk.1.2⟩⟩)⟩, ⟨by (with_reducible repeat (first | apply Kd.R_alloc | apply Kd.R_drewN | apply Kd.R_drew)); exact Kd.R_mono (Kd.R_far (p := ⟨gb514, 1, none⟩) (Kd.R_far (p := ⟨gb514, 0, none⟩) (Kd.R_types HO509.out BK514.out (by decide)) (fun _ hk => hk.2) (.slice Ao9 t507.length co9)) (fun _ hk => hk.2) (.slice Ao11 t510.length co11)) (fun _ hk => ⟨hk.1.1.2, ⟨hk.1.2, hk.1.1.1⟩⟩)⟩, ⟨by (with_reducible repeat (first | apply Kd.R_alloc | apply Kd.R_drewN | apply Kd.R_drew)); exact Kd.R_mono (Kd.R_far (p := ⟨gb514, 1, none⟩) (Kd.R_far (p := ⟨gb514, 0, none⟩) (Kd.R_types HO512.out BK514.out (by decide)) (fun _ hk => hk.2) (.slice Ao9 t507.length co9)) (fun _ hk => hk.2) (.slice Ao11 t510.length co11)) (fun _ hk => ⟨hk.1.1.2, ⟨hk.1.2, hk.1.1.1⟩⟩)⟩, ⟨by (with_reducible repeat (first | refine blk_drewN ?_ _ | refine blk_drew ?_ | refine blk_alloc ?_ _)); refine blk_put (cs := #[.slice Ao9 t507.length co9, .slice none 0 0]) ?_ 1 _ rfl; (with_reducible repeat (first | refine blk_drewN ?_ _ | refine blk_drew ?_ | refine blk_alloc ?_ _)); refine blk_put (cs := #[.slice none 0 0, .slice none 0 0]) ?_ 0 _ rfl; (with_reducible repeat (first | refine blk_drewN ?_ _ | refine blk_drew ?_ | refine blk_alloc ?_ _)); exact BK514.out⟩, ⟨by repeat (first | (with_reducible first | exact HB.out | apply below_alloc | apply pw_below_drewN | apply below_drew1 | refine below_set ?_ GE514.out) | exact HB.out | exact ⟨HB.out.os, HB.out.tape, HB.out.output, HB.out.size, HB.out.block⟩)⟩⟩
            · replace c14 := Bool.eq_false_iff.mpr c14
              subst c14
              have H1 : (none) = some r := by rw [if_neg (show ¬ (false = true) by decide)] at H; exact H
              clear H
              have H := H1
              clear H1
              exact absurd H (by simp)
        case rest =>
          clear HC6
          try clear c1
          try clear p2
          try clear c3
          try clear c4
          try clear c4b0
          try clear c5
          try clear c12
          try clear c12b0
          try clear c12b1
          try clear c12b2
          try clear c14
          try clear hcz10_0
          try clear hcz10_1
          try clear hcz16_0
          try clear hcz16_1
          try clear hfz10_0
          try clear hfz10_1
          try clear hfz16_0
          try clear hfz16_1
          try clear p2
          obtain ⟨kq, x42_5, rfl, HA, HJ5, HO_3, HO_4, HO_515000, HO_515001, BK514, HB⟩ := hcut
          cases kq with
          | zero => exact absurd HA.out (by simp [capstanlaw04_OpShapes.j1])
          | succ kj5 =>
            have H := HA.out
            clear HA
            simp only [capstanlaw04_OpShapes.j1] at H
            by_cases c19 : x42_5 = true
            · subst c19
              have H1 : (none) = some r := by rw [if_pos rfl] at H; exact H
              clear H
              have H := H1
              clear H1
              exact absurd H (by simp)
            · replace c19 := Bool.eq_false_iff.mpr c19
              subst c19
              have H1 : (capstanlaw04_OpShapes.l1 kj5 a0 x3_1 x4_1 t502 x6_1 0 t507 t510) = some r := by rw [if_neg (show ¬ (false = true) by decide)] at H; exact H
              clear H
              have H := H1
              clear H1
              have H' := Aside0.mk H
              clear H
              go_wp2
              go_loopg [9] kj5 (fun kq v9 w' => ∃ (x3_3 : List Int) (x4_3 : List Int) (x9_3 : Int) (x515000_3 : List Int) (x515001_3 : List Int) (u515000 : Value) (u515001 : Value), v9 = .int .i64 x9_3 ∧ Aside0 (capstanlaw04_OpShapes.l1 kq a0 x3_3 x4_3 t502 x6_1 x9_3 x515000_3 x515001_3 = some r) ∧ Aside0 (kq ≤ kj5) ∧ Aside0 (Kd.R (Kd.int .u8) 5 w' w.heap.size (fun k_ => some k_ ≠ (v505 : Value).ownBlock ∧ some k_ ≠ (u515000 : Value).ownBlock ∧ some k_ ≠ (u515001 : Value).ownBlock) v503 x3_3) ∧ Aside0 (Kd.R (Kd.int .u8) 5 w' w.heap.size (fun k_ => some k_ ≠ (v503 : Value).ownBlock ∧ some k_ ≠ (u515000 : Value).ownBlock ∧ some k_ ≠ (u515001 : Value).ownBlock) v505 x4_3) ∧ Aside0 (Kd.R (Kd.int .u8) 5 w' w.heap.size (fun k_ => some k_ ≠ (v503 : Value).ownBlock ∧ some k_ ≠ (v505 : Value).ownBlock ∧ some k_ ≠ (u515001 : Value).ownBlock) u515000 x515000_3) ∧ Aside0 (Kd.R (Kd.int .u8) 5 w' w.heap.size (fun k_ => some k_ ≠ (v503 : Value).ownBlock ∧ some k_ ≠ (v505 : Value).ownBlock ∧ some k_ ≠ (u515000 : Value).ownBlock) u515001 x515001_3) ∧ Aside0 (w'.heap[gb514]? = some (.cells #[u515000, u515001] 26 (0, 0))) ∧ Aside0 (Below w.heap.size w w'))
              case atStart => exact ⟨(x3_1), (x4_1), (0), (t507), (t510), (.slice Ao9 t507.length co9), (.slice Ao11 t510.length co11), (by first | rfl | (simp; done) | (simp [*]; done)), H', ⟨Nat.le_refl _⟩, ⟨by (with_reducible repeat (first | apply Kd.R_alloc | apply Kd.R_drewN | apply Kd.R_drew)); exact HO_3.out⟩, ⟨by (with_reducible repeat (first | apply Kd.R_alloc | apply Kd.R_drewN | apply Kd.R_drew)); exact HO_4.out⟩, ⟨by (with_reducible repeat (first | apply Kd.R_alloc | apply Kd.R_drewN | apply Kd.R_drew)); exact HO_515000.out⟩, ⟨by (with_reducible repeat (first | apply Kd.R_alloc | apply Kd.R_drewN | apply Kd.R_drew)); exact HO_515001.out⟩, ⟨by (with_reducible repeat (first | refine blk_drewN ?_ _ | refine blk_drew ?_ | refine blk_alloc ?_ _)); exact BK514.out⟩, ⟨by repeat (first | (with_reducible first | exact HB.out | apply below_alloc | apply pw_below_drewN | apply below_drew1 | refine below_set ?_ GE514.out) | exact HB.out | exact ⟨HB.out.os, HB.out.tape, HB.out.output, HB.out.size, HB.out.block⟩)⟩⟩
              case round =>
                clear H'
                try clear c1
                try clear p2
                try clear c3
                try clear c4
                try clear c4b0
                try clear c5
                try clear c12
                try clear c12b0
                try clear c12b1
                try clear c12b2
                try clear c14
                try clear c19
                try clear hcz10_0
                try clear hcz10_1
                try clear hcz16_0
                try clear hcz16_1
                try clear hfz10_0
                try clear hfz10_1
                try clear hfz16_0
                try clear hfz16_1
                try clear p2
                obtain ⟨x3_3, x4_3, x9_3, x515000_3, x515001_3, u515000, u515001, rfl, HA, HK3, HO_3, HO_4, HO_515000, HO_515001, BK514, HB⟩ := hrel
                cases gk with
                | zero => exact absurd HA.out (by simp [capstanlaw04_OpShapes.l1])
                | succ k3 =>
                  have H := HA.out
                  clear HA
                  simp only [capstanlaw04_OpShapes.l1] at H
                  by_cases c20 : x9_3 < (x515000_3.length : Int)
                  · rw [if_pos c20] at H
                    have c20b0 : decide (x9_3 < (x515000_3.length : Int)) = true := decide_eq_true c20
                    clear c20
                    by_cases c21 : 0 ≤ x9_3
                    · rw [if_pos c21] at H
                      have c21b0 : decide (0 ≤ x9_3) = true := decide_eq_true c21
                      clear c21
                      obtain ⟨y517, hy517⟩ : ∃ y_ : List Int, y_ = (x515000_3.set (x9_3 : Int).toNat 77) := ⟨_, rfl⟩
                      replace H : (capstanlaw04_OpShapes.l1 k3 a0 x3_3 x4_3 t502 x6_1 (wrap64 (x9_3 + 1)) y517 x515001_3) = some r := by first | (rw [hy517]; with_reducible exact H) | (have H2_ := (Option.bind_some _ _).symm.trans H; rw [hy517]; with_reducible exact H2_) | (have H2_ := (Option.bind_some _ _).symm.trans H; with_reducible exact H2_) | with_reducible exact H | (rw [hy517]; exact H) | exact H
                      have Ny517 := Aside0.mk hy517
                      clear hy517
                      have H' := Aside0.mk H
                      clear H
                      have hcz23_0 : wr.cell? ⟨gb514, 0, none⟩ = some (u515000) := (blk_cell BK514.out 0).trans rfl
                      have hcz23_1 : wr.cell? ⟨gb514, 1, none⟩ = some (u515001) := (blk_cell BK514.out 1).trans rfl
                      have hfz23_0 := blk_frozen BK514.out 0
                      have hfz23_1 := blk_frozen BK514.out 1
                      obtain ⟨Ao24, co24, eo24⟩ := Kd.R_slice HO_515000.out
                      subst eo24
                      have p22 : 0 ≤ (x9_3 : Int) := of_decide_eq_true (by first | (with_reducible assumption) | assumption)
                      have q22 : (x9_3 : Int) < ((x515000_3.length : Int) : Int) := of_decide_eq_true (by first | (with_reducible assumption) | assumption)
                      obtain ⟨go22, co22, eo22, gb22, gl22, cl22, HG22⟩ := Kd.R_form HO_515000.out (by omega)
                      (first | cases eo22 | (injection eo22 with ea_ en_ ec_; (first | subst ea_ | (injection ea_ with ea_; subst ea_)); subst ec_; clear en_))
                      have GB22 := Aside0.mk gb22
                      have GG22 := Aside0.mk HG22
                      clear gb22 gl22 HG22
                      obtain ⟨hx22_0, hf22_0⟩ := Kd.R_celln 0 HO_515000.out (x9_3 : Int) p22 q22
                      replace p22 := eq_true p22
                      replace q22 := eq_true q22
                      have HP25 := Kd.R_putg HO_515000.out (x9_3 : Int) 77
                      go_wp2_with (first | ((with_reducible refine gate_store (t := 5) (p := 53) rfl ?_); refine store_event (t := 5) (p := 53) (v := ?vo_w26) (w1 := (wr.setCell ⟨go22, (x9_3 : Int).toNat, none⟩ (.int .u8 77))) ?hg ?ho ?hn ?hr ?_; (case ho => rfl); (case hg => rfl); (case hn => rfl); (case hr => first | (go_simp; done) | (go_simp; rfl)); intro w26 hw; have hg : wr.grownBy w26 (some go22) := (by rw [hw]; exact HP25.2); have hp_ : Kd.R (Kd.int .u8) 5 w26 w.heap.size (fun k_ => some k_ ≠ (v503 : Value).ownBlock ∧ some k_ ≠ (v505 : Value).ownBlock ∧ some k_ ≠ (u515001 : Value).ownBlock) (.slice (some ⟨go22, 0, none⟩) x515000_3.length co24) y517 := (by rw [hw, Ny517.out]; exact HP25.1); clear HP25; have n0_ := Aside0.mk (Kd.R_after (v := (.slice (some ⟨go22, 0, none⟩) x515000_3.length co24)) (v1 := (.slice (some ⟨go22, 0, none⟩) x515000_3.length co24)) (ok := (fun k_ => some k_ ≠ (v505 : Value).ownBlock ∧ some k_ ≠ (u515001 : Value).ownBlock)) (by (with_reducible repeat (first | apply Kd.R_alloc | apply Kd.R_drewN | apply Kd.R_drew)); exact Kd.R_mono HO_3.out (fun _ hk => ⟨⟨hk.1, hk.2.2⟩, hk.2.1⟩)) hg (.inl rfl)); have n1_ := Aside0.mk (Kd.R_after (v := (.slice (some ⟨go22, 0, none⟩) x515000_3.length co24)) (v1 := (.slice (some ⟨go22, 0, none⟩) x515000_3.length co24)) (ok := (fun k_ => some k_ ≠ (v503 : Value).ownBlock ∧ some k_ ≠ (u515001 : Value).ownBlock)) (by (with_reducible repeat (first | apply Kd.R_alloc | apply Kd.R_drewN | apply Kd.R_drew)); exact Kd.R_mono HO_4.out (fun _ hk => ⟨⟨hk.1, hk.2.2⟩, hk.2.1⟩)) hg (.inl rfl)); have n2_ := Aside0.mk (hp_); have n3_ := Aside0.mk (Kd.R_after (v := (.slice (some ⟨go22, 0, none⟩) x515000_3.length co24)) (v1 := (.slice (some ⟨go22, 0, none⟩) x515000_3.length co24)) (ok := (fun k_ => some k_ ≠ (v503 : Value).ownBlock ∧ some k_ ≠ (v505 : Value).ownBlock)) (by (with_reducible repeat (first | apply Kd.R_alloc | apply Kd.R_drewN | apply Kd.R_drew)); exact Kd.R_mono HO_515001.out (fun _ hk => ⟨⟨hk.1, hk.2.1⟩, hk.2.2⟩)) hg (.inl rfl)); have n4_ := Aside0.mk (blk_grown (g := gb514) (o := .cells #[.slice (some ⟨go22, 0, none⟩) x515000_3.length co24, u515001] 26 (0, 0)) (by (with_reducible repeat (first | refine blk_drewN ?_ _ | refine blk_drew ?_ | refine blk_alloc ?_ _)); exact BK514.out) hg (Kd.R_ne HO_515000.out BK514.out (by decide))); have n5_ := Aside0.mk ((by rw [hw]; exact below_set (HB.out) GB22.out : Below w.heap.size w w26)); clear HO_3; clear HO_4; clear HO_515000; clear HO_515001; clear BK514; clear HB; have HO_3 := n0_; have HO_4 := n1_; have HO_515000 := n2_; have HO_515001 := n3_; have BK514 := n4_; have HB := n5_; clear n0_ n1_ n2_ n3_ n4_ n5_; clear hg hw hp_))
                      go_roundg k3
                      case measure => have := HK1.out; have := HJ5.out; have := HK3.out; omega
                      case rel => exact ⟨(x3_3), (x4_3), (wrap64 (x9_3 + 1)), (y517), (x515001_3), (.slice (some ⟨go22, 0, none⟩) x515000_3.length co24), (u515001), (by first | rfl | (simp; done) | (simp [*]; done)), H', ⟨by have := HK1.out; have := HJ5.out; have := HK3.out; omega⟩, ⟨by (with_reducible repeat (first | apply Kd.R_alloc | apply Kd.R_drewN | apply Kd.R_drew)); exact Kd.R_mono HO_3.out (fun _ hk => ⟨hk.1.1, ⟨hk.2, hk.1.2⟩⟩)⟩, ⟨by (with_reducible repeat (first | apply Kd.R_alloc | apply Kd.R_drewN | apply Kd.R_drew)); exact Kd.R_mono HO_4.out (fun _ hk => ⟨hk.1.1, ⟨hk.2, hk.1.2⟩⟩)⟩, ⟨by (with_reducible repeat (first | apply Kd.R_alloc | apply Kd.R_drewN | apply Kd.R_drew)); exact HO_515000.out⟩, ⟨by (with_reducible repeat (first | apply Kd.R_alloc | apply Kd.R_drewN | apply Kd.R_drew)); exact Kd.R_mono HO_515001.out (fun _ hk => ⟨hk.1.1, ⟨hk.1.2, hk.2⟩⟩)⟩, ⟨by (with_reducible repeat (first | refine blk_drewN ?_ _ | refine blk_drew ?_ | refine blk_alloc ?_ _)); exact BK514.out⟩, ⟨by repeat (first | (with_reducible first | exact HB.out | apply below_alloc | apply pw_below_drewN | apply below_drew1 | refine below_set ?_ GE514.out) | exact HB.out | exact ⟨HB.out.os, HB.out.tape, HB.out.output, HB.out.size, HB.out.block⟩)⟩⟩
                    · rw [if_neg c21] at H
                      exact absurd H (by simp)
                  · rw [if_neg c20] at H
                    have c20b0 : decide (x9_3 < (x515000_3.length : Int)) = false := decide_eq_false c20
                    clear c20
                    have H' := Aside0.mk H
                    clear H
                    have hcz27_0 : wr.cell? ⟨gb514, 0, none⟩ = some (u515000) := (blk_cell BK514.out 0).trans rfl
                    have hcz27_1 : wr.cell? ⟨gb514, 1, none⟩ = some (u515001) := (blk_cell BK514.out 1).trans rfl
                    have hfz27_0 := blk_frozen BK514.out 0
                    have hfz27_1 := blk_frozen BK514.out 1
                    obtain ⟨Ao28, co28, eo28⟩ := Kd.R_slice HO_515000.out
                    subst eo28
                    go_wp2
                    go_loopg [10] k3 (fun kq v10 w' => ∃ (x3_4 : List Int) (x4_4 : List Int) (x10_4 : Int) (x515000_4 : List Int) (x515001_4 : List Int) (u515000 : Value) (u515001 : Value), v10 = .int .i64 x10_4 ∧ Aside0 (capstanlaw04_OpShapes.l2 kq a0 x3_4 x4_4 t502 x6_1 x10_4 x515000_4 x515001_4 = some r) ∧ Aside0 (kq ≤ k3) ∧ Aside0 (Kd.R (Kd.int .u8) 5 w' w.heap.size (fun k_ => some k_ ≠ (v505 : Value).ownBlock ∧ some k_ ≠ (u515000 : Value).ownBlock ∧ some k_ ≠ (u515001 : Value).ownBlock) v503 x3_4) ∧ Aside0 (Kd.R (Kd.int .u8) 5 w' w.heap.size (fun k_ => some k_ ≠ (v503 : Value).ownBlock ∧ some k_ ≠ (u515000 : Value).ownBlock ∧ some k_ ≠ (u515001 : Value).ownBlock) v505 x4_4) ∧ Aside0 (Kd.R (Kd.int .u8) 5 w' w.heap.size (fun k_ => some k_ ≠ (v503 : Value).ownBlock ∧ some k_ ≠ (v505 : Value).ownBlock ∧ some k_ ≠ (u515001 : Value).ownBlock) u515000 x515000_4) ∧ Aside0 (Kd.R (Kd.int .u8) 5 w' w.heap.size (fun k_ => some k_ ≠ (v503 : Value).ownBlock ∧ some k_ ≠ (v505 : Value).ownBlock ∧ some k_ ≠ (u515000 : Value).ownBlock) u515001 x515001_4) ∧ Aside0 (w'.heap[gb514]? = some (.cells #[u515000, u515001] 26 (0, 0))) ∧ Aside0 (Below w.heap.size w w'))
                    case atStart => exact ⟨(x3_3), (x4_3), (0), (x515000_3), (x515001_3), (.slice Ao28 x515000_3.length co28), (u515001), (by first | rfl | (simp; done) | (simp [*]; done)), H', ⟨Nat.le_refl _⟩, ⟨by (with_reducible repeat (first | apply Kd.R_alloc | apply Kd.R_drewN | apply Kd.R_drew)); exact HO_3.out⟩, ⟨by (with_reducible repeat (first | apply Kd.R_alloc | apply Kd.R_drewN | apply Kd.R_drew)); exact HO_4.out⟩, ⟨by (with_reducible repeat (first | apply Kd.R_alloc | apply Kd.R_drewN | apply Kd.R_drew)); exact HO_515000.out⟩, ⟨by (with_reducible repeat (first | apply Kd.R_alloc | apply Kd.R_drewN | apply Kd.R_drew)); exact HO_515001.out⟩, ⟨by (with_reducible repeat (first | refine blk_drewN ?_ _ | refine blk_drew ?_ | refine blk_alloc ?_ _)); exact BK514.out⟩, ⟨by repeat (first | (with_reducible first | exact HB.out | apply below_alloc | apply pw_below_drewN | apply below_drew1 | refine below_set ?_ GE514.out) | exact HB.out | exact ⟨HB.out.os, HB.out.tape, HB.out.output, HB.out.size, HB.out.block⟩)⟩⟩
                    case round =>
                      clear H'
                      try clear c1
                      try clear c2
                      try clear p2
                      try clear q2
                      try clear hx2
                      try clear hf2
                      try clear c3
                      try clear c4
                      try clear c4b0
                      try clear c5
                      try clear p6
                      try clear c12
                      try clear c12b0
                      try clear c12b1
                      try clear c12b2
                      try clear c14
                      try clear c19
                      try clear c20
                      try clear c20b0
                      try clear c21
                      try clear c21b0
                      try clear p22
                      try clear q22
                      try clear hx22
                      try clear hf22
                      try clear hcz10_0
                      try clear hcz10_1
                      try clear hcz16_0
                      try clear hcz16_1
                      try clear hcz23_0
                      try clear hcz23_1
                      try clear hcz27_0
                      try clear hcz27_1
                      try clear hfz10_0
                      try clear hfz10_1
                      try clear hfz16_0
                      try clear hfz16_1
                      try clear hfz23_0
                      try clear hfz23_1
                      try clear hfz27_0
                      try clear hfz27_1
                      try clear hx22_0
                      try clear p2
                      try clear p22
                      try clear q22
                      obtain ⟨x3_4, x4_4, x10_4, x515000_4, x515001_4, u515000, u515001, rfl, HA, HK4, HO_3, HO_4, HO_515000, HO_515001, BK514, HB⟩ := hrel
                      cases gk with
                      | zero => exact absurd HA.out (by simp [capstanlaw04_OpShapes.l2])
                      | succ k4 =>
                        have H := HA.out
                        clear HA
                        simp only [capstanlaw04_OpShapes.l2] at H
                        by_cases c29 : x10_4 < (x515001_4.length : Int)
                        · rw [if_pos c29] at H
                          have c29b0 : decide (x10_4 < (x515001_4.length : Int)) = true := decide_eq_true c29
                          clear c29
                          by_cases c30 : 0 ≤ x10_4
                          · rw [if_pos c30] at H
                            have c30b0 : decide (0 ≤ x10_4) = true := decide_eq_true c30
                            clear c30
                            obtain ⟨y518, hy518⟩ : ∃ y_ : List Int, y_ = (x515001_4.set (x10_4 : Int).toNat 77) := ⟨_, rfl⟩
                            replace H : (capstanlaw04_OpShapes.l2 k4 a0 x3_4 x4_4 t502 x6_1 (wrap64 (x10_4 + 1)) x515000_4 y518) = some r := by first | (rw [hy518]; with_reducible exact H) | (have H2_ := (Option.bind_some _ _).symm.trans H; rw [hy518]; with_reducible exact H2_) | (have H2_ := (Option.bind_some _ _).symm.trans H; with_reducible exact H2_) | with_reducible exact H | (rw [hy518]; exact H) | exact H
                            have Ny518 := Aside0.mk hy518
                            clear hy518
                            have H' := Aside0.mk H
                            clear H
                            have hcz32_0 : wr.cell? ⟨gb514, 0, none⟩ = some (u515000) := (blk_cell BK514.out 0).trans rfl
                            have hcz32_1 : wr.cell? ⟨gb514, 1, none⟩ = some (u515001) := (blk_cell BK514.out 1).trans rfl
                            have hfz32_0 := blk_frozen BK514.out 0
                            have hfz32_1 := blk_frozen BK514.out 1
                            obtain ⟨Ao33, co33, eo33⟩ := Kd.R_slice HO_515001.out
                            subst eo33
                            have p31 : 0 ≤ (x10_4 : Int) := of_decide_eq_true (by first | (with_reducible assumption) | assumption)
                            have q31 : (x10_4 : Int) < ((x515001_4.length : Int) : Int) := of_decide_eq_true (by first | (with_reducible assumption) | assumption)
                            obtain ⟨go31, co31, eo31, gb31, gl31, cl31, HG31⟩ := Kd.R_form HO_515001.out (by omega)
                            (first | cases eo31 | (injection eo31 with ea_ en_ ec_; (first | subst ea_ | (injection ea_ with ea_; subst ea_)); subst ec_; clear en_))
                            have GB31 := Aside0.mk gb31
                            have GG31 := Aside0.mk HG31
                            clear gb31 gl31 HG31
                            obtain ⟨hx31_0, hf31_0⟩ := Kd.R_celln 0 HO_515001.out (x10_4 : Int) p31 q31
                            replace p31 := eq_true p31
                            replace q31 := eq_true q31
                            have HP34 := Kd.R_putg HO_515001.out (x10_4 : Int) 77
                            go_wp2_with (first | ((with_reducible refine gate_store (t := 5) (p := 64) rfl ?_); refine store_event (t := 5) (p := 64) (v := ?vo_w35) (w1 := (wr.setCell ⟨go31, (x10_4 : Int).toNat, none⟩ (.int .u8 77))) ?hg ?ho ?hn ?hr ?_; (case ho => rfl); (case hg => rfl); (case hn => rfl); (case hr => first | (go_simp; done) | (go_simp; rfl)); intro w35 hw; have hg : wr.grownBy w35 (some go31) := (by rw [hw]; exact HP34.2); have hp_ : Kd.R (Kd.int .u8) 5 w35 w.heap.size (fun k_ => some k_ ≠ (v503 : Value).ownBlock ∧ some k_ ≠ (v505 : Value).ownBlock ∧ some k_ ≠ (u515000 : Value).ownBlock) (.slice (some ⟨go31, 0, none⟩) x515001_4.length co33) y518 := (by rw [hw, Ny518.out]; exact HP34.1); clear HP34; have n0_ := Aside0.mk (Kd.R_after (v := (.slice (some ⟨go31, 0, none⟩) x515001_4.length co33)) (v1 := (.slice (some ⟨go31, 0, none⟩) x515001_4.length co33)) (ok := (fun k_ => some k_ ≠ (v505 : Value).ownBlock ∧ some k_ ≠ (u515000 : Value).ownBlock)) (by (with_reducible repeat (first | apply Kd.R_alloc | apply Kd.R_drewN | apply Kd.R_drew)); exact Kd.R_mono HO_3.out (fun _ hk => ⟨⟨hk.1, hk.2.1⟩, hk.2.2⟩)) hg (.inl rfl)); have n1_ := Aside0.mk (Kd.R_after (v := (.slice (some ⟨go31, 0, none⟩) x515001_4.length co33)) (v1 := (.slice (some ⟨go31, 0, none⟩) x515001_4.length co33)) (ok := (fun k_ => some k_ ≠ (v503 : Value).ownBlock ∧ some k_ ≠ (u515000 : Value).ownBlock)) (by (with_reducible repeat (first | apply Kd.R_alloc | apply Kd.R_drewN | apply Kd.R_drew)); exact Kd.R_mono HO_4.out (fun _ hk => ⟨⟨hk.1, hk.2.1⟩, hk.2.2⟩)) hg (.inl rfl)); have n2_ := Aside0.mk (Kd.R_after (v := (.slice (some ⟨go31, 0, none⟩) x515001_4.length co33)) (v1 := (.slice (some ⟨go31, 0, none⟩) x515001_4.length co33)) (ok := (fun k_ => some k_ ≠ (v503 : Value).ownBlock ∧ some k_ ≠ (v505 : Value).ownBlock)) (by (with_reducible repeat (first | apply Kd.R_alloc | apply Kd.R_drewN | apply Kd.R_drew)); exact Kd.R_mono HO_515000.out (fun _ hk => ⟨⟨hk.1, hk.2.1⟩, hk.2.2⟩)) hg (.inl rfl)); have n3_ := Aside0.mk (hp_); have n4_ := Aside0.mk (blk_grown (g := gb514) (o := .cells #[u515000, .slice (some ⟨go31, 0, none⟩) x515001_4.length co33] 26 (0, 0)) (by (with_reducible repeat (first | refine blk_drewN ?_ _ | refine blk_drew ?_ | refine blk_alloc ?_ _)); exact BK514.out) hg (Kd.R_ne HO_515001.out BK514.out (by decide))); have n5_ := Aside0.mk ((by rw [hw]; exact below_set (HB.out) GB31.out : Below w.heap.size w w35)); clear HO_3; clear HO_4; clear HO_515000; clear HO_515001; clear BK514; clear HB; have HO_3 := n0_; have HO_4 := n1_; have HO_515000 := n2_; have HO_515001 := n3_; have BK514 := n4_; have HB := n5_; clear n0_ n1_ n2_ n3_ n4_ n5_; clear hg hw hp_))
                            go_roundg k4
                            case measure => have := HK1.out; have := HJ5.out; have := HK3.out; have := HK4.out; omega
                            case rel => exact ⟨(x3_4), (x4_4), (wrap64 (x10_4 + 1)), (x515000_4), (y518), (u515000), (.slice (some ⟨go31, 0, none⟩) x515001_4.length co33), (by first | rfl | (simp; done) | (simp [*]; done)), H', ⟨by have := HK1.out; have := HJ5.out; have := HK3.out; have := HK4.out; omega⟩, ⟨by (with_reducible repeat (first | apply Kd.R_alloc | apply Kd.R_drewN | apply Kd.R_drew)); exact Kd.R_mono HO_3.out (fun _ hk => ⟨hk.1.1, ⟨hk.1.2, hk.2⟩⟩)⟩, ⟨by (with_reducible repeat (first | apply Kd.R_alloc | apply Kd.R_drewN | apply Kd.R_drew)); exact Kd.R_mono HO_4.out (fun _ hk => ⟨hk.1.1, ⟨hk.1.2, hk.2⟩⟩)⟩, ⟨by (with_reducible repeat (first | apply Kd.R_alloc | apply Kd.R_drewN | apply Kd.R_drew)); exact Kd.R_mono HO_515000.out (fun _ hk => ⟨hk.1.1, ⟨hk.1.2, hk.2⟩⟩)⟩, ⟨by (with_reducible repeat (first | apply Kd.R_alloc | apply Kd.R_drewN | apply Kd.R_drew)); exact HO_515001.out⟩, ⟨by (with_reducible repeat (first | refine blk_drewN ?_ _ | refine blk_drew ?_ | refine blk_alloc ?_ _)); exact BK514.out⟩, ⟨by repeat (first | (with_reducible first | exact HB.out | apply below_alloc | apply pw_below_drewN | apply below_drew1 | refine below_set ?_ GE514.out) | exact HB.out | exact ⟨HB.out.os, HB.out.tape, HB.out.output, HB.out.size, HB.out.block⟩)⟩⟩
                          · rw [if_neg c30] at H
                            exact absurd H (by simp)
                        · rw [if_neg c29] at H
                          have c29b0 : decide (x10_4 < (x515001_4.length : Int)) = false := decide_eq_false c29
                          clear c29
                          have H' := Aside0.mk H
                          clear H
                          have hcz36_0 : wr.cell? ⟨gb514, 0, none⟩ = some (u515000) := (blk_cell BK514.out 0).trans rfl
                          have hcz36_1 : wr.cell? ⟨gb514, 1, none⟩ = some (u515001) := (blk_cell BK514.out 1).trans rfl
                          have hfz36_0 := blk_frozen BK514.out 0
                          have hfz36_1 := blk_frozen BK514.out 1
                          obtain ⟨Ao37, co37, eo37⟩ := Kd.R_slice HO_515001.out
                          subst eo37
                          go_wp2
                          go_roundg k4
                          case measure => have := HK1.out; have := HJ5.out; have := HK3.out; have := HK4.out; omega
                          case rel => exact ⟨(x3_4), (x4_4), (wrap64 (x6_1 + 1)), (by first | rfl | (simp; done) | (simp [*]; done)), H', ⟨by have := HK1.out; have := HJ5.out; have := HK3.out; have := HK4.out; omega⟩, ⟨by (with_reducible repeat (first | apply Kd.R_alloc | apply Kd.R_drewN | apply Kd.R_drew)); exact Kd.R_mono HO_3.out (fun _ hk => hk.1)⟩, ⟨by (with_reducible repeat (first | apply Kd.R_alloc | apply Kd.R_drewN | apply Kd.R_drew)); exact Kd.R_mono HO_4.out (fun _ hk => hk.1)⟩, ⟨by repeat (first | (with_reducible first | exact HB.out | apply below_alloc | apply pw_below_drewN | apply below_drew1 | refine below_set ?_ GE514.out) | exact HB.out | exact ⟨HB.out.os, HB.out.tape, HB.out.output, HB.out.size, HB.out.block⟩)⟩⟩
      · rw [if_neg c4] at H
        have c4b0 : decide (x6_1 < 2) = false := decide_eq_false c4
        clear c4
        obtain rfl := Option.some.inj H
        go_wp2
        go_ret
        exact ⟨by first | rfl | (simp [errW_none, errW_some] <;> rfl) | (simp [*, errW_none, errW_some] <;> rfl), by repeat (first | (with_reducible first | exact HB.out | apply below_alloc | apply pw_below_drewN | apply below_drew1) | exact HB.out | exact ⟨HB.out.os, HB.out.tape, HB.out.output, HB.out.size, HB.out.block⟩)⟩

/-- THE ONE PURE STATEMENT of capstanlaw04_OpShapes: yours. -/
def capstanlaw04_OpShapes.Pure : Prop := ∀ (a0 : Int), (Lit.int .u8 a0).wf = true → ∃ k, capstanlaw04_OpShapes.f k a0 = some true
theorem capstanlaw04_OpShapes.walk (P : capstanlaw04_OpShapes.Pure) (a0 : Int) (w : World) (w0 : (Lit.int .u8 a0).wf = true) :
    Calls Try.prog 3 #[.int .u8 a0] w fun e w' => e = .returned (.bool true) ∧ Below w.heap.size w w' := by
  obtain ⟨k, h⟩ := P a0 w0
  refine (capstanlaw04_OpShapes.calls k a0 true w h).mono ?_
  rintro e w' ⟨rfl, hd⟩
  exact ⟨rfl, hd⟩

end Go.Proofs.Ytahkaekiandchaa.R
