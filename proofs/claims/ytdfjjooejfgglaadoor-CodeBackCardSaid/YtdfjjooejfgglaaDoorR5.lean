/- Contracts of the functions of this seat (each: the call of the function does what the plain Lean function of the same name tells; the conditions stand in each statement). Written by a program of this session and by hand; checked by Lean. -/
import Derived.Test.YtdfjjooejfgglaaDoorR0
import Derived.Test.YtdfjjooejfgglaaDoorR2
import Derived.Test.YtdfjjooejfgglaaDoorR3
import Derived.Test.YtdfjjooejfgglaaDoorR4
namespace Go.Proofs.YtdfjjooejfgglaaDoor.R
open Go.RowKit Go.Proofs.YtdfjjooejfgglaaDoorW.PrintWords Go.Proofs.YtdfjjooejfgglaaDoorW.PrintLast Go.Proofs.YtdfjjooejfgglaaDoorW.PrintMore
attribute [local go_sem] max2_int min2_int max_two min_two max_three min_three max_four min_four   -- for this text's walks alone
set_option linter.unusedVariables false
set_option linter.unusedSimpArgs false

/-! ### code_Bytes: function 19 -/
def code_Bytes.l0 : Nat → List Int → List (S42) → Int → Int → Option (List Int × Int)
 | 0, _, _, _, _ => none
 | k + 1, x4, x16, x17, x18 => if x18 < x17 then (if 0 ≤ x18 then (if x18 < (x16.length : Int) then (if x4.length < 140737488355328 then ((some (x4 ++ [(rd_T42 x16 x18).f0] : List Int)).bind fun y133 => ((code_wide.f k ((rd_T42 x16 x18).f0)).bind fun t136 => (if t136 = true then ((octet_Put.f k 2 ((rd_T42 x16 x18).f1)).bind fun bt137 => (if bt137.2 = 0 then (if y133.length + bt137.1.length < 140737488355328 then (code_Bytes.l0 k (y133 ++ bt137.1) x16 x17 (wrap64 (x18 + 1))) else (none)) else (some (([] : List Int), 40)))) else (code_Bytes.l0 k y133 x16 x17 (wrap64 (x18 + 1)))))) else (none)) else (none)) else (none)) else (some (x4, 0))
def code_Bytes.f (k : Nat) (l0 : List (S42)) : Option (List Int × Int) := (code_May.f k l0).bind fun t127 => (if t127 = true then (code_Bytes.l0 k (([((l0.length : Int)) % 256] : List Int)) l0 (l0.length : Int) 0) else (some (([] : List Int), 40)))
theorem code_Bytes.mono_l : ∀ k, (∀ y0 y1 y2 y3, LeO (code_Bytes.l0 k y0 y1 y2 y3) (code_Bytes.l0 (k + 1) y0 y1 y2 y3))
 | 0 => fun _ _ _ _ r h => by simp [code_Bytes.l0] at h
 | k + 1 => by
  have ih0 := code_Bytes.mono_l k
  ·
   intro y0 y1 y2 y3
   unfold code_Bytes.l0
   repeat' first
   | (with_reducible exact ih0 _ _ _ _)
   | (with_reducible exact code_May.mono _ _)
   | (with_reducible exact code_wide.mono _ _)
   | (with_reducible exact octet_Put.mono _ _ _)
   | (with_reducible exact LeO.refl _)
   | (with_reducible exact LeO.none _)
   | (with_reducible refine LeO.ite ?_ ?_)
   | (with_reducible refine LeO.bind ?_ (fun _ => ?_))
   | exact ih0 _ _ _ _
   | exact code_May.mono _ _
   | exact code_wide.mono _ _
   | exact octet_Put.mono _ _ _
   | exact LeO.none _
   | refine LeO.ite ?_ ?_
   | refine LeO.bind ?_ (fun _ => ?_)
theorem code_Bytes.mono : ∀ a0 k, LeO (code_Bytes.f k a0) (code_Bytes.f (k + 1) a0) := by
 intro a0 k
 have ih0 := code_Bytes.mono_l k
 unfold code_Bytes.f
 repeat' first
   | (with_reducible exact ih0 _ _ _ _)
   | (with_reducible exact code_May.mono _ _)
   | (with_reducible exact code_wide.mono _ _)
   | (with_reducible exact octet_Put.mono _ _ _)
   | (with_reducible exact LeO.refl _)
   | (with_reducible exact LeO.none _)
   | (with_reducible refine LeO.ite ?_ ?_)
   | (with_reducible refine LeO.bind ?_ (fun _ => ?_))
   | exact ih0 _ _ _ _
   | exact code_May.mono _ _
   | exact code_wide.mono _ _
   | exact octet_Put.mono _ _ _
   | exact LeO.none _
   | refine LeO.ite ?_ ?_
   | refine LeO.bind ?_ (fun _ => ?_)
set_option maxHeartbeats 8000000 in
set_option maxRecDepth 100000 in
theorem code_Bytes.calls (k : Nat) (A0 : Option Addr) (c0 : Nat) (l0 : List (S42)) (r1 : List Int) (r2 : Int) (w : World) (hG : Gl w) (hr0 : Kd.C k42 w A0 l0.length l0) (hc0 : l0.length ≤ c0) (h : code_Bytes.f k l0 = some (r1, r2)) :
  Calls Tryd.prog 19 #[.slice A0 l0.length c0] w fun e w' => ∃ v0_ : Value, e = .returned (.tuple #[v0_, .int .i64 r2]) ∧ Kd.R (Kd.int .u8) 5 w' w.heap.size (fun _ => True) v0_ r1 ∧ Below w.heap.size w w' := by
 have hu42 := Tryd.underlying42
 have HG := Aside0.mk hG
 clear hG
 have HR0 := Aside0.mk hr0
 have HC0 := Aside0.mk hc0
 clear hr0 hc0
 have HB := Aside0.mk (Below.refl w.heap.size w)
 have H : ((code_May.f k l0).bind fun t127 => (if t127 = true then (code_Bytes.l0 k (([((l0.length : Int)) % 256] : List Int)) l0 (l0.length : Int) 0) else (some (([] : List Int), 40)))) = some (r1, r2) := h
 clear h
 replace H := Option.bind_eq_some_iff.mp H
 obtain ⟨t127, A20, H⟩ := H
 replace H : (if t127 = true then (code_Bytes.l0 k (([((l0.length : Int)) % 256] : List Int)) l0 (l0.length : Int) 0) else (some (([] : List Int), 40))) = some (r1, r2) := H
 have A2 := Aside0.mk A20
 clear A20
 by_cases c3 : t127 = true
 ·
  subst c3
  have H1 : (code_Bytes.l0 k (([((l0.length : Int)) % 256] : List Int)) l0 (l0.length : Int) 0) = some (r1, r2) := by rw [if_pos rfl] at H; exact H
  clear H
  have H := H1
  clear H1
  obtain ⟨y128, hy128⟩ : ∃ y_ : List Int, y_ = (([((l0.length : Int)) % 256] : List Int)) := ⟨_, rfl⟩
  replace H : (code_Bytes.l0 k y128 l0 (l0.length : Int) 0) = some (r1, r2) := by first | (rw [hy128]; with_reducible exact H) | (have H2_ := (Option.bind_some _ _).symm.trans H; rw [hy128]; with_reducible exact H2_) | (have H2_ := (Option.bind_some _ _).symm.trans H; with_reducible exact H2_) | with_reducible exact H | (rw [hy128]; exact H) | exact H
  have Ny128 := Aside0.mk hy128
  clear hy128
  have H' := Aside0.mk H
  clear H
  go_enter Tryd.func19, Tryd.ntmps19
  go_wp2_with (first | ((with_reducible refine gate_callee (f := 16) rfl ?_); refine goesL_ (some 10) rfl rfl Tryd.func16 (by kernel_rfl) rfl #[.slice A0 l0.length c0] rfl (by (try simp only [List.map_toArray, List.map_cons, List.map_nil]); first | done | rfl | (simp only [List.length_drop, List.length_take]; rfl)) ?_; (with_reducible refine (code_May.calls k _ _ l0 true _ ?side1 ?side2 ?side3 A2.out).mono ?_); (case side1 => first | exact HG.out | ((repeat (first | exact HG.out | exact Gl.below HG.out HB.out | (with_reducible refine Gl.alloc ?_ _) | (with_reducible refine Gl.drewN ?_ _) | (with_reducible refine Gl.drew ?_))); done) | exact Gl.below HG.out (by repeat (first | (with_reducible first | exact HB.out | apply below_alloc | apply pw_below_drewN | apply below_drew1) | exact HB.out | exact ⟨HB.out.os, HB.out.tape, HB.out.output, HB.out.size, HB.out.block⟩))); (case side2 => repeat (first | exact HR0.out | (with_reducible refine Kd.C_alloc ?_ _) | (with_reducible refine Kd.C_drewN ?_ _) | (with_reducible refine Kd.C_drew ?_))); (case side3 => exact HC0.out); rintro e w4 ⟨rfl, hb⟩; refine ⟨_, rfl, ?_⟩; have n0_ := Aside0.mk (below_step (by repeat (first | (with_reducible first | exact HB.out | apply below_alloc | apply pw_below_drewN | apply below_drew1) | exact HB.out | exact ⟨HB.out.os, HB.out.tape, HB.out.output, HB.out.size, HB.out.block⟩)) hb); clear HB; have HB := n0_; clear n0_; (try clear hb); (try clear hb2); (try clear hk); (try clear hi)) | ((with_reducible refine gate_dst (N := 15) rfl ?_); refine Kd.R_lit (Kd.int .u8) _ 5 ?hg (N := 15) ?hd (xs := ([((l0.length : Int)) % 256] : List Int)) (inner := [.int .u8 (((l0.length : Int)) % 256)]) (ok := fun _ => True) (okp := fun _ => True) ?hr ?hp (fun _ hk => hk) trivial (Below.refl _ _) (Nat.le_refl _) (by simp) ?_; (case hd => rfl); (case hg => rfl); (case hr => first | (go_simp; done) | (go_simp; rfl)); (case hp => exact (Reps.one (show Kd.M (Kd.int .u8) _ _ _ (((l0.length : Int)) % 256) [.int .u8 (((l0.length : Int)) % 256)] from rfl) (Reps.none _ _))); intro v129 w5 ho6 hb hg_ hnew_; clear hg_ hnew_; (first | rw [← Ny128.out] at ho6 | (simp only [Int.reduceToNat] at ho6; rw [← Ny128.out] at ho6)); have n0_ := Aside0.mk (Kd.R_lower ho6 (below_size (by repeat (first | (with_reducible first | exact HB.out | apply below_alloc | apply pw_below_drewN | apply below_drew1) | exact HB.out | exact ⟨HB.out.os, HB.out.tape, HB.out.output, HB.out.size, HB.out.block⟩)))); have n1_ := Aside0.mk (below_step (by repeat (first | (with_reducible first | exact HB.out | apply below_alloc | apply pw_below_drewN | apply below_drew1) | exact HB.out | exact ⟨HB.out.os, HB.out.tape, HB.out.output, HB.out.size, HB.out.block⟩)) hb); clear HB; have HO130 := n0_; have HB := n1_; clear n0_ n1_; clear hb ho6))
  go_loopg [4, 18] k (fun kq v4 v18 w' => ∃ (x4_1 : List Int) (x18_1 : Int), v18 = .int .i64 x18_1 ∧ Aside0 (code_Bytes.l0 kq x4_1 l0 (l0.length : Int) x18_1 = some (r1, r2)) ∧ Aside0 (kq ≤ k) ∧ Aside0 (Kd.R (Kd.int .u8) 5 w' w.heap.size (fun _ => True) v4 x4_1) ∧ Aside0 (Below w.heap.size w w'))
  case atStart => exact ⟨(y128), (0), (by first | rfl | (simp; done) | (simp [*]; done)), H', ⟨Nat.le_refl _⟩, ⟨by (with_reducible repeat (first | apply Kd.R_alloc | apply Kd.R_drewN | apply Kd.R_drew)); first | exact HO130.out | exact Kd.R_mono (HO130.out) (fun _ h_ => h_.2)⟩, ⟨by repeat (first | (with_reducible first | exact HB.out | apply below_alloc | apply pw_below_drewN | apply below_drew1) | exact HB.out | exact ⟨HB.out.os, HB.out.tape, HB.out.output, HB.out.size, HB.out.block⟩)⟩⟩
  case round =>
   clear H'
   try clear c1
   try clear p2
   try clear c3
   obtain ⟨x4_1, x18_1, rfl, HA, HK1, HO_4, HB⟩ := hrel
   cases gk with
   | zero => exact absurd HA.out (by simp [code_Bytes.l0])
   | succ k1 =>
    have H := HA.out
    clear HA
    simp only [code_Bytes.l0] at H
    by_cases c7 : x18_1 < (l0.length : Int)
    ·
     rw [if_pos c7] at H
     have c7b0 : decide (x18_1 < (l0.length : Int)) = true := decide_eq_true c7
     clear c7
     by_cases c8 : 0 ≤ x18_1
     ·
      rw [if_pos c8] at H
      have c8b0 : decide (0 ≤ x18_1) = true := decide_eq_true c8
      clear c8
      by_cases c9 : x18_1 < (l0.length : Int)
      ·
       rw [if_pos c9] at H
       have c9b0 : decide (x18_1 < (l0.length : Int)) = true := decide_eq_true c9
       clear c9
       by_cases c10 : x4_1.length < 140737488355328
       ·
        rw [if_pos c10] at H
        have LMc10 := Aside0.mk c10
        clear c10
        obtain ⟨y133, hy133⟩ : ∃ y_ : List Int, y_ = (x4_1 ++ [(rd_T42 l0 x18_1).f0]) := ⟨_, rfl⟩
        replace H : ((code_wide.f k1 ((rd_T42 l0 x18_1).f0)).bind fun t136 => (if t136 = true then ((octet_Put.f k1 2 ((rd_T42 l0 x18_1).f1)).bind fun bt137 => (if bt137.2 = 0 then (if y133.length + bt137.1.length < 140737488355328 then (code_Bytes.l0 k1 (y133 ++ bt137.1) l0 (l0.length : Int) (wrap64 (x18_1 + 1))) else (none)) else (some (([] : List Int), 40)))) else (code_Bytes.l0 k1 y133 l0 (l0.length : Int) (wrap64 (x18_1 + 1))))) = some (r1, r2) := by first | (rw [hy133]; with_reducible exact H) | (have H2_ := (Option.bind_some _ _).symm.trans H; rw [hy133]; with_reducible exact H2_) | (have H2_ := (Option.bind_some _ _).symm.trans H; with_reducible exact H2_) | with_reducible exact H | (rw [hy133]; exact H) | exact H
        have Ny133 := Aside0.mk hy133
        clear hy133
        replace H := Option.bind_eq_some_iff.mp H
        obtain ⟨t136, A110, H⟩ := H
        replace H : (if t136 = true then ((octet_Put.f k1 2 ((rd_T42 l0 x18_1).f1)).bind fun bt137 => (if bt137.2 = 0 then (if y133.length + bt137.1.length < 140737488355328 then (code_Bytes.l0 k1 (y133 ++ bt137.1) l0 (l0.length : Int) (wrap64 (x18_1 + 1))) else (none)) else (some (([] : List Int), 40)))) else (code_Bytes.l0 k1 y133 l0 (l0.length : Int) (wrap64 (x18_1 + 1)))) = some (r1, r2) := H
        have A11 := Aside0.mk A110
        clear A110
        by_cases c12 : t136 = true
        ·
         subst c12
         have H1 : ((octet_Put.f k1 2 ((rd_T42 l0 x18_1).f1)).bind fun bt137 => (if bt137.2 = 0 then (if y133.length + bt137.1.length < 140737488355328 then (code_Bytes.l0 k1 (y133 ++ bt137.1) l0 (l0.length : Int) (wrap64 (x18_1 + 1))) else (none)) else (some (([] : List Int), 40)))) = some (r1, r2) := by rw [if_pos rfl] at H; exact H
         clear H
         have H := H1
         clear H1
         replace H := Option.bind_eq_some_iff.mp H
         obtain ⟨⟨t137, t138⟩, A130, H⟩ := H
         replace H : (if t138 = 0 then (if y133.length + t137.length < 140737488355328 then (code_Bytes.l0 k1 (y133 ++ t137) l0 (l0.length : Int) (wrap64 (x18_1 + 1))) else (none)) else (some (([] : List Int), 40))) = some (r1, r2) := H
         have A13 := Aside0.mk A130
         clear A130
         by_cases c14 : t138 = 0
         ·
          rw [if_pos c14] at H
          have c14b0 : (t138 == 0) = true := beq_iff_eq.mpr c14
          have c14b1 : (t138 != 0) = false := bne_eq_false_iff_eq.mpr c14
          clear c14
          by_cases c15 : y133.length + t137.length < 140737488355328
          ·
           rw [if_pos c15] at H
           have LMc15 := Aside0.mk c15
           clear c15
           obtain ⟨y141, hy141⟩ : ∃ y_ : List Int, y_ = (y133 ++ t137) := ⟨_, rfl⟩
           replace H : (code_Bytes.l0 k1 y141 l0 (l0.length : Int) (wrap64 (x18_1 + 1))) = some (r1, r2) := by first | (rw [hy141]; with_reducible exact H) | (have H2_ := (Option.bind_some _ _).symm.trans H; rw [hy141]; with_reducible exact H2_) | (have H2_ := (Option.bind_some _ _).symm.trans H; with_reducible exact H2_) | with_reducible exact H | (rw [hy141]; exact H) | exact H
           have Ny141 := Aside0.mk hy141
           clear hy141
           have H' := Aside0.mk H
           clear H
           have p131 : 0 ≤ (x18_1 : Int) := of_decide_eq_true (by first | (with_reducible assumption) | assumption)
           have q131 : x18_1 < (l0.length : Int) := of_decide_eq_true (by first | (with_reducible assumption) | assumption)
           obtain ⟨ad131, e131, hx131_0, hx131_1, hx131_2⟩ := at_T42 HR0.out x18_1 p131 q131
           cases e131
           replace hx131_0 := (HB.out.cell (World.block_lt_of_cell? w _ hx131_0)).trans hx131_0
           replace hx131_1 := (HB.out.cell (World.block_lt_of_cell? w _ hx131_1)).trans hx131_1
           replace hx131_2 := (HB.out.cell (World.block_lt_of_cell? w _ hx131_2)).trans hx131_2
           replace p131 := eq_true p131
           replace q131 := eq_true q131
           go_wp2_with (first | ((with_reducible refine gate_dst (N := 6) rfl ?_); refine box_event ?hg (N := 6) ?hd (cs := #[.int .u8 0, .int .i64 0, .int .i64 0]) (t := 42) ?hr ?_; (case hd => rfl); (case hg => rfl); (case hr => first | (go_simp; done) | (go_simp; rfl)); intro gb132 hg w16 hbox hb; have n0_ := Aside0.mk (Kd.R_below (by (with_reducible repeat (first | apply Kd.R_alloc | apply Kd.R_drewN | apply Kd.R_drew)); first | exact HO_4.out | exact Kd.R_mono (HO_4.out) (fun _ h_ => h_.2)) hb); have n1_ := Aside0.mk (below_step (by repeat (first | (with_reducible first | exact HB.out | apply below_alloc | apply pw_below_drewN | apply below_drew1) | exact HB.out | exact ⟨HB.out.os, HB.out.tape, HB.out.output, HB.out.size, HB.out.block⟩)) hb); have n2_ := Aside0.mk (hbox); have n3_ := Aside0.mk ((by rw [hg]; exact (below_size (by repeat (first | (with_reducible first | exact HB.out | apply below_alloc | apply pw_below_drewN | apply below_drew1) | exact HB.out | exact ⟨HB.out.os, HB.out.tape, HB.out.output, HB.out.size, HB.out.block⟩))) : w.heap.size ≤ gb132)); have n4_ := Aside0.mk ((by rw [hg]; exact (below_size (by repeat (first | (with_reducible first | exact HB.out | apply below_alloc | apply pw_below_drewN | apply below_drew1) | exact HB.out | exact ⟨HB.out.os, HB.out.tape, HB.out.output, HB.out.size, HB.out.block⟩))) : w.heap.size ≤ gb132)); clear HO_4; clear HB; have HO_4 := n0_; have HB := n1_; have BK132 := n2_; have GW132 := n3_; have GE132 := n4_; clear n0_ n1_ n2_ n3_ n4_; clear hb hbox hg; have hcz17_0 : w16.cell? ⟨gb132, 0, none⟩ = some (.int .u8 0) := (blk_cell BK132.out 0).trans rfl; have hcz17_1 : w16.cell? ⟨gb132, 1, none⟩ = some (.int .i64 0) := (blk_cell BK132.out 1).trans rfl; have hcz17_2 : w16.cell? ⟨gb132, 2, none⟩ = some (.int .i64 0) := (blk_cell BK132.out 2).trans rfl; have hfz17_0 := blk_frozen BK132.out 0; have hfz17_1 := blk_frozen BK132.out 1; have hfz17_2 := blk_frozen BK132.out 2) | ((with_reducible refine gate_builtin (b := .append) (xs := #[.tmp 22, .tmp 25]) rfl ?_); at_builtin; refine Kd.R_append (Kd.int .u8) (w0 := w) w.heap.size rfl (.tmp 22) (.tmp 25) 22 5 (.int .u8 0) 1 rfl Tryd.underlying22 info5 rfl (by decide) (by omega) u4 x4_1 ((rd_T42 l0 x18_1).f0) [.int .u8 ((rd_T42 l0 x18_1).f0)] (fun _ => True) (fun _ => False) rfl (by first | (go_simp; done) | (go_simp; rfl)) ?aP (fun _ hk => hk.elim) ?aF ?aO ?aB ?aS ?aL ?_; (case aP => exact rfl); (case aB => exact (by repeat (first | (with_reducible first | exact HB.out | apply below_alloc | apply pw_below_drewN | apply below_drew1 | refine below_set ?_ GE132.out) | exact HB.out | exact ⟨HB.out.os, HB.out.tape, HB.out.output, HB.out.size, HB.out.block⟩))); (case aF => exact (fun _ _ => trivial)); (case aO => exact (by (with_reducible repeat (first | apply Kd.R_alloc | apply Kd.R_drewN | apply Kd.R_drew)); first | exact Kd.R_mono (Kd.R_far (p := ⟨gb132, 2, none⟩) (Kd.R_far (p := ⟨gb132, 1, none⟩) (Kd.R_far (p := ⟨gb132, 0, none⟩) (Kd.R_types HO_4.out BK132.out (by decide)) (fun _ hk => hk.2) (.int .u8 ((rd_T42 l0 x18_1).f0))) (fun _ hk => hk.2) (.int .i64 ((rd_T42 l0 x18_1).f1))) (fun _ hk => hk.2) (.int .i64 ((rd_T42 l0 x18_1).f2))) (fun _ hk => trivial) | exact Kd.R_mono (Kd.R_mono (Kd.R_far (p := ⟨gb132, 2, none⟩) (Kd.R_far (p := ⟨gb132, 1, none⟩) (Kd.R_far (p := ⟨gb132, 0, none⟩) (Kd.R_types HO_4.out BK132.out (by decide)) (fun _ hk => hk.2) (.int .u8 ((rd_T42 l0 x18_1).f0))) (fun _ hk => hk.2) (.int .i64 ((rd_T42 l0 x18_1).f1))) (fun _ hk => hk.2) (.int .i64 ((rd_T42 l0 x18_1).f2))) (fun _ hk => trivial)) (fun _ h_ => h_.2))); (case aS => exact (below_size (by repeat (first | (with_reducible first | exact HB.out | apply below_alloc | apply pw_below_drewN | apply below_drew1 | refine below_set ?_ GE132.out) | exact HB.out | exact ⟨HB.out.os, HB.out.tape, HB.out.output, HB.out.size, HB.out.block⟩)))); (case aL => have := LMc10.out; omega); intro v134 w18 ho hb hg hat; rw [← Ny133.out] at ho; have n0_ := Aside0.mk (blk_grown (g := gb132) (o := .cells #[.int .u8 ((rd_T42 l0 x18_1).f0), .int .i64 ((rd_T42 l0 x18_1).f1), .int .i64 ((rd_T42 l0 x18_1).f2)] 42 (0, 0)) (by (with_reducible repeat (first | refine blk_drewN ?_ _ | refine blk_drew ?_ | refine blk_alloc ?_ _)); refine blk_put (cs := #[.int .u8 ((rd_T42 l0 x18_1).f0), .int .i64 ((rd_T42 l0 x18_1).f1), .int .i64 0]) ?_ 2 _ rfl; (with_reducible repeat (first | refine blk_drewN ?_ _ | refine blk_drew ?_ | refine blk_alloc ?_ _)); refine blk_put (cs := #[.int .u8 ((rd_T42 l0 x18_1).f0), .int .i64 0, .int .i64 0]) ?_ 1 _ rfl; (with_reducible repeat (first | refine blk_drewN ?_ _ | refine blk_drew ?_ | refine blk_alloc ?_ _)); refine blk_put (cs := #[.int .u8 0, .int .i64 0, .int .i64 0]) ?_ 0 _ rfl; (with_reducible repeat (first | refine blk_drewN ?_ _ | refine blk_drew ?_ | refine blk_alloc ?_ _)); exact BK132.out) hg (Kd.R_ne HO_4.out BK132.out (by decide))); have n1_ := Aside0.mk (hb); have n2_ := Aside0.mk (ho); clear BK132; clear HB; clear HO_4; have BK132 := n0_; have HB := n1_; have HO135 := n2_; clear n0_ n1_ n2_; clear ho hb hg hat; have hcz19_0 : w18.cell? ⟨gb132, 0, none⟩ = some (.int .u8 ((rd_T42 l0 x18_1).f0)) := (blk_cell BK132.out 0).trans rfl; have hcz19_1 : w18.cell? ⟨gb132, 1, none⟩ = some (.int .i64 ((rd_T42 l0 x18_1).f1)) := (blk_cell BK132.out 1).trans rfl; have hcz19_2 : w18.cell? ⟨gb132, 2, none⟩ = some (.int .i64 ((rd_T42 l0 x18_1).f2)) := (blk_cell BK132.out 2).trans rfl; have hfz19_0 := blk_frozen BK132.out 0; have hfz19_1 := blk_frozen BK132.out 1; have hfz19_2 := blk_frozen BK132.out 2) | ((with_reducible refine gate_callee (f := 28) rfl ?_); refine goesL_ (some 29) rfl rfl Tryd.func28 (by kernel_rfl) rfl #[.int .u8 ((rd_T42 l0 x18_1).f0)] rfl (by (try simp only [List.map_toArray, List.map_cons, List.map_nil]); first | done | rfl | (simp only [List.length_drop, List.length_take]; rfl)) ?_; (with_reducible refine (code_wide.calls k1 ((rd_T42 l0 x18_1).f0) true _ ?side1 A11.out).mono ?_); (case side1 => first | exact HG.out | ((repeat (first | exact HG.out | exact Gl.below HG.out HB.out | (with_reducible refine Gl.alloc ?_ _) | (with_reducible refine Gl.drewN ?_ _) | (with_reducible refine Gl.drew ?_))); done) | exact Gl.below HG.out (by repeat (first | (with_reducible first | exact HB.out | apply below_alloc | apply pw_below_drewN | apply below_drew1 | refine below_set ?_ GE132.out) | exact HB.out | exact ⟨HB.out.os, HB.out.tape, HB.out.output, HB.out.size, HB.out.block⟩))); rintro e w20 ⟨rfl, hb⟩; refine ⟨_, rfl, ?_⟩; have n0_ := Aside0.mk (Kd.R_below (by (with_reducible repeat (first | apply Kd.R_alloc | apply Kd.R_drewN | apply Kd.R_drew)); first | exact HO135.out | exact Kd.R_mono (HO135.out) (fun _ h_ => h_.2)) hb); have n1_ := Aside0.mk (blk_below (g := gb132) (o := .cells #[.int .u8 ((rd_T42 l0 x18_1).f0), .int .i64 ((rd_T42 l0 x18_1).f1), .int .i64 ((rd_T42 l0 x18_1).f2)] 42 (0, 0)) (by (with_reducible repeat (first | refine blk_drewN ?_ _ | refine blk_drew ?_ | refine blk_alloc ?_ _)); exact BK132.out) hb); have n2_ := Aside0.mk (below_step (by repeat (first | (with_reducible first | exact HB.out | apply below_alloc | apply pw_below_drewN | apply below_drew1 | refine below_set ?_ GE132.out) | exact HB.out | exact ⟨HB.out.os, HB.out.tape, HB.out.output, HB.out.size, HB.out.block⟩)) hb); clear HO135; clear BK132; clear HB; have HO135 := n0_; have BK132 := n1_; have HB := n2_; clear n0_ n1_ n2_; (try clear hb); (try clear hb2); (try clear hk); (try clear hi); have hcz21_0 : w20.cell? ⟨gb132, 0, none⟩ = some (.int .u8 ((rd_T42 l0 x18_1).f0)) := (blk_cell BK132.out 0).trans rfl; have hcz21_1 : w20.cell? ⟨gb132, 1, none⟩ = some (.int .i64 ((rd_T42 l0 x18_1).f1)) := (blk_cell BK132.out 1).trans rfl; have hcz21_2 : w20.cell? ⟨gb132, 2, none⟩ = some (.int .i64 ((rd_T42 l0 x18_1).f2)) := (blk_cell BK132.out 2).trans rfl; have hfz21_0 := blk_frozen BK132.out 0; have hfz21_1 := blk_frozen BK132.out 1; have hfz21_2 := blk_frozen BK132.out 2) | ((with_reducible refine gate_callee (f := 43) rfl ?_); refine goesL_ (some 34) rfl rfl Tryd.func43 (by kernel_rfl) rfl #[.int .i64 2, .int .i64 ((rd_T42 l0 x18_1).f1)] rfl (by (try simp only [List.map_toArray, List.map_cons, List.map_nil]); first | done | rfl | (simp only [List.length_drop, List.length_take]; rfl)) ?_; (with_reducible refine (octet_Put.calls k1 2 ((rd_T42 l0 x18_1).f1) t137 t138 _ A13.out).mono ?_); rintro e w22 ⟨v139, rfl, ho0, hb⟩; refine ⟨_, rfl, ?_⟩; have n0_ := Aside0.mk (Kd.R_elder' (by (with_reducible repeat (first | apply Kd.R_alloc | apply Kd.R_drewN | apply Kd.R_drew)); first | exact HO135.out | exact Kd.R_mono (HO135.out) (fun _ h_ => h_.2)) (Kd.R_base ho0) hb); have n1_ := Aside0.mk (Kd.R_lower (Kd.R_new' ho0 (Kd.R_lt (by (with_reducible repeat (first | apply Kd.R_alloc | apply Kd.R_drewN | apply Kd.R_drew)); first | exact HO135.out | exact Kd.R_mono (HO135.out) (fun _ h_ => h_.2)))) (below_size (by repeat (first | (with_reducible first | exact HB.out | apply below_alloc | apply pw_below_drewN | apply below_drew1 | refine below_set ?_ GE132.out) | exact HB.out | exact ⟨HB.out.os, HB.out.tape, HB.out.output, HB.out.size, HB.out.block⟩)))); have n2_ := Aside0.mk (blk_below (g := gb132) (o := .cells #[.int .u8 ((rd_T42 l0 x18_1).f0), .int .i64 ((rd_T42 l0 x18_1).f1), .int .i64 ((rd_T42 l0 x18_1).f2)] 42 (0, 0)) (by (with_reducible repeat (first | refine blk_drewN ?_ _ | refine blk_drew ?_ | refine blk_alloc ?_ _)); exact BK132.out) hb); have n3_ := Aside0.mk (below_step (by repeat (first | (with_reducible first | exact HB.out | apply below_alloc | apply pw_below_drewN | apply below_drew1 | refine below_set ?_ GE132.out) | exact HB.out | exact ⟨HB.out.os, HB.out.tape, HB.out.output, HB.out.size, HB.out.block⟩)) hb); clear HO135; clear BK132; clear HB; have HO135 := n0_; have HO140 := n1_; have BK132 := n2_; have HB := n3_; clear n0_ n1_ n2_ n3_; (try clear hb); (try clear hb2); (try clear hk); (try clear hi); (try clear ho0); obtain ⟨Ao24, co24, eo24⟩ := Kd.R_slice HO140.out; subst eo24) | ((with_reducible refine gate_builtin (b := .append) (xs := #[.tmp 39, .tmp 40]) rfl ?_); at_builtin; refine Kd.R_append_rows (Kd.int .u8) (w0 := w) w.heap.size rfl (.tmp 39) (.tmp 40) 22 5 (.int .u8 0) 1 rfl Tryd.underlying22 info5 rfl (by decide) (by omega) v134 y133 t137 _ _ _ (fun k_ => some k_ ≠ (.slice Ao24 t137.length co24 : Value).ownBlock) (fun _ => False) rfl rfl ?aO ?aR (fun _ _ h => h) (fun _ h => h.elim) ?aF ?aB ?aS ?aL ?_; (case aR => repeat (first | exact (Kd.R_reads' HO140.out).2.2 | (with_reducible refine Kd.C_alloc ?_ _) | (with_reducible refine Kd.C_drewN ?_ _) | (with_reducible refine Kd.C_drew ?_))); (case aB => exact (by repeat (first | (with_reducible first | exact HB.out | apply below_alloc | apply pw_below_drewN | apply below_drew1 | refine below_set ?_ GE132.out) | exact HB.out | exact ⟨HB.out.os, HB.out.tape, HB.out.output, HB.out.size, HB.out.block⟩))); (case aF => exact (fun k_ hk => Kd.fresh' (Kd.R_lt (by (with_reducible repeat (first | apply Kd.R_alloc | apply Kd.R_drewN | apply Kd.R_drew)); first | exact HO140.out | exact Kd.R_mono (HO140.out) (fun _ h_ => h_.2))) k_ hk)); (case aO => exact (by (with_reducible repeat (first | apply Kd.R_alloc | apply Kd.R_drewN | apply Kd.R_drew)); first | exact Kd.R_mono HO135.out (fun _ hk => hk.2) | exact Kd.R_mono (Kd.R_mono HO135.out (fun _ hk => hk.2)) (fun _ h_ => h_.2))); (case aS => exact (below_size (by repeat (first | (with_reducible first | exact HB.out | apply below_alloc | apply pw_below_drewN | apply below_drew1 | refine below_set ?_ GE132.out) | exact HB.out | exact ⟨HB.out.os, HB.out.tape, HB.out.output, HB.out.size, HB.out.block⟩)))); (case aL => have := LMc15.out; omega); intro v142 w23 ho hb hg hat; rw [← Ny141.out] at ho; have n0_ := Aside0.mk (blk_grown (g := gb132) (o := .cells #[.int .u8 ((rd_T42 l0 x18_1).f0), .int .i64 ((rd_T42 l0 x18_1).f1), .int .i64 ((rd_T42 l0 x18_1).f2)] 42 (0, 0)) (by (with_reducible repeat (first | refine blk_drewN ?_ _ | refine blk_drew ?_ | refine blk_alloc ?_ _)); exact BK132.out) hg (Kd.R_ne HO135.out BK132.out (by decide))); have n1_ := Aside0.mk (Kd.R_after (ok := (fun _ => True)) (by (with_reducible repeat (first | apply Kd.R_alloc | apply Kd.R_drewN | apply Kd.R_drew)); first | exact HO140.out | exact Kd.R_mono (HO140.out) (fun _ h_ => h_.2)) hg hat); have n2_ := Aside0.mk (hb); have n3_ := Aside0.mk (ho); clear BK132; clear HO140; clear HB; clear HO135; have BK132 := n0_; have HO140 := n1_; have HB := n2_; have HO143 := n3_; clear n0_ n1_ n2_ n3_; clear ho hb hg hat))
           go_roundg k1
           case measure => have := HK1.out; omega
           case rel => exact ⟨(y141), (wrap64 (x18_1 + 1)), (by first | rfl | (simp; done) | (simp [*]; done)), H', ⟨by have := HK1.out; omega⟩, ⟨by (with_reducible repeat (first | apply Kd.R_alloc | apply Kd.R_drewN | apply Kd.R_drew)); first | exact Kd.R_mono HO143.out (fun _ hk => trivial) | exact Kd.R_mono (Kd.R_mono HO143.out (fun _ hk => trivial)) (fun _ h_ => h_.2)⟩, ⟨by repeat (first | (with_reducible first | exact HB.out | apply below_alloc | apply pw_below_drewN | apply below_drew1 | refine below_set ?_ GE132.out) | exact HB.out | exact ⟨HB.out.os, HB.out.tape, HB.out.output, HB.out.size, HB.out.block⟩)⟩⟩
          ·
           rw [if_neg c15] at H
           exact absurd H (by simp)
         ·
          rw [if_neg c14] at H
          have c14b0 : (t138 == 0) = false := beq_eq_false_iff_ne.mpr c14
          have c14b1 : (t138 != 0) = true := bne_iff_ne.mpr c14
          simp only [Option.some.injEq, Prod.mk.injEq] at H
          obtain ⟨rfl, rfl⟩ := H
          have p131 : 0 ≤ (x18_1 : Int) := of_decide_eq_true (by first | (with_reducible assumption) | assumption)
          have q131 : x18_1 < (l0.length : Int) := of_decide_eq_true (by first | (with_reducible assumption) | assumption)
          obtain ⟨ad131, e131, hx131_0, hx131_1, hx131_2⟩ := at_T42 HR0.out x18_1 p131 q131
          cases e131
          replace hx131_0 := (HB.out.cell (World.block_lt_of_cell? w _ hx131_0)).trans hx131_0
          replace hx131_1 := (HB.out.cell (World.block_lt_of_cell? w _ hx131_1)).trans hx131_1
          replace hx131_2 := (HB.out.cell (World.block_lt_of_cell? w _ hx131_2)).trans hx131_2
          replace p131 := eq_true p131
          replace q131 := eq_true q131
          go_wp2_with (first | ((with_reducible refine gate_dst (N := 6) rfl ?_); refine box_event ?hg (N := 6) ?hd (cs := #[.int .u8 0, .int .i64 0, .int .i64 0]) (t := 42) ?hr ?_; (case hd => rfl); (case hg => rfl); (case hr => first | (go_simp; done) | (go_simp; rfl)); intro gb132 hg w25 hbox hb; have n0_ := Aside0.mk (Kd.R_below (by (with_reducible repeat (first | apply Kd.R_alloc | apply Kd.R_drewN | apply Kd.R_drew)); first | exact HO_4.out | exact Kd.R_mono (HO_4.out) (fun _ h_ => h_.2)) hb); have n1_ := Aside0.mk (below_step (by repeat (first | (with_reducible first | exact HB.out | apply below_alloc | apply pw_below_drewN | apply below_drew1) | exact HB.out | exact ⟨HB.out.os, HB.out.tape, HB.out.output, HB.out.size, HB.out.block⟩)) hb); have n2_ := Aside0.mk (hbox); have n3_ := Aside0.mk ((by rw [hg]; exact (below_size (by repeat (first | (with_reducible first | exact HB.out | apply below_alloc | apply pw_below_drewN | apply below_drew1) | exact HB.out | exact ⟨HB.out.os, HB.out.tape, HB.out.output, HB.out.size, HB.out.block⟩))) : w.heap.size ≤ gb132)); have n4_ := Aside0.mk ((by rw [hg]; exact (below_size (by repeat (first | (with_reducible first | exact HB.out | apply below_alloc | apply pw_below_drewN | apply below_drew1) | exact HB.out | exact ⟨HB.out.os, HB.out.tape, HB.out.output, HB.out.size, HB.out.block⟩))) : w.heap.size ≤ gb132)); clear HO_4; clear HB; have HO_4 := n0_; have HB := n1_; have BK132 := n2_; have GW132 := n3_; have GE132 := n4_; clear n0_ n1_ n2_ n3_ n4_; clear hb hbox hg; have hcz26_0 : w25.cell? ⟨gb132, 0, none⟩ = some (.int .u8 0) := (blk_cell BK132.out 0).trans rfl; have hcz26_1 : w25.cell? ⟨gb132, 1, none⟩ = some (.int .i64 0) := (blk_cell BK132.out 1).trans rfl; have hcz26_2 : w25.cell? ⟨gb132, 2, none⟩ = some (.int .i64 0) := (blk_cell BK132.out 2).trans rfl; have hfz26_0 := blk_frozen BK132.out 0; have hfz26_1 := blk_frozen BK132.out 1; have hfz26_2 := blk_frozen BK132.out 2) | ((with_reducible refine gate_builtin (b := .append) (xs := #[.tmp 22, .tmp 25]) rfl ?_); at_builtin; refine Kd.R_append (Kd.int .u8) (w0 := w) w.heap.size rfl (.tmp 22) (.tmp 25) 22 5 (.int .u8 0) 1 rfl Tryd.underlying22 info5 rfl (by decide) (by omega) u4 x4_1 ((rd_T42 l0 x18_1).f0) [.int .u8 ((rd_T42 l0 x18_1).f0)] (fun _ => True) (fun _ => False) rfl (by first | (go_simp; done) | (go_simp; rfl)) ?aP (fun _ hk => hk.elim) ?aF ?aO ?aB ?aS ?aL ?_; (case aP => exact rfl); (case aB => exact (by repeat (first | (with_reducible first | exact HB.out | apply below_alloc | apply pw_below_drewN | apply below_drew1 | refine below_set ?_ GE132.out) | exact HB.out | exact ⟨HB.out.os, HB.out.tape, HB.out.output, HB.out.size, HB.out.block⟩))); (case aF => exact (fun _ _ => trivial)); (case aO => exact (by (with_reducible repeat (first | apply Kd.R_alloc | apply Kd.R_drewN | apply Kd.R_drew)); first | exact Kd.R_mono (Kd.R_far (p := ⟨gb132, 2, none⟩) (Kd.R_far (p := ⟨gb132, 1, none⟩) (Kd.R_far (p := ⟨gb132, 0, none⟩) (Kd.R_types HO_4.out BK132.out (by decide)) (fun _ hk => hk.2) (.int .u8 ((rd_T42 l0 x18_1).f0))) (fun _ hk => hk.2) (.int .i64 ((rd_T42 l0 x18_1).f1))) (fun _ hk => hk.2) (.int .i64 ((rd_T42 l0 x18_1).f2))) (fun _ hk => trivial) | exact Kd.R_mono (Kd.R_mono (Kd.R_far (p := ⟨gb132, 2, none⟩) (Kd.R_far (p := ⟨gb132, 1, none⟩) (Kd.R_far (p := ⟨gb132, 0, none⟩) (Kd.R_types HO_4.out BK132.out (by decide)) (fun _ hk => hk.2) (.int .u8 ((rd_T42 l0 x18_1).f0))) (fun _ hk => hk.2) (.int .i64 ((rd_T42 l0 x18_1).f1))) (fun _ hk => hk.2) (.int .i64 ((rd_T42 l0 x18_1).f2))) (fun _ hk => trivial)) (fun _ h_ => h_.2))); (case aS => exact (below_size (by repeat (first | (with_reducible first | exact HB.out | apply below_alloc | apply pw_below_drewN | apply below_drew1 | refine below_set ?_ GE132.out) | exact HB.out | exact ⟨HB.out.os, HB.out.tape, HB.out.output, HB.out.size, HB.out.block⟩)))); (case aL => have := LMc10.out; omega); intro v134 w27 ho hb hg hat; rw [← Ny133.out] at ho; have n0_ := Aside0.mk (blk_grown (g := gb132) (o := .cells #[.int .u8 ((rd_T42 l0 x18_1).f0), .int .i64 ((rd_T42 l0 x18_1).f1), .int .i64 ((rd_T42 l0 x18_1).f2)] 42 (0, 0)) (by (with_reducible repeat (first | refine blk_drewN ?_ _ | refine blk_drew ?_ | refine blk_alloc ?_ _)); refine blk_put (cs := #[.int .u8 ((rd_T42 l0 x18_1).f0), .int .i64 ((rd_T42 l0 x18_1).f1), .int .i64 0]) ?_ 2 _ rfl; (with_reducible repeat (first | refine blk_drewN ?_ _ | refine blk_drew ?_ | refine blk_alloc ?_ _)); refine blk_put (cs := #[.int .u8 ((rd_T42 l0 x18_1).f0), .int .i64 0, .int .i64 0]) ?_ 1 _ rfl; (with_reducible repeat (first | refine blk_drewN ?_ _ | refine blk_drew ?_ | refine blk_alloc ?_ _)); refine blk_put (cs := #[.int .u8 0, .int .i64 0, .int .i64 0]) ?_ 0 _ rfl; (with_reducible repeat (first | refine blk_drewN ?_ _ | refine blk_drew ?_ | refine blk_alloc ?_ _)); exact BK132.out) hg (Kd.R_ne HO_4.out BK132.out (by decide))); have n1_ := Aside0.mk (hb); have n2_ := Aside0.mk (ho); clear BK132; clear HB; clear HO_4; have BK132 := n0_; have HB := n1_; have HO135 := n2_; clear n0_ n1_ n2_; clear ho hb hg hat; have hcz28_0 : w27.cell? ⟨gb132, 0, none⟩ = some (.int .u8 ((rd_T42 l0 x18_1).f0)) := (blk_cell BK132.out 0).trans rfl; have hcz28_1 : w27.cell? ⟨gb132, 1, none⟩ = some (.int .i64 ((rd_T42 l0 x18_1).f1)) := (blk_cell BK132.out 1).trans rfl; have hcz28_2 : w27.cell? ⟨gb132, 2, none⟩ = some (.int .i64 ((rd_T42 l0 x18_1).f2)) := (blk_cell BK132.out 2).trans rfl; have hfz28_0 := blk_frozen BK132.out 0; have hfz28_1 := blk_frozen BK132.out 1; have hfz28_2 := blk_frozen BK132.out 2) | ((with_reducible refine gate_callee (f := 28) rfl ?_); refine goesL_ (some 29) rfl rfl Tryd.func28 (by kernel_rfl) rfl #[.int .u8 ((rd_T42 l0 x18_1).f0)] rfl (by (try simp only [List.map_toArray, List.map_cons, List.map_nil]); first | done | rfl | (simp only [List.length_drop, List.length_take]; rfl)) ?_; (with_reducible refine (code_wide.calls k1 ((rd_T42 l0 x18_1).f0) true _ ?side1 A11.out).mono ?_); (case side1 => first | exact HG.out | ((repeat (first | exact HG.out | exact Gl.below HG.out HB.out | (with_reducible refine Gl.alloc ?_ _) | (with_reducible refine Gl.drewN ?_ _) | (with_reducible refine Gl.drew ?_))); done) | exact Gl.below HG.out (by repeat (first | (with_reducible first | exact HB.out | apply below_alloc | apply pw_below_drewN | apply below_drew1 | refine below_set ?_ GE132.out) | exact HB.out | exact ⟨HB.out.os, HB.out.tape, HB.out.output, HB.out.size, HB.out.block⟩))); rintro e w29 ⟨rfl, hb⟩; refine ⟨_, rfl, ?_⟩; have n0_ := Aside0.mk (Kd.R_below (by (with_reducible repeat (first | apply Kd.R_alloc | apply Kd.R_drewN | apply Kd.R_drew)); first | exact HO135.out | exact Kd.R_mono (HO135.out) (fun _ h_ => h_.2)) hb); have n1_ := Aside0.mk (blk_below (g := gb132) (o := .cells #[.int .u8 ((rd_T42 l0 x18_1).f0), .int .i64 ((rd_T42 l0 x18_1).f1), .int .i64 ((rd_T42 l0 x18_1).f2)] 42 (0, 0)) (by (with_reducible repeat (first | refine blk_drewN ?_ _ | refine blk_drew ?_ | refine blk_alloc ?_ _)); exact BK132.out) hb); have n2_ := Aside0.mk (below_step (by repeat (first | (with_reducible first | exact HB.out | apply below_alloc | apply pw_below_drewN | apply below_drew1 | refine below_set ?_ GE132.out) | exact HB.out | exact ⟨HB.out.os, HB.out.tape, HB.out.output, HB.out.size, HB.out.block⟩)) hb); clear HO135; clear BK132; clear HB; have HO135 := n0_; have BK132 := n1_; have HB := n2_; clear n0_ n1_ n2_; (try clear hb); (try clear hb2); (try clear hk); (try clear hi); have hcz30_0 : w29.cell? ⟨gb132, 0, none⟩ = some (.int .u8 ((rd_T42 l0 x18_1).f0)) := (blk_cell BK132.out 0).trans rfl; have hcz30_1 : w29.cell? ⟨gb132, 1, none⟩ = some (.int .i64 ((rd_T42 l0 x18_1).f1)) := (blk_cell BK132.out 1).trans rfl; have hcz30_2 : w29.cell? ⟨gb132, 2, none⟩ = some (.int .i64 ((rd_T42 l0 x18_1).f2)) := (blk_cell BK132.out 2).trans rfl; have hfz30_0 := blk_frozen BK132.out 0; have hfz30_1 := blk_frozen BK132.out 1; have hfz30_2 := blk_frozen BK132.out 2) | ((with_reducible refine gate_callee (f := 43) rfl ?_); refine goesL_ (some 34) rfl rfl Tryd.func43 (by kernel_rfl) rfl #[.int .i64 2, .int .i64 ((rd_T42 l0 x18_1).f1)] rfl (by (try simp only [List.map_toArray, List.map_cons, List.map_nil]); first | done | rfl | (simp only [List.length_drop, List.length_take]; rfl)) ?_; (with_reducible refine (octet_Put.calls k1 2 ((rd_T42 l0 x18_1).f1) t137 t138 _ A13.out).mono ?_); rintro e w31 ⟨v139, rfl, ho0, hb⟩; refine ⟨_, rfl, ?_⟩; have n0_ := Aside0.mk (Kd.R_elder' (by (with_reducible repeat (first | apply Kd.R_alloc | apply Kd.R_drewN | apply Kd.R_drew)); first | exact HO135.out | exact Kd.R_mono (HO135.out) (fun _ h_ => h_.2)) (Kd.R_base ho0) hb); have n1_ := Aside0.mk (Kd.R_lower (Kd.R_new' ho0 (Kd.R_lt (by (with_reducible repeat (first | apply Kd.R_alloc | apply Kd.R_drewN | apply Kd.R_drew)); first | exact HO135.out | exact Kd.R_mono (HO135.out) (fun _ h_ => h_.2)))) (below_size (by repeat (first | (with_reducible first | exact HB.out | apply below_alloc | apply pw_below_drewN | apply below_drew1 | refine below_set ?_ GE132.out) | exact HB.out | exact ⟨HB.out.os, HB.out.tape, HB.out.output, HB.out.size, HB.out.block⟩)))); have n2_ := Aside0.mk (blk_below (g := gb132) (o := .cells #[.int .u8 ((rd_T42 l0 x18_1).f0), .int .i64 ((rd_T42 l0 x18_1).f1), .int .i64 ((rd_T42 l0 x18_1).f2)] 42 (0, 0)) (by (with_reducible repeat (first | refine blk_drewN ?_ _ | refine blk_drew ?_ | refine blk_alloc ?_ _)); exact BK132.out) hb); have n3_ := Aside0.mk (below_step (by repeat (first | (with_reducible first | exact HB.out | apply below_alloc | apply pw_below_drewN | apply below_drew1 | refine below_set ?_ GE132.out) | exact HB.out | exact ⟨HB.out.os, HB.out.tape, HB.out.output, HB.out.size, HB.out.block⟩)) hb); clear HO135; clear BK132; clear HB; have HO135 := n0_; have HO140 := n1_; have BK132 := n2_; have HB := n3_; clear n0_ n1_ n2_ n3_; (try clear hb); (try clear hb2); (try clear hk); (try clear hi); (try clear ho0)))
          go_ret2
          exact ⟨_, by first | rfl | (simp [errW_none, errW_some] <;> rfl) | (simp [*, errW_none, errW_some] <;> rfl), by first | exact Kd.R_nil _ _ _ _ _ | exact Kd.N_nil _ _ _ _ _ | exact Kd.V_nil _ _ _ _ _ | exact Kd.Q_nil _ _ _ _ _ | exact Kd.S_nil _ _ _ _ _, by repeat (first | (with_reducible first | exact HB.out | apply below_alloc | apply pw_below_drewN | apply below_drew1 | refine below_set ?_ GE132.out) | exact HB.out | exact ⟨HB.out.os, HB.out.tape, HB.out.output, HB.out.size, HB.out.block⟩)⟩
        ·
         replace c12 := Bool.eq_false_iff.mpr c12
         subst c12
         have H1 : (code_Bytes.l0 k1 y133 l0 (l0.length : Int) (wrap64 (x18_1 + 1))) = some (r1, r2) := by rw [if_neg (show ¬ (false = true) by decide)] at H; exact H
         clear H
         have H := H1
         clear H1
         have H' := Aside0.mk H
         clear H
         have p131 : 0 ≤ (x18_1 : Int) := of_decide_eq_true (by first | (with_reducible assumption) | assumption)
         have q131 : x18_1 < (l0.length : Int) := of_decide_eq_true (by first | (with_reducible assumption) | assumption)
         obtain ⟨ad131, e131, hx131_0, hx131_1, hx131_2⟩ := at_T42 HR0.out x18_1 p131 q131
         cases e131
         replace hx131_0 := (HB.out.cell (World.block_lt_of_cell? w _ hx131_0)).trans hx131_0
         replace hx131_1 := (HB.out.cell (World.block_lt_of_cell? w _ hx131_1)).trans hx131_1
         replace hx131_2 := (HB.out.cell (World.block_lt_of_cell? w _ hx131_2)).trans hx131_2
         replace p131 := eq_true p131
         replace q131 := eq_true q131
         go_wp2_with (first | ((with_reducible refine gate_dst (N := 6) rfl ?_); refine box_event ?hg (N := 6) ?hd (cs := #[.int .u8 0, .int .i64 0, .int .i64 0]) (t := 42) ?hr ?_; (case hd => rfl); (case hg => rfl); (case hr => first | (go_simp; done) | (go_simp; rfl)); intro gb132 hg w32 hbox hb; have n0_ := Aside0.mk (Kd.R_below (by (with_reducible repeat (first | apply Kd.R_alloc | apply Kd.R_drewN | apply Kd.R_drew)); first | exact HO_4.out | exact Kd.R_mono (HO_4.out) (fun _ h_ => h_.2)) hb); have n1_ := Aside0.mk (below_step (by repeat (first | (with_reducible first | exact HB.out | apply below_alloc | apply pw_below_drewN | apply below_drew1) | exact HB.out | exact ⟨HB.out.os, HB.out.tape, HB.out.output, HB.out.size, HB.out.block⟩)) hb); have n2_ := Aside0.mk (hbox); have n3_ := Aside0.mk ((by rw [hg]; exact (below_size (by repeat (first | (with_reducible first | exact HB.out | apply below_alloc | apply pw_below_drewN | apply below_drew1) | exact HB.out | exact ⟨HB.out.os, HB.out.tape, HB.out.output, HB.out.size, HB.out.block⟩))) : w.heap.size ≤ gb132)); have n4_ := Aside0.mk ((by rw [hg]; exact (below_size (by repeat (first | (with_reducible first | exact HB.out | apply below_alloc | apply pw_below_drewN | apply below_drew1) | exact HB.out | exact ⟨HB.out.os, HB.out.tape, HB.out.output, HB.out.size, HB.out.block⟩))) : w.heap.size ≤ gb132)); clear HO_4; clear HB; have HO_4 := n0_; have HB := n1_; have BK132 := n2_; have GW132 := n3_; have GE132 := n4_; clear n0_ n1_ n2_ n3_ n4_; clear hb hbox hg; have hcz33_0 : w32.cell? ⟨gb132, 0, none⟩ = some (.int .u8 0) := (blk_cell BK132.out 0).trans rfl; have hcz33_1 : w32.cell? ⟨gb132, 1, none⟩ = some (.int .i64 0) := (blk_cell BK132.out 1).trans rfl; have hcz33_2 : w32.cell? ⟨gb132, 2, none⟩ = some (.int .i64 0) := (blk_cell BK132.out 2).trans rfl; have hfz33_0 := blk_frozen BK132.out 0; have hfz33_1 := blk_frozen BK132.out 1; have hfz33_2 := blk_frozen BK132.out 2) | ((with_reducible refine gate_builtin (b := .append) (xs := #[.tmp 22, .tmp 25]) rfl ?_); at_builtin; refine Kd.R_append (Kd.int .u8) (w0 := w) w.heap.size rfl (.tmp 22) (.tmp 25) 22 5 (.int .u8 0) 1 rfl Tryd.underlying22 info5 rfl (by decide) (by omega) u4 x4_1 ((rd_T42 l0 x18_1).f0) [.int .u8 ((rd_T42 l0 x18_1).f0)] (fun _ => True) (fun _ => False) rfl (by first | (go_simp; done) | (go_simp; rfl)) ?aP (fun _ hk => hk.elim) ?aF ?aO ?aB ?aS ?aL ?_; (case aP => exact rfl); (case aB => exact (by repeat (first | (with_reducible first | exact HB.out | apply below_alloc | apply pw_below_drewN | apply below_drew1 | refine below_set ?_ GE132.out) | exact HB.out | exact ⟨HB.out.os, HB.out.tape, HB.out.output, HB.out.size, HB.out.block⟩))); (case aF => exact (fun _ _ => trivial)); (case aO => exact (by (with_reducible repeat (first | apply Kd.R_alloc | apply Kd.R_drewN | apply Kd.R_drew)); first | exact Kd.R_mono (Kd.R_far (p := ⟨gb132, 2, none⟩) (Kd.R_far (p := ⟨gb132, 1, none⟩) (Kd.R_far (p := ⟨gb132, 0, none⟩) (Kd.R_types HO_4.out BK132.out (by decide)) (fun _ hk => hk.2) (.int .u8 ((rd_T42 l0 x18_1).f0))) (fun _ hk => hk.2) (.int .i64 ((rd_T42 l0 x18_1).f1))) (fun _ hk => hk.2) (.int .i64 ((rd_T42 l0 x18_1).f2))) (fun _ hk => trivial) | exact Kd.R_mono (Kd.R_mono (Kd.R_far (p := ⟨gb132, 2, none⟩) (Kd.R_far (p := ⟨gb132, 1, none⟩) (Kd.R_far (p := ⟨gb132, 0, none⟩) (Kd.R_types HO_4.out BK132.out (by decide)) (fun _ hk => hk.2) (.int .u8 ((rd_T42 l0 x18_1).f0))) (fun _ hk => hk.2) (.int .i64 ((rd_T42 l0 x18_1).f1))) (fun _ hk => hk.2) (.int .i64 ((rd_T42 l0 x18_1).f2))) (fun _ hk => trivial)) (fun _ h_ => h_.2))); (case aS => exact (below_size (by repeat (first | (with_reducible first | exact HB.out | apply below_alloc | apply pw_below_drewN | apply below_drew1 | refine below_set ?_ GE132.out) | exact HB.out | exact ⟨HB.out.os, HB.out.tape, HB.out.output, HB.out.size, HB.out.block⟩)))); (case aL => have := LMc10.out; omega); intro v134 w34 ho hb hg hat; rw [← Ny133.out] at ho; have n0_ := Aside0.mk (blk_grown (g := gb132) (o := .cells #[.int .u8 ((rd_T42 l0 x18_1).f0), .int .i64 ((rd_T42 l0 x18_1).f1), .int .i64 ((rd_T42 l0 x18_1).f2)] 42 (0, 0)) (by (with_reducible repeat (first | refine blk_drewN ?_ _ | refine blk_drew ?_ | refine blk_alloc ?_ _)); refine blk_put (cs := #[.int .u8 ((rd_T42 l0 x18_1).f0), .int .i64 ((rd_T42 l0 x18_1).f1), .int .i64 0]) ?_ 2 _ rfl; (with_reducible repeat (first | refine blk_drewN ?_ _ | refine blk_drew ?_ | refine blk_alloc ?_ _)); refine blk_put (cs := #[.int .u8 ((rd_T42 l0 x18_1).f0), .int .i64 0, .int .i64 0]) ?_ 1 _ rfl; (with_reducible repeat (first | refine blk_drewN ?_ _ | refine blk_drew ?_ | refine blk_alloc ?_ _)); refine blk_put (cs := #[.int .u8 0, .int .i64 0, .int .i64 0]) ?_ 0 _ rfl; (with_reducible repeat (first | refine blk_drewN ?_ _ | refine blk_drew ?_ | refine blk_alloc ?_ _)); exact BK132.out) hg (Kd.R_ne HO_4.out BK132.out (by decide))); have n1_ := Aside0.mk (hb); have n2_ := Aside0.mk (ho); clear BK132; clear HB; clear HO_4; have BK132 := n0_; have HB := n1_; have HO135 := n2_; clear n0_ n1_ n2_; clear ho hb hg hat; have hcz35_0 : w34.cell? ⟨gb132, 0, none⟩ = some (.int .u8 ((rd_T42 l0 x18_1).f0)) := (blk_cell BK132.out 0).trans rfl; have hcz35_1 : w34.cell? ⟨gb132, 1, none⟩ = some (.int .i64 ((rd_T42 l0 x18_1).f1)) := (blk_cell BK132.out 1).trans rfl; have hcz35_2 : w34.cell? ⟨gb132, 2, none⟩ = some (.int .i64 ((rd_T42 l0 x18_1).f2)) := (blk_cell BK132.out 2).trans rfl; have hfz35_0 := blk_frozen BK132.out 0; have hfz35_1 := blk_frozen BK132.out 1; have hfz35_2 := blk_frozen BK132.out 2) | ((with_reducible refine gate_callee (f := 28) rfl ?_); refine goesL_ (some 29) rfl rfl Tryd.func28 (by kernel_rfl) rfl #[.int .u8 ((rd_T42 l0 x18_1).f0)] rfl (by (try simp only [List.map_toArray, List.map_cons, List.map_nil]); first | done | rfl | (simp only [List.length_drop, List.length_take]; rfl)) ?_; (with_reducible refine (code_wide.calls k1 ((rd_T42 l0 x18_1).f0) false _ ?side1 A11.out).mono ?_); (case side1 => first | exact HG.out | ((repeat (first | exact HG.out | exact Gl.below HG.out HB.out | (with_reducible refine Gl.alloc ?_ _) | (with_reducible refine Gl.drewN ?_ _) | (with_reducible refine Gl.drew ?_))); done) | exact Gl.below HG.out (by repeat (first | (with_reducible first | exact HB.out | apply below_alloc | apply pw_below_drewN | apply below_drew1 | refine below_set ?_ GE132.out) | exact HB.out | exact ⟨HB.out.os, HB.out.tape, HB.out.output, HB.out.size, HB.out.block⟩))); rintro e w36 ⟨rfl, hb⟩; refine ⟨_, rfl, ?_⟩; have n0_ := Aside0.mk (Kd.R_below (by (with_reducible repeat (first | apply Kd.R_alloc | apply Kd.R_drewN | apply Kd.R_drew)); first | exact HO135.out | exact Kd.R_mono (HO135.out) (fun _ h_ => h_.2)) hb); have n1_ := Aside0.mk (blk_below (g := gb132) (o := .cells #[.int .u8 ((rd_T42 l0 x18_1).f0), .int .i64 ((rd_T42 l0 x18_1).f1), .int .i64 ((rd_T42 l0 x18_1).f2)] 42 (0, 0)) (by (with_reducible repeat (first | refine blk_drewN ?_ _ | refine blk_drew ?_ | refine blk_alloc ?_ _)); exact BK132.out) hb); have n2_ := Aside0.mk (below_step (by repeat (first | (with_reducible first | exact HB.out | apply below_alloc | apply pw_below_drewN | apply below_drew1 | refine below_set ?_ GE132.out) | exact HB.out | exact ⟨HB.out.os, HB.out.tape, HB.out.output, HB.out.size, HB.out.block⟩)) hb); clear HO135; clear BK132; clear HB; have HO135 := n0_; have BK132 := n1_; have HB := n2_; clear n0_ n1_ n2_; (try clear hb); (try clear hb2); (try clear hk); (try clear hi)))
         go_roundg k1
         case measure => have := HK1.out; omega
         case rel => exact ⟨(y133), (wrap64 (x18_1 + 1)), (by first | rfl | (simp; done) | (simp [*]; done)), H', ⟨by have := HK1.out; omega⟩, ⟨by (with_reducible repeat (first | apply Kd.R_alloc | apply Kd.R_drewN | apply Kd.R_drew)); first | exact HO135.out | exact Kd.R_mono (HO135.out) (fun _ h_ => h_.2)⟩, ⟨by repeat (first | (with_reducible first | exact HB.out | apply below_alloc | apply pw_below_drewN | apply below_drew1 | refine below_set ?_ GE132.out) | exact HB.out | exact ⟨HB.out.os, HB.out.tape, HB.out.output, HB.out.size, HB.out.block⟩)⟩⟩
       ·
        rw [if_neg c10] at H
        exact absurd H (by simp)
      ·
       rw [if_neg c9] at H
       exact absurd H (by simp)
     ·
      rw [if_neg c8] at H
      exact absurd H (by simp)
    ·
     rw [if_neg c7] at H
     have c7b0 : decide (x18_1 < (l0.length : Int)) = false := decide_eq_false c7
     clear c7
     simp only [Option.some.injEq, Prod.mk.injEq] at H
     obtain ⟨rfl, rfl⟩ := H
     go_wp2
     go_ret2
     exact ⟨_, by first | rfl | (simp [errW_none, errW_some] <;> rfl) | (simp [*, errW_none, errW_some] <;> rfl), by (with_reducible repeat (first | apply Kd.R_alloc | apply Kd.R_drewN | apply Kd.R_drew)); first | exact HO_4.out | exact Kd.R_mono (HO_4.out) (fun _ h_ => h_.2), by repeat (first | (with_reducible first | exact HB.out | apply below_alloc | apply pw_below_drewN | apply below_drew1) | exact HB.out | exact ⟨HB.out.os, HB.out.tape, HB.out.output, HB.out.size, HB.out.block⟩)⟩
 ·
  replace c3 := Bool.eq_false_iff.mpr c3
  subst c3
  have H1 : (some (([] : List Int), 40)) = some (r1, r2) := by rw [if_neg (show ¬ (false = true) by decide)] at H; exact H
  clear H
  have H := H1
  clear H1
  simp only [Option.some.injEq, Prod.mk.injEq] at H
  obtain ⟨rfl, rfl⟩ := H
  go_enter Tryd.func19, Tryd.ntmps19
  go_wp2_with (first | ((with_reducible refine gate_callee (f := 16) rfl ?_); refine goesL_ (some 10) rfl rfl Tryd.func16 (by kernel_rfl) rfl #[.slice A0 l0.length c0] rfl (by (try simp only [List.map_toArray, List.map_cons, List.map_nil]); first | done | rfl | (simp only [List.length_drop, List.length_take]; rfl)) ?_; (with_reducible refine (code_May.calls k _ _ l0 false _ ?side1 ?side2 ?side3 A2.out).mono ?_); (case side1 => first | exact HG.out | ((repeat (first | exact HG.out | exact Gl.below HG.out HB.out | (with_reducible refine Gl.alloc ?_ _) | (with_reducible refine Gl.drewN ?_ _) | (with_reducible refine Gl.drew ?_))); done) | exact Gl.below HG.out (by repeat (first | (with_reducible first | exact HB.out | apply below_alloc | apply pw_below_drewN | apply below_drew1) | exact HB.out | exact ⟨HB.out.os, HB.out.tape, HB.out.output, HB.out.size, HB.out.block⟩))); (case side2 => repeat (first | exact HR0.out | (with_reducible refine Kd.C_alloc ?_ _) | (with_reducible refine Kd.C_drewN ?_ _) | (with_reducible refine Kd.C_drew ?_))); (case side3 => exact HC0.out); rintro e w37 ⟨rfl, hb⟩; refine ⟨_, rfl, ?_⟩; have n0_ := Aside0.mk (below_step (by repeat (first | (with_reducible first | exact HB.out | apply below_alloc | apply pw_below_drewN | apply below_drew1) | exact HB.out | exact ⟨HB.out.os, HB.out.tape, HB.out.output, HB.out.size, HB.out.block⟩)) hb); clear HB; have HB := n0_; clear n0_; (try clear hb); (try clear hb2); (try clear hk); (try clear hi)))
  go_ret2
  exact ⟨_, by first | rfl | (simp [errW_none, errW_some] <;> rfl) | (simp [*, errW_none, errW_some] <;> rfl), by first | exact Kd.R_nil _ _ _ _ _ | exact Kd.N_nil _ _ _ _ _ | exact Kd.V_nil _ _ _ _ _ | exact Kd.Q_nil _ _ _ _ _ | exact Kd.S_nil _ _ _ _ _, by repeat (first | (with_reducible first | exact HB.out | apply below_alloc | apply pw_below_drewN | apply below_drew1) | exact HB.out | exact ⟨HB.out.os, HB.out.tape, HB.out.output, HB.out.size, HB.out.block⟩)⟩

-- NOT PRINTED: function 71 (abi_NoEscape)

-- NOT PRINTED: function 53 (strings_Builder_copyCheck)

-- NOT PRINTED: function 33 (strings_Builder_WriteString)

/-! ### op_Name: function 34 -/
def op_Name.f (a0 : Int) : Option (ByteArray) := (op_Known.f a0).bind fun t144 => (if t144 = true then (if 0 ≤ a0 then (if a0 < (gl0.length : Int) then (some (rdOf ByteArray.empty gl0 a0)) else (none)) else (none)) else (some (⟨#[]⟩ : ByteArray)))
set_option maxHeartbeats 8000000 in
set_option maxRecDepth 100000 in
theorem op_Name.calls (a0 : Int) (r : ByteArray) (w : World) (hG : Gl w) (h : op_Name.f a0 = some r) :
  Calls Tryd.prog 34 #[.int .u8 a0] w fun e w' => e = .returned (.string r) ∧ Drawn0 w w' := by
 have HG := Aside0.mk hG
 clear hG
 have HRG0 := Aside0.mk HG.out.g0
 have hal0 : Tryd.prog.arrayLen 90 = 33 := by kernel_rfl
 have H : ((op_Known.f a0).bind fun t144 => (if t144 = true then (if 0 ≤ a0 then (if a0 < (gl0.length : Int) then (some (rdOf ByteArray.empty gl0 a0)) else (none)) else (none)) else (some (⟨#[]⟩ : ByteArray)))) = some r := h
 clear h
 replace H := Option.bind_eq_some_iff.mp H
 obtain ⟨t144, A20, H⟩ := H
 replace H : (if t144 = true then (if 0 ≤ a0 then (if a0 < (gl0.length : Int) then (some (rdOf ByteArray.empty gl0 a0)) else (none)) else (none)) else (some (⟨#[]⟩ : ByteArray))) = some r := H
 have A2 := Aside0.mk A20
 clear A20
 by_cases c3 : t144 = true
 ·
  subst c3
  have H1 : (if 0 ≤ a0 then (if a0 < (gl0.length : Int) then (some (rdOf ByteArray.empty gl0 a0)) else (none)) else (none)) = some r := by rw [if_pos rfl] at H; exact H
  clear H
  have H := H1
  clear H1
  by_cases c4 : 0 ≤ a0
  ·
   rw [if_pos c4] at H
   have c4b0 : decide (0 ≤ a0) = true := decide_eq_true c4
   clear c4
   by_cases c5 : a0 < (gl0.length : Int)
   ·
    rw [if_pos c5] at H
    have c5b0 : decide (a0 < (gl0.length : Int)) = true := decide_eq_true c5
    clear c5
    obtain rfl := Option.some.inj H
    go_enter Tryd.func34, Tryd.ntmps34
    go_wp2_with (first | ((with_reducible refine gate_callee (f := 27) rfl ?_); refine goesL_ (some 4) rfl rfl Tryd.func27 (by kernel_rfl) rfl #[.int .u8 a0] rfl (by (try simp only [List.map_toArray, List.map_cons, List.map_nil]); first | done | rfl | (simp only [List.length_drop, List.length_take]; rfl)) ?_; (with_reducible refine (op_Known.calls a0 true _ A2.out).mono ?_); rintro e w' ⟨rfl, ⟨nd, rfl⟩⟩; refine ⟨_, rfl, ?_⟩; have p145 : 0 ≤ (a0 : Int) := of_decide_eq_true (by first | (with_reducible assumption) | assumption); have q145 : a0 < (gl0.length : Int) := of_decide_eq_true (by first | (with_reducible assumption) | assumption); have qn145 : ((a0 : Int) < 33) = True := eq_true (by have e_ : gl0.length = 33 := rfl; have h_ := q145; rw [e_] at h_; omega); obtain ⟨ad145, e145, hx145_0⟩ := Kd.at_string HRG0.out a0 p145 q145; obtain rfl : (⟨0, 0, none⟩ : Addr) = ad145 := (by injection e145); (first | simp only [add_plain] at hx145_0 | simp only [add_at] at hx145_0 | simp only [Addr.add, Nat.zero_add] at hx145_0 | skip); replace p145 := eq_true p145; replace q145 := eq_true q145))
    go_ret
    exact ⟨by first | rfl | (simp; done) | (simp [*]; done), by repeat (first | exact Drawn0.refl _ | apply Drawn0.step)⟩
   ·
    rw [if_neg c5] at H
    exact absurd H (by simp)
  ·
   rw [if_neg c4] at H
   exact absurd H (by simp)
 ·
  replace c3 := Bool.eq_false_iff.mpr c3
  subst c3
  have H1 : (some (⟨#[]⟩ : ByteArray)) = some r := by rw [if_neg (show ¬ (false = true) by decide)] at H; exact H
  clear H
  have H := H1
  clear H1
  obtain rfl := Option.some.inj H
  go_enter Tryd.func34, Tryd.ntmps34
  go_wp2_with (first | ((with_reducible refine gate_callee (f := 27) rfl ?_); refine goesL_ (some 4) rfl rfl Tryd.func27 (by kernel_rfl) rfl #[.int .u8 a0] rfl (by (try simp only [List.map_toArray, List.map_cons, List.map_nil]); first | done | rfl | (simp only [List.length_drop, List.length_take]; rfl)) ?_; (with_reducible refine (op_Known.calls a0 false _ A2.out).mono ?_); rintro e w' ⟨rfl, ⟨nd, rfl⟩⟩; refine ⟨_, rfl, ?_⟩))
  go_ret
  exact ⟨by first | rfl | (simp; done) | (simp [*]; done), by repeat (first | exact Drawn0.refl _ | apply Drawn0.step)⟩

-- NOT PRINTED: function 81 (strconv_small)

-- NOT PRINTED: function 92 (strconv_log10Pow2)

-- NOT PRINTED: function 93 (bits_Len64)

-- NOT PRINTED: function 94 (strconv_bool2_int)

-- NOT PRINTED: function 82 (strconv_numDigits)

-- NOT PRINTED: function 83 (strconv_formatBase10)

-- NOT PRINTED: function 95 (strconv_isPowerOfTwo)

-- NOT PRINTED: function 100 (bits_TrailingZeros32)

-- NOT PRINTED: function 101 (bits_TrailingZeros64)

-- NOT PRINTED: function 96 (bits_TrailingZeros)

-- NOT PRINTED: function 84 (strconv_formatBits)

-- NOT PRINTED: function 72 (strconv_FormatInt)

-- NOT PRINTED: function 54 (strconv_Itoa_54)

-- NOT PRINTED: function 35 (strconv_Itoa_35)

-- NOT PRINTED: function 36 (strings_Builder_WriteByte)

-- NOT PRINTED: function 37 (strings_Builder_String)

/-! ### code_Text: function 14 -/
/-- A builder's state: what has been written. -/
abbrev Bld (B b : Nat) (l : List UInt8) (w : World) : Prop := Lib.IsBuilder 65 5 B b (Lib.byteCells l) w
theorem Bld.parts {B b : Nat} {l : List UInt8} {w : World} (h : Bld B b l w) : ∃ p v, (p = .pointer none ∨ p = .pointer (some ⟨b, 0, none⟩)) ∧ B ≤ b ∧ w.heap[b]? = some (.cells #[p, v] 65 (0, 0)) ∧ w.ownsRow B 5 1 v l.length (Lib.byteCells l) ∧ v.ownBlock ≠ some b := by
  rcases h with ⟨h1, v, h2, h3, h4⟩ | ⟨h1, v, h2, h3, h4⟩
  · exact ⟨_, v, .inl rfl, h1, h2, by rw [Lib.byteCells_length] at h3; exact h3, h4⟩
  · exact ⟨_, v, .inr rfl, h1, h2, by rw [Lib.byteCells_length] at h3; exact h3, h4⟩
set_option maxHeartbeats 1000000 in
set_option maxRecDepth 100000 in
theorem builder_check (b : Nat) (p v : Value) (w : World) (hp : p = .pointer none ∨ p = .pointer (some ⟨b, 0, none⟩)) (hb : w.heap[b]? = some (.cells #[p, v] 65 (0, 0))) :
    Calls Tryd.prog 53 #[.pointer (some ⟨b, 0, none⟩)] w fun e w' => e = .returned (.tuple #[]) ∧ (w' = w ∧ p = .pointer (some ⟨b, 0, none⟩) ∨ w' = w.setCell ⟨b, 0, none⟩ (.pointer (some ⟨b, 0, none⟩))) := by
  have c0 := blk_cell hb 0
  have f0 := blk_frozen hb 0
  have hsh : w.shape? b = some (65, 2) := by simp [World.shape?, hb]
  obtain ⟨j, hj, hjs⟩ := Option.map_eq_some_iff.1 (show (Tryd.prog.info? 65).map (·.size) = some 2 by kernel_rfl)
  rcases hp with rfl | rfl
  · go_enter Tryd.func53, Tryd.ntmps53
    go_wp2
    rw [Lib.run_to_unsafe w ⟨b, 0, none⟩ Tryd.underlying63 Tryd.underlying106 hj (by rw [hjs]; decide) hsh (Nat.zero_lt_succ 1)]
    simp only [Result.andThen]
    rw [Oper.upon_value]
    go_wp2
    rw [run_callFunc_extern Tryd.func71 (by kernel_rfl) (by kernel_rfl) (by kernel_rfl) (e := Extern.AbiNoEscape.same) (by kernel_rfl), Lib.run_noEscape]
    simp only [Result.andThen]
    rw [Oper.upon_value]
    go_wp2
    rw [Lib.run_from_unsafe w ⟨b, 0, none⟩ Tryd.underlying106 Tryd.underlying63 hj hsh (by kernel_rfl)]
    simp only [Result.andThen]
    rw [Oper.upon_value]
    go_wp2
    go_end0
    exact ⟨rfl, .inr rfl⟩
  · go_enter Tryd.func53, Tryd.ntmps53
    go_wp2
    rw [Lib.run_neq_ptr_same w _ Tryd.underlying63 hj]
    go_wp2
    go_end0
    exact ⟨rfl, .inl ⟨rfl, trivial⟩⟩
/-- Behind the check the builder bears its own address; nothing else is changed. -/
theorem builder_checked (B b : Nat) (l : List UInt8) (w : World) (h : Bld B b l w) : Calls Tryd.prog 53 #[.pointer (some ⟨b, 0, none⟩)] w fun e w' => e = .returned (.tuple #[]) ∧ ∃ v, B ≤ b ∧ w'.heap[b]? = some (.cells #[.pointer (some ⟨b, 0, none⟩), v] 65 (0, 0)) ∧ w'.ownsRow B 5 1 v l.length (Lib.byteCells l) ∧ v.ownBlock ≠ some b ∧ Below B w w' ∧ (∀ (k t : Nat) (cs : Array Value), w.heap[k]? = some (.cells cs t (0, 0)) → t ≠ 5 → k ≠ b → w'.heap[k]? = some (.cells cs t (0, 0))) := by
  obtain ⟨p, v, hp, hB, hb, hown, hne⟩ := h.parts
  refine (builder_check b p v w hp hb).mono ?_
  rintro e w' ⟨rfl, ⟨rfl, rfl⟩ | rfl⟩
  · exact ⟨rfl, v, hB, hb, hown, hne, Below.refl _ _, fun k t cs hk _ _ => hk⟩
  · refine ⟨rfl, v, hB, blk_put hb 0 _ rfl, ?_, hne, (Below.refl _ _).setCell (p := ⟨b, 0, none⟩) hB _, fun k t cs hk _ hkb => blk_far hk (p := ⟨b, 0, none⟩) hkb _⟩
    exact hown.kept (row := some b) ⟨rfl, rfl, rfl, by simp [World.setCell], fun k _ hk => Below.heap_setCell _ _ _ _ (fun e => hk (by simp [e]))⟩ (Or.inr hne)
set_option maxHeartbeats 1000000 in
set_option maxRecDepth 100000 in
theorem builder_text (B b : Nat) (l : List UInt8) (s : ByteArray) (w : World) (h : Bld B b l w) (hlen : l.length + s.size ≤ 1000000) (hBw : B ≤ w.heap.size) :
    Calls Tryd.prog 33 #[.pointer (some ⟨b, 0, none⟩), .string s] w fun e w' => e = .returned (.tuple #[.int .i64 s.size, .nilIface]) ∧ Bld B b (l ++ s.data.toList) w' ∧ Below B w w' ∧ (∀ (k t : Nat) (cs : Array Value), w.heap[k]? = some (.cells cs t (0, 0)) → t ≠ 5 → k ≠ b → w'.heap[k]? = some (.cells cs t (0, 0))) := by
  have HB0 := Aside0.mk h
  have HL := Aside0.mk hlen
  clear h hlen
  obtain ⟨i0, hi, hz⟩ := Option.map_eq_some_iff.1 (show (Tryd.prog.info? 5).map (fun i => (i.zero, i.size, i.bytes)) = some (some (.int .u8 0), 1, 1) by kernel_rfl)
  simp only [Prod.mk.injEq] at hz
  obtain ⟨hz0, hz1, hz2⟩ := hz
  go_enter Tryd.func33, Tryd.ntmps33
  go_wp2_with (first | (go_at_call 53; (refine (builder_checked B b l _ HB0.out).mono ?_); rintro e w1 ⟨rfl, v, hB, hbk, hown, hne, hb1, hf1⟩; have c1 := blk_cell hbk 1; have BK := Aside0.mk hbk; have OW := Aside0.mk hown; have NE := Aside0.mk hne; have B1 := Aside0.mk hb1; have F1 := Aside0.mk hf1; clear hbk hown hne hb1 hf1) | ((with_reducible refine gate_builtin (b := .append) (xs := #[.tmp 12, .tmp 13]) rfl ?_); at_builtin; refine Lib.wpList_append_own_string _ rfl (.tmp 12) (.tmp 13) 22 9 rfl B 5 i0 Tryd.underlying22 Tryd.underlying9 hi hz0 hz1 hz2 v l.length (Lib.byteCells l) rfl OW.out s rfl ?c3 ?c4 ?c5 ?_; (case c3 => unfold maxLen; have := HL.out; omega); (case c4 => have := HL.out; omega); (case c5 => have := B1.out.size; omega); intro v9 w9 hown9 hg9 _; have h9 := blk_grown BK.out hg9 (fun e => NE.out e.symm); have c91 := blk_cell h9 1; have f91 := blk_frozen h9 1; obtain ⟨A9, n9, c9, rfl⟩ : ∃ A n c, v9 = .slice A n c := (by rcases hown9.2 with ⟨hv, _⟩ | ⟨g, cap, cur, hv, _⟩; exact ⟨_, _, _, hv⟩; exact ⟨_, _, _, hv⟩); have H9 := Aside0.mk h9; have O9 := Aside0.mk hown9; have G9 := Aside0.mk hg9; clear h9 hown9 hg9))
  go_ret2
  refine ⟨rfl, .inr (Lib.BuilderAt.put hB H9.out (bs' := Lib.byteCells (l ++ s.data.toList)) ?_ (by decide)), ?_, ?_⟩
  · have e1 : Lib.byteCells (l ++ s.data.toList) = Lib.byteCells l ++ Lib.strCells s := by rw [Lib.byteCells_append, Lib.strCells_eq]
    rw [e1, List.length_append, Lib.byteCells_length, Lib.strCells_length]
    exact O9.out
  · exact (B1.out.grown G9.out (by have := B1.out.size; omega) (fun k hk => own_base OW.out k hk)).setCell (p := ⟨b, 1, none⟩) hB _
  · intro k t cs hk ht hkb
    refine blk_far (blk_grown (F1.out k t cs hk ht hkb) G9.out (fun e => ?_)) (p := ⟨b, 1, none⟩) hkb _
    obtain ⟨cells, hc⟩ := own_typed OW.out k e.symm
    rw [F1.out k t cs hk ht hkb] at hc
    simp at hc
    exact ht hc.2
set_option maxHeartbeats 1000000 in
set_option maxRecDepth 100000 in
theorem builder_byte (B b : Nat) (l : List UInt8) (c : UInt8) (w : World) (h : Bld B b l w) (hlen : l.length + 1 ≤ 1000000) (hBw : B ≤ w.heap.size) :
    Calls Tryd.prog 36 #[.pointer (some ⟨b, 0, none⟩), .int .u8 c.toNat] w fun e w' => e = .returned .nilIface ∧ Bld B b (l ++ [c]) w' ∧ Below B w w' ∧ (∀ (k t : Nat) (cs : Array Value), w.heap[k]? = some (.cells cs t (0, 0)) → t ≠ 5 → k ≠ b → w'.heap[k]? = some (.cells cs t (0, 0))) := by
  have HB0 := Aside0.mk h
  have HL := Aside0.mk hlen
  clear h hlen
  go_enter Tryd.func36, Tryd.ntmps36
  go_wp2_with (first | (go_at_call 53; (refine (builder_checked B b l _ HB0.out).mono ?_); rintro e w1 ⟨rfl, v, hB, hbk, hown, hne, hb1, hf1⟩; have c1 := blk_cell hbk 1; have BK := Aside0.mk hbk; have OW := Aside0.mk hown; have NE := Aside0.mk hne; have B1 := Aside0.mk hb1; have F1 := Aside0.mk hf1; clear hbk hown hne hb1 hf1) | ((with_reducible refine gate_builtin (b := .append) (xs := #[.tmp 11, .tmp 13]) rfl ?_); at_builtin; refine print_append_cells (w0 := w1) B rfl (.tmp 11) (.tmp 13) 22 5 (.int .u8 0) 1 1 rfl Tryd.underlying22 info5 rfl (by decide) (by decide) v l.length (Lib.byteCells l) [.int .u8 c.toNat] rfl (by first | (go_simp; done) | (go_simp; rfl)) rfl (by simp [Value.oneCell']) OW.out (Below.refl _ _) ?c5 ?c4 ?_; (case c5 => have := B1.out.size; omega); (case c4 => have := HL.out; omega); intro v9 w9 hown9 hb9 hg9 _; have h9 := blk_grown BK.out hg9 (fun e => NE.out e.symm); have c91 := blk_cell h9 1; have f91 := blk_frozen h9 1; obtain ⟨A9, n9, c9, rfl⟩ : ∃ A n c, v9 = .slice A n c := (by rcases hown9.2 with ⟨hv, _⟩ | ⟨g, cap, cur, hv, _⟩; exact ⟨_, _, _, hv⟩; exact ⟨_, _, _, hv⟩); have H9 := Aside0.mk h9; have O9 := Aside0.mk hown9; have G9 := Aside0.mk hg9; clear h9 hown9 hg9))
  go_ret
  refine ⟨rfl, .inr (Lib.BuilderAt.put hB H9.out (bs' := Lib.byteCells (l ++ [c])) ?_ (by decide)), ?_, ?_⟩
  · have e1 : Lib.byteCells (l ++ [c]) = Lib.byteCells l ++ [.int .u8 c.toNat] := by rw [Lib.byteCells_append]; rfl
    rw [e1, List.length_append, Lib.byteCells_length]
    exact O9.out
  · exact (B1.out.grown G9.out (by have := B1.out.size; omega) (fun k hk => own_base OW.out k hk)).setCell (p := ⟨b, 1, none⟩) hB _
  · intro k t cs hk ht hkb
    refine blk_far (blk_grown (F1.out k t cs hk ht hkb) G9.out (fun e => ?_)) (p := ⟨b, 1, none⟩) hkb _
    obtain ⟨cells, hc⟩ := own_typed OW.out k e.symm
    rw [F1.out k t cs hk ht hkb] at hc
    simp at hc
    exact ht hc.2
theorem txt_list (a : List UInt8) : (({ data := #[32] } : ByteArray) ++ ({ data := a.toArray } : ByteArray)).data.toList = 32 :: a := by
  rw [ByteArray.data_append]; simp
theorem txt_size (a : List UInt8) : (({ data := #[32] } : ByteArray) ++ ({ data := a.toArray } : ByteArray)).size = a.length + 1 := by
  have h : (({ data := #[32] } : ByteArray) ++ ({ data := a.toArray } : ByteArray)).data.toList.length = a.length + 1 := by rw [txt_list, List.length_cons]
  rw [Array.length_toList] at h
  exact h
theorem builder_line (B b : Nat) (l : List UInt8) (w : World) (h : Bld B b l w) (hlen : l.length + 1 ≤ 1000000) (hBw : B ≤ w.heap.size) :
    Calls Tryd.prog 36 #[.pointer (some ⟨b, 0, none⟩), .int .u8 10] w fun e w' => e = .returned .nilIface ∧ Bld B b (l ++ [10]) w' ∧ Below B w w' := by
  have e : ((10 : UInt8).toNat : Int) = 10 := by decide
  have := builder_byte B b l 10 w h hlen hBw
  rw [e] at this
  exact this.mono fun _ _ hh => ⟨hh.1, hh.2.1, hh.2.2.1⟩
theorem Bld.below {B b : Nat} {l : List UInt8} {w W : World} (h : Bld B b l w) (hb : Below w.heap.size w W) : Bld B b l W := by
  rcases h with ⟨h1, v, h2, h3, h4⟩ | ⟨h1, v, h2, h3, h4⟩
  · exact .inl ⟨h1, v, blk_below h2 hb, pw_own_below h3 hb, h4⟩
  · exact .inr ⟨h1, v, blk_below h2 hb, pw_own_below h3 hb, h4⟩
theorem Bld.lt {B b : Nat} {l : List UInt8} {w : World} (h : Bld B b l w) : b < w.heap.size := by
  obtain ⟨p, v, hp, hB, hb, _⟩ := h.parts
  exact blk_lt hb
def code_Text.l0 (k : Nat) : List S42 → List UInt8 → Option (List UInt8)
  | [], acc => some acc
  | x :: t, acc => (op_Name.f x.f0).bind fun nm => (code_wide.f k x.f0).bind fun wd => if acc.length + nm.size ≤ 900000 then (if wd = true then (if 0 ≤ x.f1 ∧ x.f1 < 100 ∧ (Lib.decDigits x.f1.toNat).length ≤ 20 then code_Text.l0 k t (acc ++ nm.data.toList ++ (32 :: Lib.decDigits x.f1.toNat) ++ [10]) else none) else code_Text.l0 k t (acc ++ nm.data.toList ++ [10])) else none
def code_Text.f (k : Nat) (l : List S42) : Option (ByteArray × Int) := (code_May.f k l).bind fun m => if m = true then (code_Text.l0 k l []).bind fun s => some (⟨s.toArray⟩, 0) else some (⟨#[]⟩, 40)
theorem code_Text.mono_l0 : ∀ (l : List S42) (k : Nat) (acc : List UInt8), LeO (code_Text.l0 k l acc) (code_Text.l0 (k + 1) l acc) := by
  intro l
  induction l with
  | nil => intro k acc; exact LeO.refl _
  | cons x t ih =>
    intro k acc
    simp only [code_Text.l0]
    exact LeO.bind (LeO.refl _) fun nm => LeO.bind (code_wide.mono _ _) fun wd => LeO.ite (LeO.ite (LeO.ite (ih _ _) (LeO.refl _)) (ih _ _)) (LeO.refl _)
theorem code_Text.mono : ∀ a0 k, LeO (code_Text.f k a0) (code_Text.f (k + 1) a0) := by
  intro l k
  unfold code_Text.f
  exact LeO.bind (code_May.mono _ _) fun m => LeO.ite (LeO.bind (code_Text.mono_l0 _ _ _) fun s => LeO.refl _) (LeO.refl _)
set_option maxHeartbeats 8000000 in
set_option maxRecDepth 100000 in
theorem code_Text.calls (k : Nat) (A0 : Option Addr) (c0 : Nat) (l0 : List (S42)) (r1 : ByteArray) (r2 : Int) (w : World) (hG : Gl w) (hr0 : Kd.C k42 w A0 l0.length l0) (hc0 : l0.length ≤ c0) (h : code_Text.f k l0 = some (r1, r2)) :
    Calls Tryd.prog 14 #[.slice A0 l0.length c0] w fun e w' => e = .returned (.tuple #[.string r1, .int .i64 r2]) ∧ Below w.heap.size w w' := by
  unfold code_Text.f at h
  obtain ⟨m, hm, h⟩ := Option.bind_eq_some_iff.mp h
  have HG := Aside0.mk hG
  have HR := Aside0.mk hr0
  have HC := Aside0.mk hc0
  have HM := Aside0.mk hm
  clear hG hr0 hc0 hm
  cases m with
  | false =>
    rw [if_neg (by decide)] at h
    simp only [Option.some.injEq, Prod.mk.injEq] at h
    obtain ⟨rfl, rfl⟩ := h
    go_enter Tryd.func14, Tryd.ntmps14
    go_wp2_with (first | (go_at_call 16; (refine (code_May.calls k A0 c0 l0 false _ HG.out HR.out HC.out HM.out).mono ?_); rintro er w1 ⟨rfl, hb⟩))
    go_ret2
    exact ⟨rfl, hb⟩
  | true =>
    rw [if_pos rfl] at h
    obtain ⟨s, hs, h⟩ := Option.bind_eq_some_iff.mp h
    simp only [Option.some.injEq, Prod.mk.injEq] at h
    obtain ⟨rfl, rfl⟩ := h
    have HS := Aside0.mk hs
    clear hs
    have hl200 : l0.length ≤ 200 := by
      have h2 := HM.out
      unfold code_May.f at h2
      by_cases h3 : (l0.length : Int) > 0
      · rw [if_pos h3] at h2
        by_cases h4 : (l0.length : Int) ≤ 200
        · omega
        · rw [if_neg h4] at h2; cases h2
      · omega
    go_enter Tryd.func14, Tryd.ntmps14
    go_wp2_with (first | (go_at_call 16; (refine (code_May.calls k A0 c0 l0 true _ HG.out HR.out HC.out HM.out).mono ?_); rintro er w1 ⟨rfl, hb⟩; have B1 := Aside0.mk hb; clear hb))
    have Z1 := Aside0.mk (show Bld w.heap.size w1.heap.size [] (w1.alloc (.cells #[.pointer none, .slice none 0 0] 65)) from .inl ⟨B1.out.size, .slice none 0 0, blk_new w1 _, own_nil _ _ _ _, by simp [Value.ownBlock]⟩)
    have ZB := Aside0.mk (below_alloc B1.out (.cells #[.pointer none, .slice none 0 0] 65))
    have HSz := B1.out.size
    go_loopw [12] (fun u wr => ∃ (i : Nat) (bs : List UInt8), u = .int .i64 (i : Int) ∧ i ≤ l0.length ∧ Aside0 (code_Text.l0 k (l0.drop i) bs = some s) ∧ Aside0 (Bld w.heap.size w1.heap.size bs wr) ∧ Aside0 (Below w.heap.size w wr))
      (fun u _ => l0.length - (intOf u).toNat)
    case atStart => exact ⟨0, [], rfl, Nat.zero_le _, HS, Z1, ZB⟩
    case round =>
      obtain ⟨i, bs, rfl, hi, HL, HD, HB⟩ := hrel
      by_cases hlt : i < l0.length
      · have hl := HL.out
        obtain ⟨ad, hA, p0, p1, p2⟩ := at_T42 (Kd.C_below HR.out HB.out) (i : Int) (by omega) (by omega)
        subst hA
        have hx : l0[i] = rd_T42 l0 (i : Int) := by simp [rd_T42, List.getD, List.getElem?_eq_getElem hlt]
        rw [List.drop_eq_getElem_cons hlt, hx, code_Text.l0] at hl
        generalize rd_T42 l0 (i : Int) = x at *
        obtain ⟨nm, hn, hl⟩ := Option.bind_eq_some_iff.mp hl
        obtain ⟨wd, hw, hl⟩ := Option.bind_eq_some_iff.mp hl
        have HN := Aside0.mk hn
        have HW := Aside0.mk hw
        clear hn hw HL hx
        by_cases hg : bs.length + nm.size ≤ 900000
        case neg => rw [if_neg hg] at hl; cases hl
        rw [if_pos hg] at hl
        have hbP := HD.out.lt
        simp only [Int.toNat_natCast] at p0 p1 p2
        cases wd with
        | true =>
          rw [if_pos rfl] at hl
          by_cases hq : 0 ≤ x.f1 ∧ x.f1 < 100 ∧ (Lib.decDigits x.f1.toNat).length ≤ 20
          case neg => rw [if_neg hq] at hl; cases hl
          rw [if_pos hq] at hl
          obtain ⟨q, hq0⟩ : ∃ q : Nat, x.f1 = (q : Int) := ⟨x.f1.toNat, by omega⟩
          obtain ⟨hq1, hq2, hq3⟩ := hq
          rw [hq0] at p1 hq2
          rw [hq0, Int.toNat_natCast] at hl hq3
          have HK := Aside0.mk hl
          clear hl
          go_wp2_with (first | (go_at_call 34; (refine (op_Name.calls x.f0 nm _ (Gl.below HG.out (HB.out.alloc HB.out.size (.cells #[.int .u8 x.f0, .int .i64 q, .int .i64 x.f2] 42))) HN.out).mono ?_); rintro er w2 ⟨rfl, ⟨nd, rfl⟩⟩; have D2 := Aside0.mk ((HD.out.below (Below.alloc (Below.refl wr.heap.size wr) (Nat.le_refl _) (.cells #[.int .u8 x.f0, .int .i64 q, .int .i64 x.f2] 42))).below (pw_below_drewN (Below.refl _ _) nd)); have BB2 := Aside0.mk (pw_below_drewN (HB.out.alloc HB.out.size (.cells #[.int .u8 x.f0, .int .i64 q, .int .i64 x.f2] 42)) nd); have K2 := Aside0.mk (blk_drewN (blk_new wr (.cells #[.int .u8 x.f0, .int .i64 q, .int .i64 x.f2] 42)) nd)) | ((fail_if_success (have h_ := M3)); go_at_call 33; (refine (builder_text w.heap.size w1.heap.size bs nm _ D2.out (by omega) BB2.out.size).mono ?_); rintro er w3 ⟨rfl, hd, hb, hF⟩; have D3 := Aside0.mk hd; have BB3 := Aside0.mk (BB2.out.trans hb); have hk := hF _ _ _ K2.out (by decide) (Nat.ne_of_gt hbP); have K3 := Aside0.mk hk; have k30 := blk_cell hk 0; have M3 := True.intro; clear hd hb hF hk) | (go_at_call 28; (refine (code_wide.calls k x.f0 true _ (Gl.below HG.out BB3.out) HW.out).mono ?_); rintro er w4 ⟨rfl, hb⟩; have D4 := Aside0.mk (D3.out.below hb); have BB4 := Aside0.mk (BB3.out.trans (hb.mono BB3.out.size)); have hk := blk_below K3.out hb; have k41 := blk_cell hk 1; have K4 := Aside0.mk hk; clear hb hk) | (go_at_call 35; (refine (Tryd.strconv_Itoa_small q (by omega) _).mono ?_); rintro er w5 ⟨rfl, rfl⟩) | (go_at_call 33; (refine (builder_text w.heap.size w1.heap.size (bs ++ nm.data.toList) (({ data := #[32] } : ByteArray) ++ ({ data := (Lib.decDigits q).toArray } : ByteArray)) _ D4.out (by rw [txt_size, List.length_append]; have : nm.data.toList.length = nm.size := rfl; omega) BB4.out.size).mono ?_); rintro er w6 ⟨rfl, hd, hb, hF⟩; have D6 := Aside0.mk hd; have BB6 := Aside0.mk (BB4.out.trans hb); clear hd hb hF) | (go_at_call 36; (refine (builder_line w.heap.size w1.heap.size _ _ D6.out (by rw [txt_list]; simp only [List.length_append, List.length_cons]; have : nm.data.toList.length = nm.size := rfl; omega) BB6.out.size).mono ?_); rintro er w9 ⟨rfl, hd, hb⟩; rw [txt_list] at hd; have BD9 := Aside0.mk hd; have BB9 := Aside0.mk (BB6.out.trans hb); clear hd hb))
          go_roundw
          case rel => exact ⟨i + 1, _, by first | rfl | simp, by omega, HK, BD9, BB9⟩
          case measure => simp [intOf]; omega
        | false =>
          rw [if_neg (by decide)] at hl
          have HK := Aside0.mk hl
          clear hl
          go_wp2_with (first | (go_at_call 34; (refine (op_Name.calls x.f0 nm _ (Gl.below HG.out (HB.out.alloc HB.out.size (.cells #[.int .u8 x.f0, .int .i64 x.f1, .int .i64 x.f2] 42))) HN.out).mono ?_); rintro er w2 ⟨rfl, ⟨nd, rfl⟩⟩; have D2 := Aside0.mk ((HD.out.below (Below.alloc (Below.refl wr.heap.size wr) (Nat.le_refl _) (.cells #[.int .u8 x.f0, .int .i64 x.f1, .int .i64 x.f2] 42))).below (pw_below_drewN (Below.refl _ _) nd)); have BB2 := Aside0.mk (pw_below_drewN (HB.out.alloc HB.out.size (.cells #[.int .u8 x.f0, .int .i64 x.f1, .int .i64 x.f2] 42)) nd); have K2 := Aside0.mk (blk_drewN (blk_new wr (.cells #[.int .u8 x.f0, .int .i64 x.f1, .int .i64 x.f2] 42)) nd)) | ((fail_if_success (have h_ := M3)); go_at_call 33; (refine (builder_text w.heap.size w1.heap.size bs nm _ D2.out (by omega) BB2.out.size).mono ?_); rintro er w3 ⟨rfl, hd, hb, hF⟩; have D3 := Aside0.mk hd; have BB3 := Aside0.mk (BB2.out.trans hb); have hk := hF _ _ _ K2.out (by decide) (Nat.ne_of_gt hbP); have K3 := Aside0.mk hk; have k30 := blk_cell hk 0; have M3 := True.intro; clear hd hb hF hk) | (go_at_call 28; (refine (code_wide.calls k x.f0 false _ (Gl.below HG.out BB3.out) HW.out).mono ?_); rintro er w4 ⟨rfl, hb⟩; have D4 := Aside0.mk (D3.out.below hb); have BB4 := Aside0.mk (BB3.out.trans (hb.mono BB3.out.size)); have hk := blk_below K3.out hb; have k41 := blk_cell hk 1; have K4 := Aside0.mk hk; clear hb hk) | (go_at_call 36; (refine (builder_line w.heap.size w1.heap.size (bs ++ nm.data.toList) _ D4.out (by simp; have : nm.data.toList.length = nm.size := rfl; omega) BB4.out.size).mono ?_); rintro er w9 ⟨rfl, hd, hb⟩; have BD9 := Aside0.mk hd; have BB9 := Aside0.mk (BB4.out.trans hb); clear hd hb))
          go_roundw
          case rel => exact ⟨i + 1, _, by first | rfl | simp, by omega, HK, BD9, BB9⟩
          case measure => simp [intOf]; omega
      · have hl := HL.out
        rw [List.drop_eq_nil_of_le (by omega), code_Text.l0, Option.some.injEq] at hl
        subst hl
        go_wp2_with (first | (go_at_call 37; (refine (Tryd.Builder_String_any w.heap.size w1.heap.size bs _ HD.out HB.out.size).mono ?_); rintro er w9 ⟨rfl, hb⟩; have B9 := Aside0.mk hb; clear hb))
        go_ret2
        exact ⟨rfl, HB.out.trans B9.out⟩

/-! ### capstanlaw05_told: function 21 -/
def capstanlaw05_told.f (k : Nat) (a0 : Int) (l1 : List Int) : Option (Bool) := (code_Read.f k l1 0).bind fun bt146 => (if (bt146.1.length : Int) = 0 then (if bt146.2.1 = 0 then (some (bt146.2.2 == a0)) else (none)) else (none))
theorem capstanlaw05_told.mono : ∀ a0 a1 k, LeO (capstanlaw05_told.f k a0 a1) (capstanlaw05_told.f (k + 1) a0 a1) := by
 intro a0 a1 k
 unfold capstanlaw05_told.f
 repeat' first
   | (with_reducible exact code_Read.mono _ _ _)
   | (with_reducible exact LeO.refl _)
   | (with_reducible exact LeO.none _)
   | (with_reducible refine LeO.ite ?_ ?_)
   | (with_reducible refine LeO.bind ?_ (fun _ => ?_))
   | exact code_Read.mono _ _ _
   | exact LeO.none _
   | refine LeO.ite ?_ ?_
   | refine LeO.bind ?_ (fun _ => ?_)
set_option maxHeartbeats 8000000 in
set_option maxRecDepth 100000 in
theorem capstanlaw05_told.calls (k : Nat) (a0 : Int) (A1 : Option Addr) (c1 : Nat) (l1 : List Int) (r : Bool) (w : World) (hG : Gl w) (hr1 : Kd.C (Kd.int .u8) w A1 l1.length l1) (hc1 : l1.length ≤ c1) (h : capstanlaw05_told.f k a0 l1 = some r) :
  Calls Tryd.prog 21 #[.int .i64 a0, .slice A1 l1.length c1] w fun e w' => e = .returned (.bool r) ∧ Below w.heap.size w w' := by
 have HG := Aside0.mk hG
 clear hG
 have HR1 := Aside0.mk hr1
 have HC1 := Aside0.mk hc1
 clear hr1 hc1
 have HB := Aside0.mk (Below.refl w.heap.size w)
 have H : ((code_Read.f k l1 0).bind fun bt146 => (if (bt146.1.length : Int) = 0 then (if bt146.2.1 = 0 then (some (bt146.2.2 == a0)) else (none)) else (none))) = some r := h
 clear h
 replace H := Option.bind_eq_some_iff.mp H
 obtain ⟨⟨t146, t147, t148⟩, A30, H⟩ := H
 replace H : (if (t146.length : Int) = 0 then (if t147 = 0 then (some (t148 == a0)) else (none)) else (none)) = some r := H
 have A3 := Aside0.mk A30
 clear A30
 by_cases c4 : (t146.length : Int) = 0
 ·
  rw [if_pos c4] at H
  have c4b0 : ((t146.length : Int) == 0) = true := beq_iff_eq.mpr c4
  have c4b1 : ((t146.length : Int) != 0) = false := bne_eq_false_iff_eq.mpr c4
  clear c4
  by_cases c5 : t147 = 0
  ·
   rw [if_pos c5] at H
   have c5b0 : (t147 == 0) = true := beq_iff_eq.mpr c5
   have c5b1 : (t147 != 0) = false := bne_eq_false_iff_eq.mpr c5
   clear c5
   obtain rfl := Option.some.inj H
   go_enter Tryd.func21, Tryd.ntmps21
   go_wp2_with (first | ((with_reducible refine gate_callee (f := 9) rfl ?_); refine goesL_ (some 10) rfl rfl Tryd.func9 (by kernel_rfl) rfl #[.slice A1 l1.length c1, .int .i64 0] rfl (by (try simp only [List.map_toArray, List.map_cons, List.map_nil]); first | done | rfl | (simp only [List.length_drop, List.length_take]; rfl)) ?_; (with_reducible refine (code_Read.calls k _ _ l1 0 t146 t147 t148 _ ?side1 ?side2 ?side3 A3.out).mono ?_); (case side1 => first | exact HG.out | ((repeat (first | exact HG.out | exact Gl.below HG.out HB.out | (with_reducible refine Gl.alloc ?_ _) | (with_reducible refine Gl.drewN ?_ _) | (with_reducible refine Gl.drew ?_))); done) | exact Gl.below HG.out (by repeat (first | (with_reducible first | exact HB.out | apply below_alloc | apply pw_below_drewN | apply below_drew1) | exact HB.out | exact ⟨HB.out.os, HB.out.tape, HB.out.output, HB.out.size, HB.out.block⟩))); (case side2 => repeat (first | exact HR1.out | (with_reducible refine Kd.C_alloc ?_ _) | (with_reducible refine Kd.C_drewN ?_ _) | (with_reducible refine Kd.C_drew ?_))); (case side3 => exact HC1.out); rintro e w6 ⟨v149, rfl, ho0, hb⟩; refine ⟨_, rfl, ?_⟩; have n0_ := Aside0.mk (Kd.R_lower ho0 (below_size (by repeat (first | (with_reducible first | exact HB.out | apply below_alloc | apply pw_below_drewN | apply below_drew1) | exact HB.out | exact ⟨HB.out.os, HB.out.tape, HB.out.output, HB.out.size, HB.out.block⟩)))); have n1_ := Aside0.mk (below_step (by repeat (first | (with_reducible first | exact HB.out | apply below_alloc | apply pw_below_drewN | apply below_drew1) | exact HB.out | exact ⟨HB.out.os, HB.out.tape, HB.out.output, HB.out.size, HB.out.block⟩)) hb); clear HB; have HO150 := n0_; have HB := n1_; clear n0_ n1_; (try clear hb); (try clear hb2); (try clear hk); (try clear hi); (try clear ho0); obtain ⟨Ao7, co7, eo7⟩ := Kd.R_slice HO150.out; subst eo7))
   go_ret
   exact ⟨by first | rfl | (simp [errW_none, errW_some] <;> rfl) | (simp [*, errW_none, errW_some] <;> rfl), by repeat (first | (with_reducible first | exact HB.out | apply below_alloc | apply pw_below_drewN | apply below_drew1) | exact HB.out | exact ⟨HB.out.os, HB.out.tape, HB.out.output, HB.out.size, HB.out.block⟩)⟩
  ·
   rw [if_neg c5] at H
   exact absurd H (by simp)
 ·
  rw [if_neg c4] at H
  exact absurd H (by simp)

/-! ### capstanlaw05_awake: function 20 -/
def capstanlaw05_awake.f (k : Nat)  : Option (Bool) := (some (([(⟨1, 3, 0⟩ : S42), (⟨31, 0, 0⟩ : S42)] : List (S42)) : List (S42))).bind fun y151 => ((code_Bytes.f k y151).bind fun bt154 => ((code_Text.f k y151).bind fun bt158 => (if (strOfNums bt154.1).toList = ([2, 1, 3, 0, 31] : List UInt8) then (if bt154.2 = 0 then (if bt158.1.toList = ([99, 111, 110, 115, 116, 32, 51, 10, 114, 101, 116, 10] : List UInt8) then (if bt158.2 = 0 then ((capstanlaw05_told.f k 40 (([0] : List Int))).bind fun t163 => (if t163 = true then ((capstanlaw05_told.f k 10 (([2, 1] : List Int))).bind fun t167 => (if t167 = true then ((capstanlaw05_told.f k 40 (([1, 1, 32, 0] : List Int))).bind fun t171 => (if t171 = true then ((capstanlaw05_told.f k 40 (([1, 33] : List Int))).bind fun t175 => (some t175)) else (none))) else (none))) else (none))) else (none)) else (none)) else (none)) else (none))))
theorem capstanlaw05_awake.mono : ∀ k, LeO (capstanlaw05_awake.f k ) (capstanlaw05_awake.f (k + 1) ) := by
 intro  k
 unfold capstanlaw05_awake.f
 repeat' first
   | (with_reducible exact capstanlaw05_told.mono _ _ _)
   | (with_reducible exact code_Bytes.mono _ _)
   | (with_reducible exact code_Text.mono _ _)
   | (with_reducible exact LeO.refl _)
   | (with_reducible exact LeO.none _)
   | (with_reducible refine LeO.ite ?_ ?_)
   | (with_reducible refine LeO.bind ?_ (fun _ => ?_))
   | exact capstanlaw05_told.mono _ _ _
   | exact code_Bytes.mono _ _
   | exact code_Text.mono _ _
   | exact LeO.none _
   | refine LeO.ite ?_ ?_
   | refine LeO.bind ?_ (fun _ => ?_)
set_option maxHeartbeats 8000000 in
set_option maxRecDepth 100000 in
theorem capstanlaw05_awake.calls (k : Nat)  (r : Bool) (w : World) (hG : Gl w) (h : capstanlaw05_awake.f k  = some r) :
  Calls Tryd.prog 20 #[] w fun e w' => e = .returned (.bool r) ∧ Below w.heap.size w w' := by
 have hu42 := Tryd.underlying42
 have HG := Aside0.mk hG
 clear hG
 have HB := Aside0.mk (Below.refl w.heap.size w)
 have H : ((some (([(⟨1, 3, 0⟩ : S42), (⟨31, 0, 0⟩ : S42)] : List (S42)) : List (S42))).bind fun y151 => ((code_Bytes.f k y151).bind fun bt154 => ((code_Text.f k y151).bind fun bt158 => (if (strOfNums bt154.1).toList = ([2, 1, 3, 0, 31] : List UInt8) then (if bt154.2 = 0 then (if bt158.1.toList = ([99, 111, 110, 115, 116, 32, 51, 10, 114, 101, 116, 10] : List UInt8) then (if bt158.2 = 0 then ((capstanlaw05_told.f k 40 (([0] : List Int))).bind fun t163 => (if t163 = true then ((capstanlaw05_told.f k 10 (([2, 1] : List Int))).bind fun t167 => (if t167 = true then ((capstanlaw05_told.f k 40 (([1, 1, 32, 0] : List Int))).bind fun t171 => (if t171 = true then ((capstanlaw05_told.f k 40 (([1, 33] : List Int))).bind fun t175 => (some t175)) else (none))) else (none))) else (none))) else (none)) else (none)) else (none)) else (none))))) = some r := h
 clear h
 obtain ⟨y151, hy151⟩ : ∃ y_ : List (S42), y_ = (([(⟨1, 3, 0⟩ : S42), (⟨31, 0, 0⟩ : S42)] : List (S42))) := ⟨_, rfl⟩
 replace H : ((code_Bytes.f k y151).bind fun bt154 => ((code_Text.f k y151).bind fun bt158 => (if (strOfNums bt154.1).toList = ([2, 1, 3, 0, 31] : List UInt8) then (if bt154.2 = 0 then (if bt158.1.toList = ([99, 111, 110, 115, 116, 32, 51, 10, 114, 101, 116, 10] : List UInt8) then (if bt158.2 = 0 then ((capstanlaw05_told.f k 40 (([0] : List Int))).bind fun t163 => (if t163 = true then ((capstanlaw05_told.f k 10 (([2, 1] : List Int))).bind fun t167 => (if t167 = true then ((capstanlaw05_told.f k 40 (([1, 1, 32, 0] : List Int))).bind fun t171 => (if t171 = true then ((capstanlaw05_told.f k 40 (([1, 33] : List Int))).bind fun t175 => (some t175)) else (none))) else (none))) else (none))) else (none)) else (none)) else (none)) else (none)))) = some r := by first | (rw [hy151]; with_reducible exact H) | (have H2_ := (Option.bind_some _ _).symm.trans H; rw [hy151]; with_reducible exact H2_) | (have H2_ := (Option.bind_some _ _).symm.trans H; with_reducible exact H2_) | with_reducible exact H | (rw [hy151]; exact H) | exact H
 have Ny151 := Aside0.mk hy151
 clear hy151
 replace H := Option.bind_eq_some_iff.mp H
 obtain ⟨⟨t154, t155⟩, A10, H⟩ := H
 replace H : ((code_Text.f k y151).bind fun bt158 => (if (strOfNums t154).toList = ([2, 1, 3, 0, 31] : List UInt8) then (if t155 = 0 then (if bt158.1.toList = ([99, 111, 110, 115, 116, 32, 51, 10, 114, 101, 116, 10] : List UInt8) then (if bt158.2 = 0 then ((capstanlaw05_told.f k 40 (([0] : List Int))).bind fun t163 => (if t163 = true then ((capstanlaw05_told.f k 10 (([2, 1] : List Int))).bind fun t167 => (if t167 = true then ((capstanlaw05_told.f k 40 (([1, 1, 32, 0] : List Int))).bind fun t171 => (if t171 = true then ((capstanlaw05_told.f k 40 (([1, 33] : List Int))).bind fun t175 => (some t175)) else (none))) else (none))) else (none))) else (none)) else (none)) else (none)) else (none))) = some r := H
 have A1 := Aside0.mk A10
 clear A10
 replace H := Option.bind_eq_some_iff.mp H
 obtain ⟨⟨t158, t159⟩, A20, H⟩ := H
 replace H : (if (strOfNums t154).toList = ([2, 1, 3, 0, 31] : List UInt8) then (if t155 = 0 then (if t158.toList = ([99, 111, 110, 115, 116, 32, 51, 10, 114, 101, 116, 10] : List UInt8) then (if t159 = 0 then ((capstanlaw05_told.f k 40 (([0] : List Int))).bind fun t163 => (if t163 = true then ((capstanlaw05_told.f k 10 (([2, 1] : List Int))).bind fun t167 => (if t167 = true then ((capstanlaw05_told.f k 40 (([1, 1, 32, 0] : List Int))).bind fun t171 => (if t171 = true then ((capstanlaw05_told.f k 40 (([1, 33] : List Int))).bind fun t175 => (some t175)) else (none))) else (none))) else (none))) else (none)) else (none)) else (none)) else (none)) = some r := H
 have A2 := Aside0.mk A20
 clear A20
 by_cases c3 : (strOfNums t154).toList = ([2, 1, 3, 0, 31] : List UInt8)
 ·
  rw [if_pos c3] at H
  have c3b0 : ((strOfNums t154).toList == ([2, 1, 3, 0, 31] : List UInt8)) = true := beq_iff_eq.mpr c3
  have c3b1 : ((strOfNums t154).toList != ([2, 1, 3, 0, 31] : List UInt8)) = false := bne_eq_false_iff_eq.mpr c3
  clear c3
  by_cases c4 : t155 = 0
  ·
   rw [if_pos c4] at H
   have c4b0 : (t155 == 0) = true := beq_iff_eq.mpr c4
   have c4b1 : (t155 != 0) = false := bne_eq_false_iff_eq.mpr c4
   clear c4
   by_cases c5 : t158.toList = ([99, 111, 110, 115, 116, 32, 51, 10, 114, 101, 116, 10] : List UInt8)
   ·
    rw [if_pos c5] at H
    have c5b0 : (t158.toList == ([99, 111, 110, 115, 116, 32, 51, 10, 114, 101, 116, 10] : List UInt8)) = true := beq_iff_eq.mpr c5
    have c5b1 : (t158.toList != ([99, 111, 110, 115, 116, 32, 51, 10, 114, 101, 116, 10] : List UInt8)) = false := bne_eq_false_iff_eq.mpr c5
    clear c5
    by_cases c6 : t159 = 0
    ·
     rw [if_pos c6] at H
     have c6b0 : (t159 == 0) = true := beq_iff_eq.mpr c6
     have c6b1 : (t159 != 0) = false := bne_eq_false_iff_eq.mpr c6
     clear c6
     obtain ⟨y160, hy160⟩ : ∃ y_ : List Int, y_ = (([0] : List Int)) := ⟨_, rfl⟩
     replace H : ((capstanlaw05_told.f k 40 y160).bind fun t163 => (if t163 = true then ((capstanlaw05_told.f k 10 (([2, 1] : List Int))).bind fun t167 => (if t167 = true then ((capstanlaw05_told.f k 40 (([1, 1, 32, 0] : List Int))).bind fun t171 => (if t171 = true then ((capstanlaw05_told.f k 40 (([1, 33] : List Int))).bind fun t175 => (some t175)) else (none))) else (none))) else (none))) = some r := by first | (rw [hy160]; with_reducible exact H) | (have H2_ := (Option.bind_some _ _).symm.trans H; rw [hy160]; with_reducible exact H2_) | (have H2_ := (Option.bind_some _ _).symm.trans H; with_reducible exact H2_) | with_reducible exact H | (rw [hy160]; exact H) | exact H
     have Ny160 := Aside0.mk hy160
     clear hy160
     replace H := Option.bind_eq_some_iff.mp H
     obtain ⟨t163, A70, H⟩ := H
     replace H : (if t163 = true then ((capstanlaw05_told.f k 10 (([2, 1] : List Int))).bind fun t167 => (if t167 = true then ((capstanlaw05_told.f k 40 (([1, 1, 32, 0] : List Int))).bind fun t171 => (if t171 = true then ((capstanlaw05_told.f k 40 (([1, 33] : List Int))).bind fun t175 => (some t175)) else (none))) else (none))) else (none)) = some r := H
     have A7 := Aside0.mk A70
     clear A70
     by_cases c8 : t163 = true
     ·
      subst c8
      have H1 : ((capstanlaw05_told.f k 10 (([2, 1] : List Int))).bind fun t167 => (if t167 = true then ((capstanlaw05_told.f k 40 (([1, 1, 32, 0] : List Int))).bind fun t171 => (if t171 = true then ((capstanlaw05_told.f k 40 (([1, 33] : List Int))).bind fun t175 => (some t175)) else (none))) else (none))) = some r := by rw [if_pos rfl] at H; exact H
      clear H
      have H := H1
      clear H1
      obtain ⟨y164, hy164⟩ : ∃ y_ : List Int, y_ = (([2, 1] : List Int)) := ⟨_, rfl⟩
      replace H : ((capstanlaw05_told.f k 10 y164).bind fun t167 => (if t167 = true then ((capstanlaw05_told.f k 40 (([1, 1, 32, 0] : List Int))).bind fun t171 => (if t171 = true then ((capstanlaw05_told.f k 40 (([1, 33] : List Int))).bind fun t175 => (some t175)) else (none))) else (none))) = some r := by first | (rw [hy164]; with_reducible exact H) | (have H2_ := (Option.bind_some _ _).symm.trans H; rw [hy164]; with_reducible exact H2_) | (have H2_ := (Option.bind_some _ _).symm.trans H; with_reducible exact H2_) | with_reducible exact H | (rw [hy164]; exact H) | exact H
      have Ny164 := Aside0.mk hy164
      clear hy164
      replace H := Option.bind_eq_some_iff.mp H
      obtain ⟨t167, A90, H⟩ := H
      replace H : (if t167 = true then ((capstanlaw05_told.f k 40 (([1, 1, 32, 0] : List Int))).bind fun t171 => (if t171 = true then ((capstanlaw05_told.f k 40 (([1, 33] : List Int))).bind fun t175 => (some t175)) else (none))) else (none)) = some r := H
      have A9 := Aside0.mk A90
      clear A90
      by_cases c10 : t167 = true
      ·
       subst c10
       have H1 : ((capstanlaw05_told.f k 40 (([1, 1, 32, 0] : List Int))).bind fun t171 => (if t171 = true then ((capstanlaw05_told.f k 40 (([1, 33] : List Int))).bind fun t175 => (some t175)) else (none))) = some r := by rw [if_pos rfl] at H; exact H
       clear H
       have H := H1
       clear H1
       obtain ⟨y168, hy168⟩ : ∃ y_ : List Int, y_ = (([1, 1, 32, 0] : List Int)) := ⟨_, rfl⟩
       replace H : ((capstanlaw05_told.f k 40 y168).bind fun t171 => (if t171 = true then ((capstanlaw05_told.f k 40 (([1, 33] : List Int))).bind fun t175 => (some t175)) else (none))) = some r := by first | (rw [hy168]; with_reducible exact H) | (have H2_ := (Option.bind_some _ _).symm.trans H; rw [hy168]; with_reducible exact H2_) | (have H2_ := (Option.bind_some _ _).symm.trans H; with_reducible exact H2_) | with_reducible exact H | (rw [hy168]; exact H) | exact H
       have Ny168 := Aside0.mk hy168
       clear hy168
       replace H := Option.bind_eq_some_iff.mp H
       obtain ⟨t171, A110, H⟩ := H
       replace H : (if t171 = true then ((capstanlaw05_told.f k 40 (([1, 33] : List Int))).bind fun t175 => (some t175)) else (none)) = some r := H
       have A11 := Aside0.mk A110
       clear A110
       by_cases c12 : t171 = true
       ·
        subst c12
        have H1 : ((capstanlaw05_told.f k 40 (([1, 33] : List Int))).bind fun t175 => (some t175)) = some r := by rw [if_pos rfl] at H; exact H
        clear H
        have H := H1
        clear H1
        obtain ⟨y172, hy172⟩ : ∃ y_ : List Int, y_ = (([1, 33] : List Int)) := ⟨_, rfl⟩
        replace H : ((capstanlaw05_told.f k 40 y172).bind fun t175 => (some t175)) = some r := by first | (rw [hy172]; with_reducible exact H) | (have H2_ := (Option.bind_some _ _).symm.trans H; rw [hy172]; with_reducible exact H2_) | (have H2_ := (Option.bind_some _ _).symm.trans H; with_reducible exact H2_) | with_reducible exact H | (rw [hy172]; exact H) | exact H
        have Ny172 := Aside0.mk hy172
        clear hy172
        replace H := Option.bind_eq_some_iff.mp H
        obtain ⟨t175, A130, H⟩ := H
        replace H : (some t175) = some r := H
        have A13 := Aside0.mk A130
        clear A130
        obtain rfl := Option.some.inj H
        go_enter Tryd.func20, Tryd.ntmps20
        go_wp2_with (first | ((with_reducible refine gate_dst (N := 8) rfl ?_); (try (refine gate_guard (by rfl) ?_; dsimp only)); refine Kd.R_lit k42 _ 42 ?hg (N := 8) ?hd (xs := ([(⟨1, 3, 0⟩ : S42), (⟨31, 0, 0⟩ : S42)] : List (S42))) (inner := [.int .u8 1, .int .i64 3, .int .i64 0, .int .u8 31, .int .i64 0, .int .i64 0]) (ok := fun _ => True) (okp := fun _ => True) ?hr ?hp (fun _ hk => hk) trivial (Below.refl _ _) (Nat.le_refl _) (by simp) ?_; (case hd => rfl); (case hg => rfl); (case hr => first | (go_simp; done) | (go_simp; rfl)); (case hp => exact (Reps.c3 (show Kd.M k42 _ _ _ (⟨1, 3, 0⟩ : S42) [.int .u8 1, .int .i64 3, .int .i64 0] from (k42_mkM _ _ _ (⟨1, 3, 0⟩ : S42) )) (Reps.c3 (show Kd.M k42 _ _ _ (⟨31, 0, 0⟩ : S42) [.int .u8 31, .int .i64 0, .int .i64 0] from (k42_mkM _ _ _ (⟨31, 0, 0⟩ : S42) )) (Reps.none _ _)))); intro v152 w14 ho15 hb hg_ hnew_; clear hg_ hnew_; (first | rw [← Ny151.out] at ho15 | (simp only [Int.reduceToNat] at ho15; rw [← Ny151.out] at ho15)); have n0_ := Aside0.mk (Kd.R_lower ho15 (below_size (by repeat (first | (with_reducible first | exact HB.out | apply below_alloc | apply pw_below_drewN | apply below_drew1) | exact HB.out | exact ⟨HB.out.os, HB.out.tape, HB.out.output, HB.out.size, HB.out.block⟩)))); have n1_ := Aside0.mk (below_step (by repeat (first | (with_reducible first | exact HB.out | apply below_alloc | apply pw_below_drewN | apply below_drew1) | exact HB.out | exact ⟨HB.out.os, HB.out.tape, HB.out.output, HB.out.size, HB.out.block⟩)) hb); clear HB; have HO153 := n0_; have HB := n1_; clear n0_ n1_; clear hb ho15; obtain ⟨Ao16, co16, eo16⟩ := Kd.R_slice HO153.out; subst eo16) | ((with_reducible refine gate_callee (f := 19) rfl ?_); refine goesL_ (some 11) rfl rfl Tryd.func19 (by kernel_rfl) rfl #[.slice Ao16 y151.length co16] rfl (by (try simp only [List.map_toArray, List.map_cons, List.map_nil]); first | done | rfl | (simp only [List.length_drop, List.length_take]; rfl)) ?_; (with_reducible refine (code_Bytes.calls k _ _ y151 t154 t155 _ ?side1 ?side2 ?side3 A1.out).mono ?_); (case side1 => first | exact HG.out | ((repeat (first | exact HG.out | exact Gl.below HG.out HB.out | (with_reducible refine Gl.alloc ?_ _) | (with_reducible refine Gl.drewN ?_ _) | (with_reducible refine Gl.drew ?_))); done) | exact Gl.below HG.out (by repeat (first | (with_reducible first | exact HB.out | apply below_alloc | apply pw_below_drewN | apply below_drew1) | exact HB.out | exact ⟨HB.out.os, HB.out.tape, HB.out.output, HB.out.size, HB.out.block⟩))); (case side2 => repeat (first | exact (Kd.R_reads' HO153.out).2.2 | (with_reducible refine Kd.C_alloc ?_ _) | (with_reducible refine Kd.C_drewN ?_ _) | (with_reducible refine Kd.C_drew ?_))); (case side3 => exact (Kd.R_reads' HO153.out).2.1); rintro e w17 ⟨v156, rfl, ho0, hb⟩; refine ⟨_, rfl, ?_⟩; have n0_ := Aside0.mk (Kd.R_below (by (with_reducible repeat (first | apply Kd.R_alloc | apply Kd.R_drewN | apply Kd.R_drew)); first | exact HO153.out | exact Kd.R_mono (HO153.out) (fun _ h_ => h_.2)) hb); have n1_ := Aside0.mk (Kd.R_lower ho0 (below_size (by repeat (first | (with_reducible first | exact HB.out | apply below_alloc | apply pw_below_drewN | apply below_drew1) | exact HB.out | exact ⟨HB.out.os, HB.out.tape, HB.out.output, HB.out.size, HB.out.block⟩)))); have n2_ := Aside0.mk (below_step (by repeat (first | (with_reducible first | exact HB.out | apply below_alloc | apply pw_below_drewN | apply below_drew1) | exact HB.out | exact ⟨HB.out.os, HB.out.tape, HB.out.output, HB.out.size, HB.out.block⟩)) hb); clear HO153; clear HB; have HO153 := n0_; have HO157 := n1_; have HB := n2_; clear n0_ n1_ n2_; (try clear hb); (try clear hb2); (try clear hk); (try clear hi); (try clear ho0)) | ((with_reducible refine gate_callee (f := 14) rfl ?_); refine goesL_ (some 16) rfl rfl Tryd.func14 (by kernel_rfl) rfl #[.slice Ao16 y151.length co16] rfl (by (try simp only [List.map_toArray, List.map_cons, List.map_nil]); first | done | rfl | (simp only [List.length_drop, List.length_take]; rfl)) ?_; (with_reducible refine (code_Text.calls k _ _ y151 t158 t159 _ ?side1 ?side2 ?side3 A2.out).mono ?_); (case side1 => first | exact HG.out | ((repeat (first | exact HG.out | exact Gl.below HG.out HB.out | (with_reducible refine Gl.alloc ?_ _) | (with_reducible refine Gl.drewN ?_ _) | (with_reducible refine Gl.drew ?_))); done) | exact Gl.below HG.out (by repeat (first | (with_reducible first | exact HB.out | apply below_alloc | apply pw_below_drewN | apply below_drew1) | exact HB.out | exact ⟨HB.out.os, HB.out.tape, HB.out.output, HB.out.size, HB.out.block⟩))); (case side2 => repeat (first | exact (Kd.R_reads' HO153.out).2.2 | (with_reducible refine Kd.C_alloc ?_ _) | (with_reducible refine Kd.C_drewN ?_ _) | (with_reducible refine Kd.C_drew ?_))); (case side3 => exact (Kd.R_reads' HO153.out).2.1); rintro e w18 ⟨rfl, hb⟩; refine ⟨_, rfl, ?_⟩; have n0_ := Aside0.mk (Kd.R_below (by (with_reducible repeat (first | apply Kd.R_alloc | apply Kd.R_drewN | apply Kd.R_drew)); first | exact HO153.out | exact Kd.R_mono (HO153.out) (fun _ h_ => h_.2)) hb); have n1_ := Aside0.mk (Kd.R_below (by (with_reducible repeat (first | apply Kd.R_alloc | apply Kd.R_drewN | apply Kd.R_drew)); first | exact HO157.out | exact Kd.R_mono (HO157.out) (fun _ h_ => h_.2)) hb); have n2_ := Aside0.mk (below_step (by repeat (first | (with_reducible first | exact HB.out | apply below_alloc | apply pw_below_drewN | apply below_drew1) | exact HB.out | exact ⟨HB.out.os, HB.out.tape, HB.out.output, HB.out.size, HB.out.block⟩)) hb); clear HO153; clear HO157; clear HB; have HO153 := n0_; have HO157 := n1_; have HB := n2_; clear n0_ n1_ n2_; (try clear hb); (try clear hb2); (try clear hk); (try clear hi); have hcv19 := own_string (P := Tryd.prog) Tryd.underlying22 Tryd.underlying5 Tryd.underlying9 (Kd.own_of_R HO157.out); (try have hcv20 := fun n_ : Nat => own_string (P := Tryd.prog) Tryd.underlying22 Tryd.underlying5 Tryd.underlying9 (Kd.own_of_R (Kd.R_drewN HO157.out n_)))) | ((with_reducible refine gate_dst (N := 35) rfl ?_); (try (refine gate_guard (by rfl) ?_; dsimp only)); refine Kd.R_lit (Kd.int .u8) _ 5 ?hg (N := 35) ?hd (xs := ([0] : List Int)) (inner := [.int .u8 0]) (ok := fun _ => True) (okp := fun _ => True) ?hr ?hp (fun _ hk => hk) trivial (Below.refl _ _) (Nat.le_refl _) (by simp) ?_; (case hd => rfl); (case hg => rfl); (case hr => first | (go_simp; done) | (go_simp; rfl)); (case hp => exact (Reps.one (show Kd.M (Kd.int .u8) _ _ _ 0 [.int .u8 0] from rfl) (Reps.none _ _))); intro v161 w21 ho22 hb hg_ hnew_; clear hg_ hnew_; (first | rw [← Ny160.out] at ho22 | (simp only [Int.reduceToNat] at ho22; rw [← Ny160.out] at ho22)); have n0_ := Aside0.mk (Kd.R_below (by (with_reducible repeat (first | apply Kd.R_alloc | apply Kd.R_drewN | apply Kd.R_drew)); first | exact HO153.out | exact Kd.R_mono (HO153.out) (fun _ h_ => h_.2)) hb); have n1_ := Aside0.mk (Kd.R_elder' (by (with_reducible repeat (first | apply Kd.R_alloc | apply Kd.R_drewN | apply Kd.R_drew)); first | exact HO157.out | exact Kd.R_mono (HO157.out) (fun _ h_ => h_.2)) (Kd.R_base ho22) hb); have n2_ := Aside0.mk (Kd.R_lower (Kd.R_new' ho22 (Kd.R_lt (by (with_reducible repeat (first | apply Kd.R_alloc | apply Kd.R_drewN | apply Kd.R_drew)); first | exact HO157.out | exact Kd.R_mono (HO157.out) (fun _ h_ => h_.2)))) (below_size (by repeat (first | (with_reducible first | exact HB.out | apply below_alloc | apply pw_below_drewN | apply below_drew1) | exact HB.out | exact ⟨HB.out.os, HB.out.tape, HB.out.output, HB.out.size, HB.out.block⟩)))); have n3_ := Aside0.mk (below_step (by repeat (first | (with_reducible first | exact HB.out | apply below_alloc | apply pw_below_drewN | apply below_drew1) | exact HB.out | exact ⟨HB.out.os, HB.out.tape, HB.out.output, HB.out.size, HB.out.block⟩)) hb); clear HO153; clear HO157; clear HB; have HO153 := n0_; have HO157 := n1_; have HO162 := n2_; have HB := n3_; clear n0_ n1_ n2_ n3_; clear hb ho22; obtain ⟨Ao23, co23, eo23⟩ := Kd.R_slice HO162.out; subst eo23) | ((fail_if_success (have h_ := w24)); go_at_call 21; (with_reducible refine (capstanlaw05_told.calls k 40 _ _ y160 true _ ?side1 ?side2 ?side3 A7.out).mono ?_); (case side1 => first | exact HG.out | ((repeat (first | exact HG.out | exact Gl.below HG.out HB.out | (with_reducible refine Gl.alloc ?_ _) | (with_reducible refine Gl.drewN ?_ _) | (with_reducible refine Gl.drew ?_))); done) | exact Gl.below HG.out (by repeat (first | (with_reducible first | exact HB.out | apply below_alloc | apply pw_below_drewN | apply below_drew1) | exact HB.out | exact ⟨HB.out.os, HB.out.tape, HB.out.output, HB.out.size, HB.out.block⟩))); (case side2 => repeat (first | exact (Kd.R_reads' HO162.out).2.2 | (with_reducible refine Kd.C_alloc ?_ _) | (with_reducible refine Kd.C_drewN ?_ _) | (with_reducible refine Kd.C_drew ?_))); (case side3 => exact (Kd.R_reads' HO162.out).2.1); rintro e w24 ⟨rfl, hb⟩; have n0_ := Aside0.mk (Kd.R_below (by (with_reducible repeat (first | apply Kd.R_alloc | apply Kd.R_drewN | apply Kd.R_drew)); first | exact HO153.out | exact Kd.R_mono (HO153.out) (fun _ h_ => h_.2)) hb); have n1_ := Aside0.mk (Kd.R_below (by (with_reducible repeat (first | apply Kd.R_alloc | apply Kd.R_drewN | apply Kd.R_drew)); first | exact HO157.out | exact Kd.R_mono (HO157.out) (fun _ h_ => h_.2)) hb); have n2_ := Aside0.mk (Kd.R_below (by (with_reducible repeat (first | apply Kd.R_alloc | apply Kd.R_drewN | apply Kd.R_drew)); first | exact HO162.out | exact Kd.R_mono (HO162.out) (fun _ h_ => h_.2)) hb); have n3_ := Aside0.mk (below_step (by repeat (first | (with_reducible first | exact HB.out | apply below_alloc | apply pw_below_drewN | apply below_drew1) | exact HB.out | exact ⟨HB.out.os, HB.out.tape, HB.out.output, HB.out.size, HB.out.block⟩)) hb); clear HO153; clear HO157; clear HO162; clear HB; have HO153 := n0_; have HO157 := n1_; have HO162 := n2_; have HB := n3_; clear n0_ n1_ n2_ n3_; (try clear hb); (try clear hb2); (try clear hk); (try clear hi)) | ((with_reducible refine gate_dst (N := 39) rfl ?_); (try (refine gate_guard (by rfl) ?_; dsimp only)); refine Kd.R_lit (Kd.int .u8) _ 5 ?hg (N := 39) ?hd (xs := ([2, 1] : List Int)) (inner := [.int .u8 2, .int .u8 1]) (ok := fun _ => True) (okp := fun _ => True) ?hr ?hp (fun _ hk => hk) trivial (Below.refl _ _) (Nat.le_refl _) (by simp) ?_; (case hd => rfl); (case hg => rfl); (case hr => first | (go_simp; done) | (go_simp; rfl)); (case hp => exact (Reps.one (show Kd.M (Kd.int .u8) _ _ _ 2 [.int .u8 2] from rfl) (Reps.one (show Kd.M (Kd.int .u8) _ _ _ 1 [.int .u8 1] from rfl) (Reps.none _ _)))); intro v165 w25 ho26 hb hg_ hnew_; clear hg_ hnew_; (first | rw [← Ny164.out] at ho26 | (simp only [Int.reduceToNat] at ho26; rw [← Ny164.out] at ho26)); have n0_ := Aside0.mk (Kd.R_below (by (with_reducible repeat (first | apply Kd.R_alloc | apply Kd.R_drewN | apply Kd.R_drew)); first | exact HO153.out | exact Kd.R_mono (HO153.out) (fun _ h_ => h_.2)) hb); have n1_ := Aside0.mk (Kd.R_elder' (by (with_reducible repeat (first | apply Kd.R_alloc | apply Kd.R_drewN | apply Kd.R_drew)); first | exact HO157.out | exact Kd.R_mono (HO157.out) (fun _ h_ => h_.2)) (Kd.R_base ho26) hb); have n2_ := Aside0.mk (Kd.R_elder' (by (with_reducible repeat (first | apply Kd.R_alloc | apply Kd.R_drewN | apply Kd.R_drew)); first | exact HO162.out | exact Kd.R_mono (HO162.out) (fun _ h_ => h_.2)) (Kd.R_base ho26) hb); have n3_ := Aside0.mk (Kd.R_lower (Kd.R_new' (Kd.R_new' ho26 (Kd.R_lt (by (with_reducible repeat (first | apply Kd.R_alloc | apply Kd.R_drewN | apply Kd.R_drew)); first | exact HO157.out | exact Kd.R_mono (HO157.out) (fun _ h_ => h_.2)))) (Kd.R_lt (by (with_reducible repeat (first | apply Kd.R_alloc | apply Kd.R_drewN | apply Kd.R_drew)); first | exact HO162.out | exact Kd.R_mono (HO162.out) (fun _ h_ => h_.2)))) (below_size (by repeat (first | (with_reducible first | exact HB.out | apply below_alloc | apply pw_below_drewN | apply below_drew1) | exact HB.out | exact ⟨HB.out.os, HB.out.tape, HB.out.output, HB.out.size, HB.out.block⟩)))); have n4_ := Aside0.mk (below_step (by repeat (first | (with_reducible first | exact HB.out | apply below_alloc | apply pw_below_drewN | apply below_drew1) | exact HB.out | exact ⟨HB.out.os, HB.out.tape, HB.out.output, HB.out.size, HB.out.block⟩)) hb); clear HO153; clear HO157; clear HO162; clear HB; have HO153 := n0_; have HO157 := n1_; have HO162 := n2_; have HO166 := n3_; have HB := n4_; clear n0_ n1_ n2_ n3_ n4_; clear hb ho26; obtain ⟨Ao27, co27, eo27⟩ := Kd.R_slice HO166.out; subst eo27) | ((fail_if_success (have h_ := w28)); go_at_call 21; (with_reducible refine (capstanlaw05_told.calls k 10 _ _ y164 true _ ?side1 ?side2 ?side3 A9.out).mono ?_); (case side1 => first | exact HG.out | ((repeat (first | exact HG.out | exact Gl.below HG.out HB.out | (with_reducible refine Gl.alloc ?_ _) | (with_reducible refine Gl.drewN ?_ _) | (with_reducible refine Gl.drew ?_))); done) | exact Gl.below HG.out (by repeat (first | (with_reducible first | exact HB.out | apply below_alloc | apply pw_below_drewN | apply below_drew1) | exact HB.out | exact ⟨HB.out.os, HB.out.tape, HB.out.output, HB.out.size, HB.out.block⟩))); (case side2 => repeat (first | exact (Kd.R_reads' HO166.out).2.2 | (with_reducible refine Kd.C_alloc ?_ _) | (with_reducible refine Kd.C_drewN ?_ _) | (with_reducible refine Kd.C_drew ?_))); (case side3 => exact (Kd.R_reads' HO166.out).2.1); rintro e w28 ⟨rfl, hb⟩; have n0_ := Aside0.mk (Kd.R_below (by (with_reducible repeat (first | apply Kd.R_alloc | apply Kd.R_drewN | apply Kd.R_drew)); first | exact HO153.out | exact Kd.R_mono (HO153.out) (fun _ h_ => h_.2)) hb); have n1_ := Aside0.mk (Kd.R_below (by (with_reducible repeat (first | apply Kd.R_alloc | apply Kd.R_drewN | apply Kd.R_drew)); first | exact HO157.out | exact Kd.R_mono (HO157.out) (fun _ h_ => h_.2)) hb); have n2_ := Aside0.mk (Kd.R_below (by (with_reducible repeat (first | apply Kd.R_alloc | apply Kd.R_drewN | apply Kd.R_drew)); first | exact HO162.out | exact Kd.R_mono (HO162.out) (fun _ h_ => h_.2)) hb); have n3_ := Aside0.mk (Kd.R_below (by (with_reducible repeat (first | apply Kd.R_alloc | apply Kd.R_drewN | apply Kd.R_drew)); first | exact HO166.out | exact Kd.R_mono (HO166.out) (fun _ h_ => h_.2)) hb); have n4_ := Aside0.mk (below_step (by repeat (first | (with_reducible first | exact HB.out | apply below_alloc | apply pw_below_drewN | apply below_drew1) | exact HB.out | exact ⟨HB.out.os, HB.out.tape, HB.out.output, HB.out.size, HB.out.block⟩)) hb); clear HO153; clear HO157; clear HO162; clear HO166; clear HB; have HO153 := n0_; have HO157 := n1_; have HO162 := n2_; have HO166 := n3_; have HB := n4_; clear n0_ n1_ n2_ n3_ n4_; (try clear hb); (try clear hb2); (try clear hk); (try clear hi)) | ((with_reducible refine gate_dst (N := 43) rfl ?_); (try (refine gate_guard (by rfl) ?_; dsimp only)); refine Kd.R_lit (Kd.int .u8) _ 5 ?hg (N := 43) ?hd (xs := ([1, 1, 32, 0] : List Int)) (inner := [.int .u8 1, .int .u8 1, .int .u8 32, .int .u8 0]) (ok := fun _ => True) (okp := fun _ => True) ?hr ?hp (fun _ hk => hk) trivial (Below.refl _ _) (Nat.le_refl _) (by simp) ?_; (case hd => rfl); (case hg => rfl); (case hr => first | (go_simp; done) | (go_simp; rfl)); (case hp => exact (Reps.one (show Kd.M (Kd.int .u8) _ _ _ 1 [.int .u8 1] from rfl) (Reps.one (show Kd.M (Kd.int .u8) _ _ _ 1 [.int .u8 1] from rfl) (Reps.one (show Kd.M (Kd.int .u8) _ _ _ 32 [.int .u8 32] from rfl) (Reps.one (show Kd.M (Kd.int .u8) _ _ _ 0 [.int .u8 0] from rfl) (Reps.none _ _)))))); intro v169 w29 ho30 hb hg_ hnew_; clear hg_ hnew_; (first | rw [← Ny168.out] at ho30 | (simp only [Int.reduceToNat] at ho30; rw [← Ny168.out] at ho30)); have n0_ := Aside0.mk (Kd.R_below (by (with_reducible repeat (first | apply Kd.R_alloc | apply Kd.R_drewN | apply Kd.R_drew)); first | exact HO153.out | exact Kd.R_mono (HO153.out) (fun _ h_ => h_.2)) hb); have n1_ := Aside0.mk (Kd.R_elder' (by (with_reducible repeat (first | apply Kd.R_alloc | apply Kd.R_drewN | apply Kd.R_drew)); first | exact HO157.out | exact Kd.R_mono (HO157.out) (fun _ h_ => h_.2)) (Kd.R_base ho30) hb); have n2_ := Aside0.mk (Kd.R_elder' (by (with_reducible repeat (first | apply Kd.R_alloc | apply Kd.R_drewN | apply Kd.R_drew)); first | exact HO162.out | exact Kd.R_mono (HO162.out) (fun _ h_ => h_.2)) (Kd.R_base ho30) hb); have n3_ := Aside0.mk (Kd.R_elder' (by (with_reducible repeat (first | apply Kd.R_alloc | apply Kd.R_drewN | apply Kd.R_drew)); first | exact HO166.out | exact Kd.R_mono (HO166.out) (fun _ h_ => h_.2)) (Kd.R_base ho30) hb); have n4_ := Aside0.mk (Kd.R_lower (Kd.R_new' (Kd.R_new' (Kd.R_new' ho30 (Kd.R_lt (by (with_reducible repeat (first | apply Kd.R_alloc | apply Kd.R_drewN | apply Kd.R_drew)); first | exact HO157.out | exact Kd.R_mono (HO157.out) (fun _ h_ => h_.2)))) (Kd.R_lt (by (with_reducible repeat (first | apply Kd.R_alloc | apply Kd.R_drewN | apply Kd.R_drew)); first | exact HO162.out | exact Kd.R_mono (HO162.out) (fun _ h_ => h_.2)))) (Kd.R_lt (by (with_reducible repeat (first | apply Kd.R_alloc | apply Kd.R_drewN | apply Kd.R_drew)); first | exact HO166.out | exact Kd.R_mono (HO166.out) (fun _ h_ => h_.2)))) (below_size (by repeat (first | (with_reducible first | exact HB.out | apply below_alloc | apply pw_below_drewN | apply below_drew1) | exact HB.out | exact ⟨HB.out.os, HB.out.tape, HB.out.output, HB.out.size, HB.out.block⟩)))); have n5_ := Aside0.mk (below_step (by repeat (first | (with_reducible first | exact HB.out | apply below_alloc | apply pw_below_drewN | apply below_drew1) | exact HB.out | exact ⟨HB.out.os, HB.out.tape, HB.out.output, HB.out.size, HB.out.block⟩)) hb); clear HO153; clear HO157; clear HO162; clear HO166; clear HB; have HO153 := n0_; have HO157 := n1_; have HO162 := n2_; have HO166 := n3_; have HO170 := n4_; have HB := n5_; clear n0_ n1_ n2_ n3_ n4_ n5_; clear hb ho30; obtain ⟨Ao31, co31, eo31⟩ := Kd.R_slice HO170.out; subst eo31) | ((fail_if_success (have h_ := w32)); go_at_call 21; (with_reducible refine (capstanlaw05_told.calls k 40 _ _ y168 true _ ?side1 ?side2 ?side3 A11.out).mono ?_); (case side1 => first | exact HG.out | ((repeat (first | exact HG.out | exact Gl.below HG.out HB.out | (with_reducible refine Gl.alloc ?_ _) | (with_reducible refine Gl.drewN ?_ _) | (with_reducible refine Gl.drew ?_))); done) | exact Gl.below HG.out (by repeat (first | (with_reducible first | exact HB.out | apply below_alloc | apply pw_below_drewN | apply below_drew1) | exact HB.out | exact ⟨HB.out.os, HB.out.tape, HB.out.output, HB.out.size, HB.out.block⟩))); (case side2 => repeat (first | exact (Kd.R_reads' HO170.out).2.2 | (with_reducible refine Kd.C_alloc ?_ _) | (with_reducible refine Kd.C_drewN ?_ _) | (with_reducible refine Kd.C_drew ?_))); (case side3 => exact (Kd.R_reads' HO170.out).2.1); rintro e w32 ⟨rfl, hb⟩; have n0_ := Aside0.mk (Kd.R_below (by (with_reducible repeat (first | apply Kd.R_alloc | apply Kd.R_drewN | apply Kd.R_drew)); first | exact HO153.out | exact Kd.R_mono (HO153.out) (fun _ h_ => h_.2)) hb); have n1_ := Aside0.mk (Kd.R_below (by (with_reducible repeat (first | apply Kd.R_alloc | apply Kd.R_drewN | apply Kd.R_drew)); first | exact HO157.out | exact Kd.R_mono (HO157.out) (fun _ h_ => h_.2)) hb); have n2_ := Aside0.mk (Kd.R_below (by (with_reducible repeat (first | apply Kd.R_alloc | apply Kd.R_drewN | apply Kd.R_drew)); first | exact HO162.out | exact Kd.R_mono (HO162.out) (fun _ h_ => h_.2)) hb); have n3_ := Aside0.mk (Kd.R_below (by (with_reducible repeat (first | apply Kd.R_alloc | apply Kd.R_drewN | apply Kd.R_drew)); first | exact HO166.out | exact Kd.R_mono (HO166.out) (fun _ h_ => h_.2)) hb); have n4_ := Aside0.mk (Kd.R_below (by (with_reducible repeat (first | apply Kd.R_alloc | apply Kd.R_drewN | apply Kd.R_drew)); first | exact HO170.out | exact Kd.R_mono (HO170.out) (fun _ h_ => h_.2)) hb); have n5_ := Aside0.mk (below_step (by repeat (first | (with_reducible first | exact HB.out | apply below_alloc | apply pw_below_drewN | apply below_drew1) | exact HB.out | exact ⟨HB.out.os, HB.out.tape, HB.out.output, HB.out.size, HB.out.block⟩)) hb); clear HO153; clear HO157; clear HO162; clear HO166; clear HO170; clear HB; have HO153 := n0_; have HO157 := n1_; have HO162 := n2_; have HO166 := n3_; have HO170 := n4_; have HB := n5_; clear n0_ n1_ n2_ n3_ n4_ n5_; (try clear hb); (try clear hb2); (try clear hk); (try clear hi)) | ((with_reducible refine gate_dst (N := 47) rfl ?_); (try (refine gate_guard (by rfl) ?_; dsimp only)); refine Kd.R_lit (Kd.int .u8) _ 5 ?hg (N := 47) ?hd (xs := ([1, 33] : List Int)) (inner := [.int .u8 1, .int .u8 33]) (ok := fun _ => True) (okp := fun _ => True) ?hr ?hp (fun _ hk => hk) trivial (Below.refl _ _) (Nat.le_refl _) (by simp) ?_; (case hd => rfl); (case hg => rfl); (case hr => first | (go_simp; done) | (go_simp; rfl)); (case hp => exact (Reps.one (show Kd.M (Kd.int .u8) _ _ _ 1 [.int .u8 1] from rfl) (Reps.one (show Kd.M (Kd.int .u8) _ _ _ 33 [.int .u8 33] from rfl) (Reps.none _ _)))); intro v173 w33 ho34 hb hg_ hnew_; clear hg_ hnew_; (first | rw [← Ny172.out] at ho34 | (simp only [Int.reduceToNat] at ho34; rw [← Ny172.out] at ho34)); have n0_ := Aside0.mk (Kd.R_below (by (with_reducible repeat (first | apply Kd.R_alloc | apply Kd.R_drewN | apply Kd.R_drew)); first | exact HO153.out | exact Kd.R_mono (HO153.out) (fun _ h_ => h_.2)) hb); have n1_ := Aside0.mk (Kd.R_elder' (by (with_reducible repeat (first | apply Kd.R_alloc | apply Kd.R_drewN | apply Kd.R_drew)); first | exact HO157.out | exact Kd.R_mono (HO157.out) (fun _ h_ => h_.2)) (Kd.R_base ho34) hb); have n2_ := Aside0.mk (Kd.R_elder' (by (with_reducible repeat (first | apply Kd.R_alloc | apply Kd.R_drewN | apply Kd.R_drew)); first | exact HO162.out | exact Kd.R_mono (HO162.out) (fun _ h_ => h_.2)) (Kd.R_base ho34) hb); have n3_ := Aside0.mk (Kd.R_elder' (by (with_reducible repeat (first | apply Kd.R_alloc | apply Kd.R_drewN | apply Kd.R_drew)); first | exact HO166.out | exact Kd.R_mono (HO166.out) (fun _ h_ => h_.2)) (Kd.R_base ho34) hb); have n4_ := Aside0.mk (Kd.R_elder' (by (with_reducible repeat (first | apply Kd.R_alloc | apply Kd.R_drewN | apply Kd.R_drew)); first | exact HO170.out | exact Kd.R_mono (HO170.out) (fun _ h_ => h_.2)) (Kd.R_base ho34) hb); have n5_ := Aside0.mk (Kd.R_lower (Kd.R_new' (Kd.R_new' (Kd.R_new' (Kd.R_new' ho34 (Kd.R_lt (by (with_reducible repeat (first | apply Kd.R_alloc | apply Kd.R_drewN | apply Kd.R_drew)); first | exact HO157.out | exact Kd.R_mono (HO157.out) (fun _ h_ => h_.2)))) (Kd.R_lt (by (with_reducible repeat (first | apply Kd.R_alloc | apply Kd.R_drewN | apply Kd.R_drew)); first | exact HO162.out | exact Kd.R_mono (HO162.out) (fun _ h_ => h_.2)))) (Kd.R_lt (by (with_reducible repeat (first | apply Kd.R_alloc | apply Kd.R_drewN | apply Kd.R_drew)); first | exact HO166.out | exact Kd.R_mono (HO166.out) (fun _ h_ => h_.2)))) (Kd.R_lt (by (with_reducible repeat (first | apply Kd.R_alloc | apply Kd.R_drewN | apply Kd.R_drew)); first | exact HO170.out | exact Kd.R_mono (HO170.out) (fun _ h_ => h_.2)))) (below_size (by repeat (first | (with_reducible first | exact HB.out | apply below_alloc | apply pw_below_drewN | apply below_drew1) | exact HB.out | exact ⟨HB.out.os, HB.out.tape, HB.out.output, HB.out.size, HB.out.block⟩)))); have n6_ := Aside0.mk (below_step (by repeat (first | (with_reducible first | exact HB.out | apply below_alloc | apply pw_below_drewN | apply below_drew1) | exact HB.out | exact ⟨HB.out.os, HB.out.tape, HB.out.output, HB.out.size, HB.out.block⟩)) hb); clear HO153; clear HO157; clear HO162; clear HO166; clear HO170; clear HB; have HO153 := n0_; have HO157 := n1_; have HO162 := n2_; have HO166 := n3_; have HO170 := n4_; have HO174 := n5_; have HB := n6_; clear n0_ n1_ n2_ n3_ n4_ n5_ n6_; clear hb ho34; obtain ⟨Ao35, co35, eo35⟩ := Kd.R_slice HO174.out; subst eo35) | ((fail_if_success (have h_ := w36)); go_at_call 21; (with_reducible refine (capstanlaw05_told.calls k 40 _ _ y172 t175 _ ?side1 ?side2 ?side3 A13.out).mono ?_); (case side1 => first | exact HG.out | ((repeat (first | exact HG.out | exact Gl.below HG.out HB.out | (with_reducible refine Gl.alloc ?_ _) | (with_reducible refine Gl.drewN ?_ _) | (with_reducible refine Gl.drew ?_))); done) | exact Gl.below HG.out (by repeat (first | (with_reducible first | exact HB.out | apply below_alloc | apply pw_below_drewN | apply below_drew1) | exact HB.out | exact ⟨HB.out.os, HB.out.tape, HB.out.output, HB.out.size, HB.out.block⟩))); (case side2 => repeat (first | exact (Kd.R_reads' HO174.out).2.2 | (with_reducible refine Kd.C_alloc ?_ _) | (with_reducible refine Kd.C_drewN ?_ _) | (with_reducible refine Kd.C_drew ?_))); (case side3 => exact (Kd.R_reads' HO174.out).2.1); rintro e w36 ⟨rfl, hb⟩; have n0_ := Aside0.mk (Kd.R_below (by (with_reducible repeat (first | apply Kd.R_alloc | apply Kd.R_drewN | apply Kd.R_drew)); first | exact HO153.out | exact Kd.R_mono (HO153.out) (fun _ h_ => h_.2)) hb); have n1_ := Aside0.mk (Kd.R_below (by (with_reducible repeat (first | apply Kd.R_alloc | apply Kd.R_drewN | apply Kd.R_drew)); first | exact HO157.out | exact Kd.R_mono (HO157.out) (fun _ h_ => h_.2)) hb); have n2_ := Aside0.mk (Kd.R_below (by (with_reducible repeat (first | apply Kd.R_alloc | apply Kd.R_drewN | apply Kd.R_drew)); first | exact HO162.out | exact Kd.R_mono (HO162.out) (fun _ h_ => h_.2)) hb); have n3_ := Aside0.mk (Kd.R_below (by (with_reducible repeat (first | apply Kd.R_alloc | apply Kd.R_drewN | apply Kd.R_drew)); first | exact HO166.out | exact Kd.R_mono (HO166.out) (fun _ h_ => h_.2)) hb); have n4_ := Aside0.mk (Kd.R_below (by (with_reducible repeat (first | apply Kd.R_alloc | apply Kd.R_drewN | apply Kd.R_drew)); first | exact HO170.out | exact Kd.R_mono (HO170.out) (fun _ h_ => h_.2)) hb); have n5_ := Aside0.mk (Kd.R_below (by (with_reducible repeat (first | apply Kd.R_alloc | apply Kd.R_drewN | apply Kd.R_drew)); first | exact HO174.out | exact Kd.R_mono (HO174.out) (fun _ h_ => h_.2)) hb); have n6_ := Aside0.mk (below_step (by repeat (first | (with_reducible first | exact HB.out | apply below_alloc | apply pw_below_drewN | apply below_drew1) | exact HB.out | exact ⟨HB.out.os, HB.out.tape, HB.out.output, HB.out.size, HB.out.block⟩)) hb); clear HO153; clear HO157; clear HO162; clear HO166; clear HO170; clear HO174; clear HB; have HO153 := n0_; have HO157 := n1_; have HO162 := n2_; have HO166 := n3_; have HO170 := n4_; have HO174 := n5_; have HB := n6_; clear n0_ n1_ n2_ n3_ n4_ n5_ n6_; (try clear hb); (try clear hb2); (try clear hk); (try clear hi)))
        go_ret
        exact ⟨by first | rfl | (simp [errW_none, errW_some] <;> rfl) | (simp [*, errW_none, errW_some] <;> rfl), by repeat (first | (with_reducible first | exact HB.out | apply below_alloc | apply pw_below_drewN | apply below_drew1) | exact HB.out | exact ⟨HB.out.os, HB.out.tape, HB.out.output, HB.out.size, HB.out.block⟩)⟩
       ·
        replace c12 := Bool.eq_false_iff.mpr c12
        subst c12
        have H1 : (none) = some r := by rw [if_neg (show ¬ (false = true) by decide)] at H; exact H
        clear H
        have H := H1
        clear H1
        exact absurd H (by simp)
      ·
       replace c10 := Bool.eq_false_iff.mpr c10
       subst c10
       have H1 : (none) = some r := by rw [if_neg (show ¬ (false = true) by decide)] at H; exact H
       clear H
       have H := H1
       clear H1
       exact absurd H (by simp)
     ·
      replace c8 := Bool.eq_false_iff.mpr c8
      subst c8
      have H1 : (none) = some r := by rw [if_neg (show ¬ (false = true) by decide)] at H; exact H
      clear H
      have H := H1
      clear H1
      exact absurd H (by simp)
    ·
     rw [if_neg c6] at H
     exact absurd H (by simp)
   ·
    rw [if_neg c5] at H
    exact absurd H (by simp)
  ·
   rw [if_neg c4] at H
   exact absurd H (by simp)
 ·
  rw [if_neg c3] at H
  exact absurd H (by simp)

end Go.Proofs.YtdfjjooejfgglaaDoor.R
