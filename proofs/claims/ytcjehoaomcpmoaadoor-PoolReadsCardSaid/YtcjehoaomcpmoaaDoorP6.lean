/- Contracts of the functions of this seat (each: the call of the function does what the plain Lean function of the same name tells; the conditions stand in each statement). Written by a program of this session and by hand; checked by Lean. -/
import Derived.Test.YtcjehoaomcpmoaaDoorP0
import Derived.Test.YtcjehoaomcpmoaaDoorP1
import Derived.Test.YtcjehoaomcpmoaaDoorP5
namespace Go.Proofs.YtcjehoaomcpmoaaDoor.P
open Go.RowKit Go.Proofs.YtcjehoaomcpmoaaDoorW.PrintWords Go.Proofs.YtcjehoaomcpmoaaDoorW.PrintLast Go.Proofs.YtcjehoaomcpmoaaDoorW.PrintMore
attribute [local go_sem] max2_int min2_int max_two min_two max_three min_three max_four min_four   -- for this text's walks alone
set_option linter.unusedVariables false
set_option linter.unusedSimpArgs false

attribute [local go_sem high] eqA38
/-! ### value_Bytes: function 20 -/
def value_Bytes.f (k : Nat) (a0_0 : Int) (a0_1 : Int) (a0_2 : Int) : Option (List Int × Int) :=
  (value_May.f a0_0 a0_1 a0_2).bind fun m => if m = true then
    (if a0_0 = 1 then (octet_Signed.f k a0_1).bind fun s => (if 1 + s.length < 140737488355328 then some ([a0_0] ++ s, 0) else none)
     else (octet_Put.f k 3 (wrap64 (a0_1 + 1048576))).bind fun p => if p.2 = 0 then (if 1 + p.1.length < 140737488355328 then (octet_Put.f k 3 (wrap64 (a0_2 + 1048576))).bind fun q => if q.2 = 0 then (if 1 + p.1.length + q.1.length < 140737488355328 then some ([a0_0] ++ p.1 ++ q.1, 0) else none) else some ([], 30) else none) else some ([], 30))
    else some ([], 30)
theorem value_Bytes.mono : ∀ a0 a1 a2 k, LeO (value_Bytes.f k a0 a1 a2) (value_Bytes.f (k + 1) a0 a1 a2) := by
  intro a0 a1 a2 k
  unfold value_Bytes.f
  refine LeO.bind (LeO.refl _) fun m => LeO.ite (LeO.ite (LeO.bind (octet_Signed.mono _ _) fun s => LeO.refl _) (LeO.bind (octet_Put.mono _ _ _) fun p => LeO.ite (LeO.ite (LeO.bind (octet_Put.mono _ _ _) fun q => LeO.refl _) (LeO.refl _)) (LeO.refl _))) (LeO.refl _)
set_option maxHeartbeats 8000000 in
set_option maxRecDepth 100000 in
theorem value_Bytes.calls (k : Nat) (a0_0 : Int) (a0_1 : Int) (a0_2 : Int) (r1 : List Int) (r2 : Int) (w : World) (h : value_Bytes.f k a0_0 a0_1 a0_2 = some (r1, r2)) :
    Calls Tryd.prog 20 #[.agg #[.int .u8 a0_0, .int .i64 a0_1, .int .i64 a0_2]] w fun e w' => ∃ v0_ : Value, e = .returned (.tuple #[v0_, .int .i64 r2]) ∧ Kd.R (Kd.int .u8) 5 w' w.heap.size (fun _ => True) v0_ r1 ∧ Below w.heap.size w w' := by
  simp only [value_Bytes.f] at h
  obtain ⟨m, hm, h⟩ := Option.bind_eq_some_iff.mp h
  have HM := Aside0.mk hm
  clear hm
  have HB := Aside0.mk (Below.refl w.heap.size w)
  cases m with
  | false =>
    simp only [Bool.false_eq_true, if_false, Option.some.injEq, Prod.mk.injEq] at h
    obtain ⟨rfl, rfl⟩ := h
    go_enter Tryd.func20, Tryd.ntmps20
    go_wp2_with (go_at_call 23; (with_reducible refine (value_May.calls a0_0 a0_1 a0_2 _ _ HM.out).mono ?_); rintro e w1 ⟨rfl, hb⟩; have GA := Aside0.mk (blk_below (blk_new w (Obj.cells #[Value.int IntKind.u8 a0_0, Value.int IntKind.i64 a0_1, Value.int IntKind.i64 a0_2] 38)) hb); have a0 := (blk_cell GA.out 0 : World.cell? _ ⟨_, 0, none⟩ = some (Value.int .u8 a0_0)); have a1 := (blk_cell GA.out 1 : World.cell? _ ⟨_, 1, none⟩ = some (Value.int .i64 a0_1)); have a2 := (blk_cell GA.out 2 : World.cell? _ ⟨_, 2, none⟩ = some (Value.int .i64 a0_2)); have n0_ := Aside0.mk (below_step (by repeat (first | (with_reducible first | exact HB.out | apply below_alloc | apply pw_below_drewN | apply below_drew1) | exact HB.out)) hb); clear HB; have HB := n0_; clear n0_ hb)
    go_ret2
    exact ⟨_, rfl, Kd.R_nil _ _ _ _ _, HB.out⟩
  | true =>
    simp only [if_true] at h
    by_cases c1 : a0_0 = 1
    · subst c1
      simp only [if_true] at h
      obtain ⟨s, hs, h⟩ := Option.bind_eq_some_iff.mp h
      have HS := Aside0.mk hs
      clear hs
      by_cases c5 : 1 + s.length < 140737488355328
      case neg => simp [c5] at h
      rw [if_pos c5] at h
      simp only [Option.some.injEq, Prod.mk.injEq] at h
      obtain ⟨rfl, rfl⟩ := h
      go_enter Tryd.func20, Tryd.ntmps20
      go_wp2_with (first | (go_at_call 23; (with_reducible refine (value_May.calls 1 a0_1 a0_2 _ _ HM.out).mono ?_); rintro e w1 ⟨rfl, hb⟩; have GA := Aside0.mk (blk_below (blk_new w (Obj.cells #[Value.int IntKind.u8 1, Value.int IntKind.i64 a0_1, Value.int IntKind.i64 a0_2] 38)) hb); have a0 := (blk_cell GA.out 0 : World.cell? _ ⟨_, 0, none⟩ = some (Value.int .u8 1)); have a1 := (blk_cell GA.out 1 : World.cell? _ ⟨_, 1, none⟩ = some (Value.int .i64 a0_1)); have a2 := (blk_cell GA.out 2 : World.cell? _ ⟨_, 2, none⟩ = some (Value.int .i64 a0_2)); have n0_ := Aside0.mk (below_step (by repeat (first | (with_reducible first | exact HB.out | apply below_alloc | apply pw_below_drewN | apply below_drew1) | exact HB.out)) hb); clear HB; have HB := n0_; clear n0_ hb) | ((with_reducible refine gate_dst (N := 14) rfl ?_); refine Kd.R_lit (Kd.int .u8) _ 5 ?hg (N := 14) ?hd (xs := [1]) (inner := [.int .u8 1]) (ok := fun _ => True) (okp := fun _ => True) ?hr ?hp (fun _ hk => hk) trivial (Below.refl _ _) (Nat.le_refl _) (by simp) ?_; (case hd => rfl); (case hg => rfl); (case hr => first | (go_simp; done) | (go_simp; rfl)); (case hp => exact (Reps.one (show Kd.M (Kd.int .u8) _ _ _ 1 [.int .u8 1] from rfl) (Reps.none _ _))); intro vl w2 ho hb hg_ hnew_; clear hg_ hnew_; have n0_ := Aside0.mk (Kd.R_lower ho (below_size (by repeat (first | (with_reducible first | exact HB.out | apply below_alloc | apply pw_below_drewN | apply below_drew1) | exact HB.out)))); have n1_ := Aside0.mk (below_step (by repeat (first | (with_reducible first | exact HB.out | apply below_alloc | apply pw_below_drewN | apply below_drew1) | exact HB.out)) hb); clear HB; have HO := n0_; have HB := n1_; have gn_ := Aside0.mk (blk_below GA.out hb); clear GA; have GA := gn_; clear gn_; (try clear a0 a1 a2); have a0 := (blk_cell GA.out 0 : World.cell? _ ⟨_, 0, none⟩ = some (Value.int .u8 1)); have a1 := (blk_cell GA.out 1 : World.cell? _ ⟨_, 1, none⟩ = some (Value.int .i64 a0_1)); have a2 := (blk_cell GA.out 2 : World.cell? _ ⟨_, 2, none⟩ = some (Value.int .i64 a0_2)); clear n0_ n1_ hb ho) | (go_at_call 34; (with_reducible refine (octet_Signed.calls k _ s _ HS.out).mono ?_); rintro e w3 ⟨vp, rfl, ho, hb⟩; have m0_ := Aside0.mk (Kd.R_below HO.out hb); have n0_ := Aside0.mk (Kd.R_lower ho (below_size (by repeat (first | (with_reducible first | exact HB.out | apply below_alloc | apply pw_below_drewN | apply below_drew1) | exact HB.out)))); have n1_ := Aside0.mk (below_step (by repeat (first | (with_reducible first | exact HB.out | apply below_alloc | apply pw_below_drewN | apply below_drew1) | exact HB.out)) hb); clear HO HB; have HO := m0_; have HOP := n0_; have HB := n1_; have gn_ := Aside0.mk (blk_below GA.out hb); clear GA; have GA := gn_; clear gn_; (try clear a0 a1 a2); have a0 := (blk_cell GA.out 0 : World.cell? _ ⟨_, 0, none⟩ = some (Value.int .u8 1)); have a1 := (blk_cell GA.out 1 : World.cell? _ ⟨_, 1, none⟩ = some (Value.int .i64 a0_1)); have a2 := (blk_cell GA.out 2 : World.cell? _ ⟨_, 2, none⟩ = some (Value.int .i64 a0_2)); clear m0_ n0_ n1_ hb ho) | ((with_reducible refine gate_builtin (b := .append) (xs := #[.tmp 18, .tmp 21]) rfl ?_); at_builtin; obtain ⟨Ay_, cy_, hy_, _, hC_⟩ := Kd.R_reads HOP.out; refine Kd.R_append_rows (Kd.int .u8) (w0 := w) w.heap.size rfl (.tmp 18) (.tmp 21) 22 5 (.int .u8 0) 1 rfl Tryd.underlying22 info5 rfl (by decide) (by omega) vl [1] s Ay_ _ cy_ (fun _ => True) (fun _ => False) rfl ?aX ?aO hC_ (fun _ _ h => h) (fun _ h => h.elim) ?aF ?aB ?aS ?aL ?_; (case aX => exact hy_); (case aB => exact (by repeat (first | (with_reducible first | exact HB.out | apply below_alloc | apply pw_below_drewN | apply below_drew1) | exact HB.out))); (case aF => exact (fun _ _ => trivial)); (case aO => exact HO.out); (case aS => exact (below_size (by repeat (first | (with_reducible first | exact HB.out | apply below_alloc | apply pw_below_drewN | apply below_drew1) | exact HB.out)))); (case aL => simp only [List.length_singleton]; omega); intro vl w4 ho hb hg hat; have n0_ := Aside0.mk hb; have n1_ := Aside0.mk ho; have gn_ := Aside0.mk (blk_grown GA.out hg (Kd.R_ne HO.out GA.out (by decide))); clear GA HB HO; have GA := gn_; have HB := n0_; have HO := n1_; clear gn_ n0_ n1_ ho hb hat hg; (try clear a0 a1 a2); have a0 := (blk_cell GA.out 0 : World.cell? _ ⟨_, 0, none⟩ = some (Value.int .u8 1)); have a1 := (blk_cell GA.out 1 : World.cell? _ ⟨_, 1, none⟩ = some (Value.int .i64 a0_1)); have a2 := (blk_cell GA.out 2 : World.cell? _ ⟨_, 2, none⟩ = some (Value.int .i64 a0_2))))
      go_ret2
      exact ⟨_, rfl, HO.out, HB.out⟩
    · rw [if_neg c1] at h
      have c2 : (a0_0 == 1) = false := by rw [beq_eq_false_iff_ne]; exact c1
      obtain ⟨⟨p1, p2⟩, hp, h⟩ := Option.bind_eq_some_iff.mp h
      have HP := Aside0.mk hp
      clear hp
      have i0 : ∀ (x0 x1 : Value) (w : World), (Instr.index 65 (.agg #[x0, x1]) (.int .i64 0)).run Tryd.prog w = .ok x0 w := fun _ _ _ => by kernel_rfl
      have i1 : ∀ (x0 x1 : Value) (w : World), (Instr.index 65 (.agg #[x0, x1]) (.int .i64 1)).run Tryd.prog w = .ok x1 w := fun _ _ _ => by kernel_rfl
      by_cases c3 : p2 = 0
      · subst c3
        simp only [if_true] at h
        by_cases c5 : 1 + p1.length < 140737488355328
        case neg => simp [c5] at h
        rw [if_pos c5] at h
        obtain ⟨⟨q1, q2⟩, hq, h⟩ := Option.bind_eq_some_iff.mp h
        have HQ := Aside0.mk hq
        clear hq
        by_cases c6 : q2 = 0
        · subst c6
          simp only [if_true] at h
          by_cases c7 : 1 + p1.length + q1.length < 140737488355328
          case neg => simp [c7] at h
          rw [if_pos c7] at h
          simp only [Option.some.injEq, Prod.mk.injEq] at h
          obtain ⟨rfl, rfl⟩ := h
          go_enter Tryd.func20, Tryd.ntmps20
          go_wp2_with (first | (go_at_call 23; (with_reducible refine (value_May.calls a0_0 a0_1 a0_2 _ _ HM.out).mono ?_); rintro e w1 ⟨rfl, hb⟩; have GA := Aside0.mk (blk_below (blk_new w (Obj.cells #[Value.int IntKind.u8 a0_0, Value.int IntKind.i64 a0_1, Value.int IntKind.i64 a0_2] 38)) hb); have a0 := (blk_cell GA.out 0 : World.cell? _ ⟨_, 0, none⟩ = some (Value.int .u8 a0_0)); have a1 := (blk_cell GA.out 1 : World.cell? _ ⟨_, 1, none⟩ = some (Value.int .i64 a0_1)); have a2 := (blk_cell GA.out 2 : World.cell? _ ⟨_, 2, none⟩ = some (Value.int .i64 a0_2)); have n0_ := Aside0.mk (below_step (by repeat (first | (with_reducible first | exact HB.out | apply below_alloc | apply pw_below_drewN | apply below_drew1) | exact HB.out)) hb); clear HB; have HB := n0_; clear n0_ hb) | ((with_reducible refine gate_dst (N := 14) rfl ?_); refine Kd.R_lit (Kd.int .u8) _ 5 ?hg (N := 14) ?hd (xs := [a0_0]) (inner := [.int .u8 a0_0]) (ok := fun _ => True) (okp := fun _ => True) ?hr ?hp (fun _ hk => hk) trivial (Below.refl _ _) (Nat.le_refl _) (by simp) ?_; (case hd => rfl); (case hg => rfl); (case hr => first | (go_simp; done) | (go_simp; rfl)); (case hp => exact (Reps.one (show Kd.M (Kd.int .u8) _ _ _ a0_0 [.int .u8 a0_0] from rfl) (Reps.none _ _))); intro vl w2 ho hb hg_ hnew_; clear hg_ hnew_; have n0_ := Aside0.mk (Kd.R_lower ho (below_size (by repeat (first | (with_reducible first | exact HB.out | apply below_alloc | apply pw_below_drewN | apply below_drew1) | exact HB.out)))); have n1_ := Aside0.mk (below_step (by repeat (first | (with_reducible first | exact HB.out | apply below_alloc | apply pw_below_drewN | apply below_drew1) | exact HB.out)) hb); clear HB; have HO := n0_; have HB := n1_; have gn_ := Aside0.mk (blk_below GA.out hb); clear GA; have GA := gn_; clear gn_; (try clear a0 a1 a2); have a0 := (blk_cell GA.out 0 : World.cell? _ ⟨_, 0, none⟩ = some (Value.int .u8 a0_0)); have a1 := (blk_cell GA.out 1 : World.cell? _ ⟨_, 1, none⟩ = some (Value.int .i64 a0_1)); have a2 := (blk_cell GA.out 2 : World.cell? _ ⟨_, 2, none⟩ = some (Value.int .i64 a0_2)); clear n0_ n1_ hb ho))
          refine wp_loop_rounds 3 ?_
          rw [rounds_succ]
          go_wp2_with (first | (go_at_call 35; (with_reducible refine (octet_Put.calls k 3 _ p1 0 _ HP.out).mono ?_); rintro e w3 ⟨vp, rfl, ho, hb⟩; have m0_ := Aside0.mk (Kd.R_below HO.out hb); have n0_ := Aside0.mk (Kd.R_lower ho (below_size (by repeat (first | (with_reducible first | exact HB.out | apply below_alloc | apply pw_below_drewN | apply below_drew1) | exact HB.out)))); have n1_ := Aside0.mk (below_step (by repeat (first | (with_reducible first | exact HB.out | apply below_alloc | apply pw_below_drewN | apply below_drew1) | exact HB.out)) hb); clear HO HB; have HO := m0_; have HOP := n0_; have HB := n1_; have gn_ := Aside0.mk (blk_below GA.out hb); clear GA; have GA := gn_; clear gn_; (try clear a0 a1 a2); have a0 := (blk_cell GA.out 0 : World.cell? _ ⟨_, 0, none⟩ = some (Value.int .u8 a0_0)); have a1 := (blk_cell GA.out 1 : World.cell? _ ⟨_, 1, none⟩ = some (Value.int .i64 a0_1)); have a2 := (blk_cell GA.out 2 : World.cell? _ ⟨_, 2, none⟩ = some (Value.int .i64 a0_2)); clear m0_ n0_ n1_ hb ho) | ((with_reducible refine gate_builtin (b := .append) (xs := #[.tmp 39, .tmp 40]) rfl ?_); at_builtin; obtain ⟨Ay_, cy_, hy_, _, hC_⟩ := Kd.R_reads HOP.out; refine Kd.R_append_rows (Kd.int .u8) (w0 := w) w.heap.size rfl (.tmp 39) (.tmp 40) 22 5 (.int .u8 0) 1 rfl Tryd.underlying22 info5 rfl (by decide) (by omega) vl [a0_0] p1 Ay_ _ cy_ (fun _ => True) (fun _ => False) rfl ?aX ?aO hC_ (fun _ _ h => h) (fun _ h => h.elim) ?aF ?aB ?aS ?aL ?_; (case aX => exact hy_); (case aB => exact (by repeat (first | (with_reducible first | exact HB.out | apply below_alloc | apply pw_below_drewN | apply below_drew1) | exact HB.out))); (case aF => exact (fun _ _ => trivial)); (case aO => exact HO.out); (case aS => exact (below_size (by repeat (first | (with_reducible first | exact HB.out | apply below_alloc | apply pw_below_drewN | apply below_drew1) | exact HB.out)))); (case aL => simp only [List.length_singleton]; omega); intro vl w4 ho hb hg hat; have n0_ := Aside0.mk hb; have n1_ := Aside0.mk ho; have gn_ := Aside0.mk (blk_grown GA.out hg (Kd.R_ne HO.out GA.out (by decide))); clear GA HB HO; have GA := gn_; have HB := n0_; have HO := n1_; clear gn_ n0_ n1_ ho hb hat hg; (try clear a0 a1 a2); have a0 := (blk_cell GA.out 0 : World.cell? _ ⟨_, 0, none⟩ = some (Value.int .u8 a0_0)); have a1 := (blk_cell GA.out 1 : World.cell? _ ⟨_, 1, none⟩ = some (Value.int .i64 a0_1)); have a2 := (blk_cell GA.out 2 : World.cell? _ ⟨_, 2, none⟩ = some (Value.int .i64 a0_2))))
          rw [rounds_succ]
          go_wp2_with (first | (go_at_call 35; (with_reducible refine (octet_Put.calls k 3 _ q1 0 _ HQ.out).mono ?_); rintro e w3 ⟨vp, rfl, ho, hb⟩; have m0_ := Aside0.mk (Kd.R_below HO.out hb); have n0_ := Aside0.mk (Kd.R_lower ho (below_size (by repeat (first | (with_reducible first | exact HB.out | apply below_alloc | apply pw_below_drewN | apply below_drew1) | exact HB.out)))); have n1_ := Aside0.mk (below_step (by repeat (first | (with_reducible first | exact HB.out | apply below_alloc | apply pw_below_drewN | apply below_drew1) | exact HB.out)) hb); clear HO HB; have HO := m0_; have HOP := n0_; have HB := n1_; have gn_ := Aside0.mk (blk_below GA.out hb); clear GA; have GA := gn_; clear gn_; (try clear a0 a1 a2); have a0 := (blk_cell GA.out 0 : World.cell? _ ⟨_, 0, none⟩ = some (Value.int .u8 a0_0)); have a1 := (blk_cell GA.out 1 : World.cell? _ ⟨_, 1, none⟩ = some (Value.int .i64 a0_1)); have a2 := (blk_cell GA.out 2 : World.cell? _ ⟨_, 2, none⟩ = some (Value.int .i64 a0_2)); clear m0_ n0_ n1_ hb ho) | ((with_reducible refine gate_builtin (b := .append) (xs := #[.tmp 39, .tmp 40]) rfl ?_); at_builtin; obtain ⟨Ay_, cy_, hy_, _, hC_⟩ := Kd.R_reads HOP.out; refine Kd.R_append_rows (Kd.int .u8) (w0 := w) w.heap.size rfl (.tmp 39) (.tmp 40) 22 5 (.int .u8 0) 1 rfl Tryd.underlying22 info5 rfl (by decide) (by omega) vl ([a0_0] ++ p1) q1 Ay_ _ cy_ (fun _ => True) (fun _ => False) rfl ?aX ?aO hC_ (fun _ _ h => h) (fun _ h => h.elim) ?aF ?aB ?aS ?aL ?_; (case aX => exact hy_); (case aB => exact (by repeat (first | (with_reducible first | exact HB.out | apply below_alloc | apply pw_below_drewN | apply below_drew1) | exact HB.out))); (case aF => exact (fun _ _ => trivial)); (case aO => exact HO.out); (case aS => exact (below_size (by repeat (first | (with_reducible first | exact HB.out | apply below_alloc | apply pw_below_drewN | apply below_drew1) | exact HB.out)))); (case aL => simp only [List.length_append, List.length_singleton]; omega); intro vl w4 ho hb hg hat; have n0_ := Aside0.mk hb; have n1_ := Aside0.mk ho; have gn_ := Aside0.mk (blk_grown GA.out hg (Kd.R_ne HO.out GA.out (by decide))); clear GA HB HO; have GA := gn_; have HB := n0_; have HO := n1_; clear gn_ n0_ n1_ ho hb hat hg; (try clear a0 a1 a2); have a0 := (blk_cell GA.out 0 : World.cell? _ ⟨_, 0, none⟩ = some (Value.int .u8 a0_0)); have a1 := (blk_cell GA.out 1 : World.cell? _ ⟨_, 1, none⟩ = some (Value.int .i64 a0_1)); have a2 := (blk_cell GA.out 2 : World.cell? _ ⟨_, 2, none⟩ = some (Value.int .i64 a0_2))))
          rw [rounds_succ]
          go_wp2
          go_ret2
          exact ⟨_, rfl, HO.out, HB.out⟩
        · rw [if_neg c6] at h
          simp only [Option.some.injEq, Prod.mk.injEq] at h
          obtain ⟨rfl, rfl⟩ := h
          have c7 : (q2 != 0) = true := by rw [bne_iff_ne]; exact c6
          go_enter Tryd.func20, Tryd.ntmps20
          go_wp2_with (first | (go_at_call 23; (with_reducible refine (value_May.calls a0_0 a0_1 a0_2 _ _ HM.out).mono ?_); rintro e w1 ⟨rfl, hb⟩; have GA := Aside0.mk (blk_below (blk_new w (Obj.cells #[Value.int IntKind.u8 a0_0, Value.int IntKind.i64 a0_1, Value.int IntKind.i64 a0_2] 38)) hb); have a0 := (blk_cell GA.out 0 : World.cell? _ ⟨_, 0, none⟩ = some (Value.int .u8 a0_0)); have a1 := (blk_cell GA.out 1 : World.cell? _ ⟨_, 1, none⟩ = some (Value.int .i64 a0_1)); have a2 := (blk_cell GA.out 2 : World.cell? _ ⟨_, 2, none⟩ = some (Value.int .i64 a0_2)); have n0_ := Aside0.mk (below_step (by repeat (first | (with_reducible first | exact HB.out | apply below_alloc | apply pw_below_drewN | apply below_drew1) | exact HB.out)) hb); clear HB; have HB := n0_; clear n0_ hb) | ((with_reducible refine gate_dst (N := 14) rfl ?_); refine Kd.R_lit (Kd.int .u8) _ 5 ?hg (N := 14) ?hd (xs := [a0_0]) (inner := [.int .u8 a0_0]) (ok := fun _ => True) (okp := fun _ => True) ?hr ?hp (fun _ hk => hk) trivial (Below.refl _ _) (Nat.le_refl _) (by simp) ?_; (case hd => rfl); (case hg => rfl); (case hr => first | (go_simp; done) | (go_simp; rfl)); (case hp => exact (Reps.one (show Kd.M (Kd.int .u8) _ _ _ a0_0 [.int .u8 a0_0] from rfl) (Reps.none _ _))); intro vl w2 ho hb hg_ hnew_; clear hg_ hnew_; have n0_ := Aside0.mk (Kd.R_lower ho (below_size (by repeat (first | (with_reducible first | exact HB.out | apply below_alloc | apply pw_below_drewN | apply below_drew1) | exact HB.out)))); have n1_ := Aside0.mk (below_step (by repeat (first | (with_reducible first | exact HB.out | apply below_alloc | apply pw_below_drewN | apply below_drew1) | exact HB.out)) hb); clear HB; have HO := n0_; have HB := n1_; have gn_ := Aside0.mk (blk_below GA.out hb); clear GA; have GA := gn_; clear gn_; (try clear a0 a1 a2); have a0 := (blk_cell GA.out 0 : World.cell? _ ⟨_, 0, none⟩ = some (Value.int .u8 a0_0)); have a1 := (blk_cell GA.out 1 : World.cell? _ ⟨_, 1, none⟩ = some (Value.int .i64 a0_1)); have a2 := (blk_cell GA.out 2 : World.cell? _ ⟨_, 2, none⟩ = some (Value.int .i64 a0_2)); clear n0_ n1_ hb ho))
          refine wp_loop_rounds 3 ?_
          rw [rounds_succ]
          go_wp2_with (first | (go_at_call 35; (with_reducible refine (octet_Put.calls k 3 _ p1 0 _ HP.out).mono ?_); rintro e w3 ⟨vp, rfl, ho, hb⟩; have m0_ := Aside0.mk (Kd.R_below HO.out hb); have n0_ := Aside0.mk (Kd.R_lower ho (below_size (by repeat (first | (with_reducible first | exact HB.out | apply below_alloc | apply pw_below_drewN | apply below_drew1) | exact HB.out)))); have n1_ := Aside0.mk (below_step (by repeat (first | (with_reducible first | exact HB.out | apply below_alloc | apply pw_below_drewN | apply below_drew1) | exact HB.out)) hb); clear HO HB; have HO := m0_; have HOP := n0_; have HB := n1_; have gn_ := Aside0.mk (blk_below GA.out hb); clear GA; have GA := gn_; clear gn_; (try clear a0 a1 a2); have a0 := (blk_cell GA.out 0 : World.cell? _ ⟨_, 0, none⟩ = some (Value.int .u8 a0_0)); have a1 := (blk_cell GA.out 1 : World.cell? _ ⟨_, 1, none⟩ = some (Value.int .i64 a0_1)); have a2 := (blk_cell GA.out 2 : World.cell? _ ⟨_, 2, none⟩ = some (Value.int .i64 a0_2)); clear m0_ n0_ n1_ hb ho) | ((with_reducible refine gate_builtin (b := .append) (xs := #[.tmp 39, .tmp 40]) rfl ?_); at_builtin; obtain ⟨Ay_, cy_, hy_, _, hC_⟩ := Kd.R_reads HOP.out; refine Kd.R_append_rows (Kd.int .u8) (w0 := w) w.heap.size rfl (.tmp 39) (.tmp 40) 22 5 (.int .u8 0) 1 rfl Tryd.underlying22 info5 rfl (by decide) (by omega) vl [a0_0] p1 Ay_ _ cy_ (fun _ => True) (fun _ => False) rfl ?aX ?aO hC_ (fun _ _ h => h) (fun _ h => h.elim) ?aF ?aB ?aS ?aL ?_; (case aX => exact hy_); (case aB => exact (by repeat (first | (with_reducible first | exact HB.out | apply below_alloc | apply pw_below_drewN | apply below_drew1) | exact HB.out))); (case aF => exact (fun _ _ => trivial)); (case aO => exact HO.out); (case aS => exact (below_size (by repeat (first | (with_reducible first | exact HB.out | apply below_alloc | apply pw_below_drewN | apply below_drew1) | exact HB.out)))); (case aL => simp only [List.length_singleton]; omega); intro vl w4 ho hb hg hat; have n0_ := Aside0.mk hb; have n1_ := Aside0.mk ho; have gn_ := Aside0.mk (blk_grown GA.out hg (Kd.R_ne HO.out GA.out (by decide))); clear GA HB HO; have GA := gn_; have HB := n0_; have HO := n1_; clear gn_ n0_ n1_ ho hb hat hg; (try clear a0 a1 a2); have a0 := (blk_cell GA.out 0 : World.cell? _ ⟨_, 0, none⟩ = some (Value.int .u8 a0_0)); have a1 := (blk_cell GA.out 1 : World.cell? _ ⟨_, 1, none⟩ = some (Value.int .i64 a0_1)); have a2 := (blk_cell GA.out 2 : World.cell? _ ⟨_, 2, none⟩ = some (Value.int .i64 a0_2))))
          rw [rounds_succ]
          go_wp2_with (first | (go_at_call 35; (with_reducible refine (octet_Put.calls k 3 _ q1 q2 _ HQ.out).mono ?_); rintro e w3 ⟨vp, rfl, ho, hb⟩; have m0_ := Aside0.mk (Kd.R_below HO.out hb); have n0_ := Aside0.mk (Kd.R_lower ho (below_size (by repeat (first | (with_reducible first | exact HB.out | apply below_alloc | apply pw_below_drewN | apply below_drew1) | exact HB.out)))); have n1_ := Aside0.mk (below_step (by repeat (first | (with_reducible first | exact HB.out | apply below_alloc | apply pw_below_drewN | apply below_drew1) | exact HB.out)) hb); clear HO HB; have HO := m0_; have HOP := n0_; have HB := n1_; have gn_ := Aside0.mk (blk_below GA.out hb); clear GA; have GA := gn_; clear gn_; (try clear a0 a1 a2); have a0 := (blk_cell GA.out 0 : World.cell? _ ⟨_, 0, none⟩ = some (Value.int .u8 a0_0)); have a1 := (blk_cell GA.out 1 : World.cell? _ ⟨_, 1, none⟩ = some (Value.int .i64 a0_1)); have a2 := (blk_cell GA.out 2 : World.cell? _ ⟨_, 2, none⟩ = some (Value.int .i64 a0_2)); clear m0_ n0_ n1_ hb ho) | ((with_reducible refine gate_builtin (b := .append) (xs := #[.tmp 39, .tmp 40]) rfl ?_); at_builtin; obtain ⟨Ay_, cy_, hy_, _, hC_⟩ := Kd.R_reads HOP.out; refine Kd.R_append_rows (Kd.int .u8) (w0 := w) w.heap.size rfl (.tmp 39) (.tmp 40) 22 5 (.int .u8 0) 1 rfl Tryd.underlying22 info5 rfl (by decide) (by omega) vl ([a0_0] ++ p1) q1 Ay_ _ cy_ (fun _ => True) (fun _ => False) rfl ?aX ?aO hC_ (fun _ _ h => h) (fun _ h => h.elim) ?aF ?aB ?aS ?aL ?_; (case aX => exact hy_); (case aB => exact (by repeat (first | (with_reducible first | exact HB.out | apply below_alloc | apply pw_below_drewN | apply below_drew1) | exact HB.out))); (case aF => exact (fun _ _ => trivial)); (case aO => exact HO.out); (case aS => exact (below_size (by repeat (first | (with_reducible first | exact HB.out | apply below_alloc | apply pw_below_drewN | apply below_drew1) | exact HB.out)))); (case aL => simp only [List.length_append, List.length_singleton]; omega); intro vl w4 ho hb hg hat; have n0_ := Aside0.mk hb; have n1_ := Aside0.mk ho; have gn_ := Aside0.mk (blk_grown GA.out hg (Kd.R_ne HO.out GA.out (by decide))); clear GA HB HO; have GA := gn_; have HB := n0_; have HO := n1_; clear gn_ n0_ n1_ ho hb hat hg; (try clear a0 a1 a2); have a0 := (blk_cell GA.out 0 : World.cell? _ ⟨_, 0, none⟩ = some (Value.int .u8 a0_0)); have a1 := (blk_cell GA.out 1 : World.cell? _ ⟨_, 1, none⟩ = some (Value.int .i64 a0_1)); have a2 := (blk_cell GA.out 2 : World.cell? _ ⟨_, 2, none⟩ = some (Value.int .i64 a0_2))))
          go_ret2
          exact ⟨_, rfl, Kd.R_nil _ _ _ _ _, HB.out⟩
      · rw [if_neg c3] at h
        simp only [Option.some.injEq, Prod.mk.injEq] at h
        obtain ⟨rfl, rfl⟩ := h
        have c4 : (p2 != 0) = true := by rw [bne_iff_ne]; exact c3
        go_enter Tryd.func20, Tryd.ntmps20
        go_wp2_with (first | (go_at_call 23; (with_reducible refine (value_May.calls a0_0 a0_1 a0_2 _ _ HM.out).mono ?_); rintro e w1 ⟨rfl, hb⟩; have GA := Aside0.mk (blk_below (blk_new w (Obj.cells #[Value.int IntKind.u8 a0_0, Value.int IntKind.i64 a0_1, Value.int IntKind.i64 a0_2] 38)) hb); have a0 := (blk_cell GA.out 0 : World.cell? _ ⟨_, 0, none⟩ = some (Value.int .u8 a0_0)); have a1 := (blk_cell GA.out 1 : World.cell? _ ⟨_, 1, none⟩ = some (Value.int .i64 a0_1)); have a2 := (blk_cell GA.out 2 : World.cell? _ ⟨_, 2, none⟩ = some (Value.int .i64 a0_2)); have n0_ := Aside0.mk (below_step (by repeat (first | (with_reducible first | exact HB.out | apply below_alloc | apply pw_below_drewN | apply below_drew1) | exact HB.out)) hb); clear HB; have HB := n0_; clear n0_ hb) | ((with_reducible refine gate_dst (N := 14) rfl ?_); refine Kd.R_lit (Kd.int .u8) _ 5 ?hg (N := 14) ?hd (xs := [a0_0]) (inner := [.int .u8 a0_0]) (ok := fun _ => True) (okp := fun _ => True) ?hr ?hp (fun _ hk => hk) trivial (Below.refl _ _) (Nat.le_refl _) (by simp) ?_; (case hd => rfl); (case hg => rfl); (case hr => first | (go_simp; done) | (go_simp; rfl)); (case hp => exact (Reps.one (show Kd.M (Kd.int .u8) _ _ _ a0_0 [.int .u8 a0_0] from rfl) (Reps.none _ _))); intro vl w2 ho hb hg_ hnew_; clear hg_ hnew_; have n0_ := Aside0.mk (Kd.R_lower ho (below_size (by repeat (first | (with_reducible first | exact HB.out | apply below_alloc | apply pw_below_drewN | apply below_drew1) | exact HB.out)))); have n1_ := Aside0.mk (below_step (by repeat (first | (with_reducible first | exact HB.out | apply below_alloc | apply pw_below_drewN | apply below_drew1) | exact HB.out)) hb); clear HB; have HO := n0_; have HB := n1_; have gn_ := Aside0.mk (blk_below GA.out hb); clear GA; have GA := gn_; clear gn_; (try clear a0 a1 a2); have a0 := (blk_cell GA.out 0 : World.cell? _ ⟨_, 0, none⟩ = some (Value.int .u8 a0_0)); have a1 := (blk_cell GA.out 1 : World.cell? _ ⟨_, 1, none⟩ = some (Value.int .i64 a0_1)); have a2 := (blk_cell GA.out 2 : World.cell? _ ⟨_, 2, none⟩ = some (Value.int .i64 a0_2)); clear n0_ n1_ hb ho))
        refine wp_loop_rounds 3 ?_
        rw [rounds_succ]
        go_wp2_with (first | (go_at_call 35; (with_reducible refine (octet_Put.calls k 3 _ p1 p2 _ HP.out).mono ?_); rintro e w3 ⟨vp, rfl, ho, hb⟩; have m0_ := Aside0.mk (Kd.R_below HO.out hb); have n0_ := Aside0.mk (Kd.R_lower ho (below_size (by repeat (first | (with_reducible first | exact HB.out | apply below_alloc | apply pw_below_drewN | apply below_drew1) | exact HB.out)))); have n1_ := Aside0.mk (below_step (by repeat (first | (with_reducible first | exact HB.out | apply below_alloc | apply pw_below_drewN | apply below_drew1) | exact HB.out)) hb); clear HO HB; have HO := m0_; have HOP := n0_; have HB := n1_; have gn_ := Aside0.mk (blk_below GA.out hb); clear GA; have GA := gn_; clear gn_; (try clear a0 a1 a2); have a0 := (blk_cell GA.out 0 : World.cell? _ ⟨_, 0, none⟩ = some (Value.int .u8 a0_0)); have a1 := (blk_cell GA.out 1 : World.cell? _ ⟨_, 1, none⟩ = some (Value.int .i64 a0_1)); have a2 := (blk_cell GA.out 2 : World.cell? _ ⟨_, 2, none⟩ = some (Value.int .i64 a0_2)); clear m0_ n0_ n1_ hb ho))
        go_ret2
        exact ⟨_, rfl, Kd.R_nil _ _ _ _ _, HB.out⟩

-- NOT PRINTED: function 10 (pool_Bytes)

/-! ### slices_Index_api_Value_api_Value: function 24 -/
def slices_Index_api_Value_api_Value.l0 : Nat → List (S38) → Int → Int → Int → Int → Int → Option (Int)
  | 0, _, _, _, _, _, _ => none
  | k + 1, x0, x7, x8, x206000, x206001, x206002 => if x8 < x7 then (if 0 ≤ x8 then (if x8 < (x0.length : Int) then (if (x206000 == ((rd_T38 x0 x8).f0) && (x206001 == ((rd_T38 x0 x8).f1) && (x206002 == ((rd_T38 x0 x8).f2)))) = true then (some x8) else (slices_Index_api_Value_api_Value.l0 k x0 x7 (wrap64 (x8 + 1)) x206000 x206001 x206002)) else (none)) else (none)) else (some (-1))
def slices_Index_api_Value_api_Value.f (k : Nat) (l0 : List (S38)) (a1_0 : Int) (a1_1 : Int) (a1_2 : Int) : Option (Int) := slices_Index_api_Value_api_Value.l0 k l0 (l0.length : Int) 0 a1_0 a1_1 a1_2
theorem slices_Index_api_Value_api_Value.mono_l : ∀ k, (∀ y0 y1 y2 y3 y4 y5, LeO (slices_Index_api_Value_api_Value.l0 k y0 y1 y2 y3 y4 y5) (slices_Index_api_Value_api_Value.l0 (k + 1) y0 y1 y2 y3 y4 y5))
  | 0 => fun _ _ _ _ _ _ r h => by simp [slices_Index_api_Value_api_Value.l0] at h
  | k + 1 => by
    have ih0 := slices_Index_api_Value_api_Value.mono_l k
    · intro y0 y1 y2 y3 y4 y5
      unfold slices_Index_api_Value_api_Value.l0
      repeat' first
      | (with_reducible exact ih0 _ _ _ _ _ _)
      | (with_reducible exact LeO.refl _)
      | (with_reducible exact LeO.none _)
      | (with_reducible refine LeO.ite ?_ ?_)
      | (with_reducible refine LeO.bind ?_ (fun _ => ?_))
      | exact ih0 _ _ _ _ _ _
      | exact LeO.none _
      | refine LeO.ite ?_ ?_
      | refine LeO.bind ?_ (fun _ => ?_)
theorem slices_Index_api_Value_api_Value.mono : ∀ a0 a1 a2 a3 k, LeO (slices_Index_api_Value_api_Value.f k a0 a1 a2 a3) (slices_Index_api_Value_api_Value.f (k + 1) a0 a1 a2 a3) := by
  intro a0 a1 a2 a3 k
  have ih0 := slices_Index_api_Value_api_Value.mono_l k
  unfold slices_Index_api_Value_api_Value.f
  repeat' first
      | (with_reducible exact ih0 _ _ _ _ _ _)
      | (with_reducible exact LeO.refl _)
      | (with_reducible exact LeO.none _)
      | (with_reducible refine LeO.ite ?_ ?_)
      | (with_reducible refine LeO.bind ?_ (fun _ => ?_))
      | exact ih0 _ _ _ _ _ _
      | exact LeO.none _
      | refine LeO.ite ?_ ?_
      | refine LeO.bind ?_ (fun _ => ?_)
set_option maxHeartbeats 8000000 in
set_option maxRecDepth 100000 in
theorem slices_Index_api_Value_api_Value.calls (k : Nat) (A0 : Option Addr) (c0 : Nat) (l0 : List (S38)) (a1_0 : Int) (a1_1 : Int) (a1_2 : Int) (r : Int) (w : World) (hr0 : Kd.C k38 w A0 l0.length l0) (hc0 : l0.length ≤ c0) (h : slices_Index_api_Value_api_Value.f k l0 a1_0 a1_1 a1_2 = some r) :
    Calls Tryd.prog 24 #[.slice A0 l0.length c0, .agg #[.int .u8 a1_0, .int .i64 a1_1, .int .i64 a1_2]] w fun e w' => e = .returned (.int .i64 r) ∧ Below w.heap.size w w' := by
  have hu38 := Tryd.underlying38
  have HR0 := Aside0.mk hr0
  have HC0 := Aside0.mk hc0
  clear hr0 hc0
  have HB := Aside0.mk (Below.refl w.heap.size w)
  have H : (slices_Index_api_Value_api_Value.l0 k l0 (l0.length : Int) 0 a1_0 a1_1 a1_2) = some r := h
  clear h
  have H' := Aside0.mk H
  clear H
  go_enter Tryd.func24, Tryd.ntmps24
  go_wp2_with (first | ((with_reducible refine gate_dst (N := 3) rfl ?_); refine box_event ?hg (N := 3) ?hd (cs := #[.int .u8 a1_0, .int .i64 a1_1, .int .i64 a1_2]) (t := 38) ?hr ?_; (case hd => rfl); (case hg => rfl); (case hr => first | (go_simp; done) | (go_simp; rfl)); intro gb205 hg w3 hbox hb; have n0_ := Aside0.mk (below_step (by repeat (first | (with_reducible first | exact HB.out | apply below_alloc | apply pw_below_drewN | apply below_drew1) | exact HB.out | exact ⟨HB.out.os, HB.out.tape, HB.out.output, HB.out.size, HB.out.block⟩)) hb); have n1_ := Aside0.mk (hbox); have n2_ := Aside0.mk ((by rw [hg]; exact (below_size (by repeat (first | (with_reducible first | exact HB.out | apply below_alloc | apply pw_below_drewN | apply below_drew1) | exact HB.out | exact ⟨HB.out.os, HB.out.tape, HB.out.output, HB.out.size, HB.out.block⟩))) : w.heap.size ≤ gb205)); have n3_ := Aside0.mk ((by rw [hg]; exact (below_size (by repeat (first | (with_reducible first | exact HB.out | apply below_alloc | apply pw_below_drewN | apply below_drew1) | exact HB.out | exact ⟨HB.out.os, HB.out.tape, HB.out.output, HB.out.size, HB.out.block⟩))) : w.heap.size ≤ gb205)); clear HB; have HB := n0_; have BK205 := n1_; have GW205 := n2_; have GE205 := n3_; clear n0_ n1_ n2_ n3_; clear hb hbox hg))
  repeat (go_quiet (first | ((with_reducible refine gate_dst (N := 3) rfl ?_); refine box_event ?hg (N := 3) ?hd (cs := #[.int .u8 a1_0, .int .i64 a1_1, .int .i64 a1_2]) (t := 38) ?hr ?_; (case hd => rfl); (case hg => rfl); (case hr => first | (go_simp; done) | (go_simp; rfl)); intro gb205 hg w3 hbox hb; have n0_ := Aside0.mk (below_step (by repeat (first | (with_reducible first | exact HB.out | apply below_alloc | apply pw_below_drewN | apply below_drew1) | exact HB.out | exact ⟨HB.out.os, HB.out.tape, HB.out.output, HB.out.size, HB.out.block⟩)) hb); have n1_ := Aside0.mk (hbox); have n2_ := Aside0.mk ((by rw [hg]; exact (below_size (by repeat (first | (with_reducible first | exact HB.out | apply below_alloc | apply pw_below_drewN | apply below_drew1) | exact HB.out | exact ⟨HB.out.os, HB.out.tape, HB.out.output, HB.out.size, HB.out.block⟩))) : w.heap.size ≤ gb205)); have n3_ := Aside0.mk ((by rw [hg]; exact (below_size (by repeat (first | (with_reducible first | exact HB.out | apply below_alloc | apply pw_below_drewN | apply below_drew1) | exact HB.out | exact ⟨HB.out.os, HB.out.tape, HB.out.output, HB.out.size, HB.out.block⟩))) : w.heap.size ≤ gb205)); clear HB; have HB := n0_; have BK205 := n1_; have GW205 := n2_; have GE205 := n3_; clear n0_ n1_ n2_ n3_; clear hb hbox hg)); try go_wp2_with (first | ((with_reducible refine gate_dst (N := 3) rfl ?_); refine box_event ?hg (N := 3) ?hd (cs := #[.int .u8 a1_0, .int .i64 a1_1, .int .i64 a1_2]) (t := 38) ?hr ?_; (case hd => rfl); (case hg => rfl); (case hr => first | (go_simp; done) | (go_simp; rfl)); intro gb205 hg w3 hbox hb; have n0_ := Aside0.mk (below_step (by repeat (first | (with_reducible first | exact HB.out | apply below_alloc | apply pw_below_drewN | apply below_drew1) | exact HB.out | exact ⟨HB.out.os, HB.out.tape, HB.out.output, HB.out.size, HB.out.block⟩)) hb); have n1_ := Aside0.mk (hbox); have n2_ := Aside0.mk ((by rw [hg]; exact (below_size (by repeat (first | (with_reducible first | exact HB.out | apply below_alloc | apply pw_below_drewN | apply below_drew1) | exact HB.out | exact ⟨HB.out.os, HB.out.tape, HB.out.output, HB.out.size, HB.out.block⟩))) : w.heap.size ≤ gb205)); have n3_ := Aside0.mk ((by rw [hg]; exact (below_size (by repeat (first | (with_reducible first | exact HB.out | apply below_alloc | apply pw_below_drewN | apply below_drew1) | exact HB.out | exact ⟨HB.out.os, HB.out.tape, HB.out.output, HB.out.size, HB.out.block⟩))) : w.heap.size ≤ gb205)); clear HB; have HB := n0_; have BK205 := n1_; have GW205 := n2_; have GE205 := n3_; clear n0_ n1_ n2_ n3_; clear hb hbox hg)))
  go_loopg [8] k (fun kq v8 w' => ∃ (x8_1 : Int), v8 = .int .i64 x8_1 ∧ Aside0 (slices_Index_api_Value_api_Value.l0 kq l0 (l0.length : Int) x8_1 a1_0 a1_1 a1_2 = some r) ∧ Aside0 (kq ≤ k) ∧ Aside0 (w'.heap[gb205]? = some (.cells #[.int .u8 a1_0, .int .i64 a1_1, .int .i64 a1_2] 38 (0, 0))) ∧ Aside0 (Below w.heap.size w w'))
  case atStart => exact ⟨(0), (by first | rfl | (simp; done) | (simp [*]; done)), H', ⟨Nat.le_refl _⟩, ⟨by (with_reducible repeat (first | refine blk_drewN ?_ _ | refine blk_drew ?_ | refine blk_alloc ?_ _)); exact BK205.out⟩, ⟨by repeat (first | (with_reducible first | exact HB.out | apply below_alloc | apply pw_below_drewN | apply below_drew1 | refine below_set ?_ GE205.out) | exact HB.out | exact ⟨HB.out.os, HB.out.tape, HB.out.output, HB.out.size, HB.out.block⟩)⟩⟩
  case round =>
    clear H'
    try clear c2
    try clear p2
    obtain ⟨x8_1, rfl, HA, HK1, BK205, HB⟩ := hrel
    cases gk with
    | zero => exact absurd HA.out (by simp [slices_Index_api_Value_api_Value.l0])
    | succ k1 =>
      have H := HA.out
      clear HA
      simp only [slices_Index_api_Value_api_Value.l0] at H
      by_cases c4 : x8_1 < (l0.length : Int)
      · rw [if_pos c4] at H
        have c4b0 : decide (x8_1 < (l0.length : Int)) = true := decide_eq_true c4
        clear c4
        by_cases c5 : 0 ≤ x8_1
        · rw [if_pos c5] at H
          have c5b0 : decide (0 ≤ x8_1) = true := decide_eq_true c5
          clear c5
          by_cases c6 : x8_1 < (l0.length : Int)
          · rw [if_pos c6] at H
            have c6b0 : decide (x8_1 < (l0.length : Int)) = true := decide_eq_true c6
            clear c6
            by_cases c7 : (a1_0 == ((rd_T38 l0 x8_1).f0) && (a1_1 == ((rd_T38 l0 x8_1).f1) && (a1_2 == ((rd_T38 l0 x8_1).f2)))) = true
            · rw [if_pos c7] at H
              have c7b0 : (a1_0 == ((rd_T38 l0 x8_1).f0) && (a1_1 == ((rd_T38 l0 x8_1).f1) && (a1_2 == ((rd_T38 l0 x8_1).f2)))) = true := c7
              (try (have c7b1 : decide (a1_0 = ((rd_T38 l0 x8_1).f0) && (a1_1 == ((rd_T38 l0 x8_1).f1) && (a1_2 == ((rd_T38 l0 x8_1).f2)))) = true := by simpa using c7))
              (try (have c7b2 : (a1_0 == ((rd_T38 l0 x8_1).f0) && (a1_1 == ((rd_T38 l0 x8_1).f1) && (a1_2 == ((rd_T38 l0 x8_1).f2)))) = true := by simpa using c7))
              clear c7
              obtain rfl := Option.some.inj H
              have hcz8_0 : wr.cell? ⟨gb205, 0, none⟩ = some (.int .u8 a1_0) := (blk_cell BK205.out 0).trans rfl
              have hcz8_1 : wr.cell? ⟨gb205, 1, none⟩ = some (.int .i64 a1_1) := (blk_cell BK205.out 1).trans rfl
              have hcz8_2 : wr.cell? ⟨gb205, 2, none⟩ = some (.int .i64 a1_2) := (blk_cell BK205.out 2).trans rfl
              have hfz8_0 := blk_frozen BK205.out 0
              have hfz8_1 := blk_frozen BK205.out 1
              have hfz8_2 := blk_frozen BK205.out 2
              have p206 : 0 ≤ (x8_1 : Int) := of_decide_eq_true (by first | (with_reducible assumption) | assumption)
              have q206 : x8_1 < (l0.length : Int) := of_decide_eq_true (by first | (with_reducible assumption) | assumption)
              obtain ⟨ad206, e206, hx206_0, hx206_1, hx206_2⟩ := at_T38 HR0.out x8_1 p206 q206
              cases e206
              replace hx206_0 := (HB.out.cell (World.block_lt_of_cell? w _ hx206_0)).trans hx206_0
              replace hx206_1 := (HB.out.cell (World.block_lt_of_cell? w _ hx206_1)).trans hx206_1
              replace hx206_2 := (HB.out.cell (World.block_lt_of_cell? w _ hx206_2)).trans hx206_2
              replace p206 := eq_true p206
              replace q206 := eq_true q206
              go_wp2
              repeat (go_quiet (fail); try go_wp2)
              go_ret
              exact ⟨by first | rfl | (simp [errW_none, errW_some] <;> rfl) | (simp [*, errW_none, errW_some] <;> rfl), by repeat (first | (with_reducible first | exact HB.out | apply below_alloc | apply pw_below_drewN | apply below_drew1 | refine below_set ?_ GE205.out) | exact HB.out | exact ⟨HB.out.os, HB.out.tape, HB.out.output, HB.out.size, HB.out.block⟩)⟩
            · rw [if_neg c7] at H
              have c7b0 : (a1_0 == ((rd_T38 l0 x8_1).f0) && (a1_1 == ((rd_T38 l0 x8_1).f1) && (a1_2 == ((rd_T38 l0 x8_1).f2)))) = false := by simpa using c7
              (try (have c7b1 : decide (a1_0 = ((rd_T38 l0 x8_1).f0) && (a1_1 == ((rd_T38 l0 x8_1).f1) && (a1_2 == ((rd_T38 l0 x8_1).f2)))) = false := by simpa using c7))
              (try (have c7b2 : (a1_0 == ((rd_T38 l0 x8_1).f0) && (a1_1 == ((rd_T38 l0 x8_1).f1) && (a1_2 == ((rd_T38 l0 x8_1).f2)))) = false := by simpa using c7))
              (try (have c7b3 : ¬ (a1_0 = ((rd_T38 l0 x8_1).f0) && (a1_1 == ((rd_T38 l0 x8_1).f1) && (a1_2 == ((rd_T38 l0 x8_1).f2)))) := by simpa using c7))
              clear c7
              have H' := Aside0.mk H
              clear H
              have hcz9_0 : wr.cell? ⟨gb205, 0, none⟩ = some (.int .u8 a1_0) := (blk_cell BK205.out 0).trans rfl
              have hcz9_1 : wr.cell? ⟨gb205, 1, none⟩ = some (.int .i64 a1_1) := (blk_cell BK205.out 1).trans rfl
              have hcz9_2 : wr.cell? ⟨gb205, 2, none⟩ = some (.int .i64 a1_2) := (blk_cell BK205.out 2).trans rfl
              have hfz9_0 := blk_frozen BK205.out 0
              have hfz9_1 := blk_frozen BK205.out 1
              have hfz9_2 := blk_frozen BK205.out 2
              have p206 : 0 ≤ (x8_1 : Int) := of_decide_eq_true (by first | (with_reducible assumption) | assumption)
              have q206 : x8_1 < (l0.length : Int) := of_decide_eq_true (by first | (with_reducible assumption) | assumption)
              obtain ⟨ad206, e206, hx206_0, hx206_1, hx206_2⟩ := at_T38 HR0.out x8_1 p206 q206
              cases e206
              replace hx206_0 := (HB.out.cell (World.block_lt_of_cell? w _ hx206_0)).trans hx206_0
              replace hx206_1 := (HB.out.cell (World.block_lt_of_cell? w _ hx206_1)).trans hx206_1
              replace hx206_2 := (HB.out.cell (World.block_lt_of_cell? w _ hx206_2)).trans hx206_2
              replace p206 := eq_true p206
              replace q206 := eq_true q206
              go_wp2
              repeat (go_quiet (fail); try go_wp2)
              go_roundg k1
              case measure => have := HK1.out; omega
              case rel => exact ⟨(wrap64 (x8_1 + 1)), (by first | rfl | (simp; done) | (simp [*]; done)), H', ⟨by have := HK1.out; omega⟩, ⟨by (with_reducible repeat (first | refine blk_drewN ?_ _ | refine blk_drew ?_ | refine blk_alloc ?_ _)); exact BK205.out⟩, ⟨by repeat (first | (with_reducible first | exact HB.out | apply below_alloc | apply pw_below_drewN | apply below_drew1 | refine below_set ?_ GE205.out) | exact HB.out | exact ⟨HB.out.os, HB.out.tape, HB.out.output, HB.out.size, HB.out.block⟩)⟩⟩
          · rw [if_neg c6] at H
            exact absurd H (by simp)
        · rw [if_neg c5] at H
          exact absurd H (by simp)
      · rw [if_neg c4] at H
        have c4b0 : decide (x8_1 < (l0.length : Int)) = false := decide_eq_false c4
        clear c4
        obtain rfl := Option.some.inj H
        go_wp2
        repeat (go_quiet (fail); try go_wp2)
        go_ret
        exact ⟨by first | rfl | (simp [errW_none, errW_some] <;> rfl) | (simp [*, errW_none, errW_some] <;> rfl), by repeat (first | (with_reducible first | exact HB.out | apply below_alloc | apply pw_below_drewN | apply below_drew1 | refine below_set ?_ GE205.out) | exact HB.out | exact ⟨HB.out.os, HB.out.tape, HB.out.output, HB.out.size, HB.out.block⟩)⟩

/-! ### pool_Find: function 12 -/
def pool_Find.f (k : Nat) (l0 : List (S38)) (a1_0 : Int) (a1_1 : Int) (a1_2 : Int) : Option (Int) := (slices_Index_api_Value_api_Value.f k l0 a1_0 a1_1 a1_2).bind fun t208 => (some t208)
theorem pool_Find.mono : ∀ a0 a1 a2 a3 k, LeO (pool_Find.f k a0 a1 a2 a3) (pool_Find.f (k + 1) a0 a1 a2 a3) := by
  intro a0 a1 a2 a3 k
  unfold pool_Find.f
  repeat' first
      | (with_reducible exact slices_Index_api_Value_api_Value.mono _ _ _ _ _)
      | (with_reducible exact LeO.refl _)
      | (with_reducible exact LeO.none _)
      | (with_reducible refine LeO.ite ?_ ?_)
      | (with_reducible refine LeO.bind ?_ (fun _ => ?_))
      | exact slices_Index_api_Value_api_Value.mono _ _ _ _ _
      | exact LeO.none _
      | refine LeO.ite ?_ ?_
      | refine LeO.bind ?_ (fun _ => ?_)
set_option maxHeartbeats 8000000 in
set_option maxRecDepth 100000 in
theorem pool_Find.calls (k : Nat) (A0 : Option Addr) (c0 : Nat) (l0 : List (S38)) (a1_0 : Int) (a1_1 : Int) (a1_2 : Int) (r : Int) (w : World) (hr0 : Kd.C k38 w A0 l0.length l0) (hc0 : l0.length ≤ c0) (h : pool_Find.f k l0 a1_0 a1_1 a1_2 = some r) :
    Calls Tryd.prog 12 #[.slice A0 l0.length c0, .agg #[.int .u8 a1_0, .int .i64 a1_1, .int .i64 a1_2]] w fun e w' => e = .returned (.int .i64 r) ∧ Below w.heap.size w w' := by
  have hu38 := Tryd.underlying38
  have HR0 := Aside0.mk hr0
  have HC0 := Aside0.mk hc0
  clear hr0 hc0
  have HB := Aside0.mk (Below.refl w.heap.size w)
  have H : ((slices_Index_api_Value_api_Value.f k l0 a1_0 a1_1 a1_2).bind fun t208 => (some t208)) = some r := h
  clear h
  replace H := Option.bind_eq_some_iff.mp H
  obtain ⟨t208, A30, H⟩ := H
  replace H : (some t208) = some r := H
  have A3 := Aside0.mk A30
  clear A30
  obtain rfl := Option.some.inj H
  go_enter Tryd.func12, Tryd.ntmps12
  go_wp2_with (first | ((with_reducible refine gate_dst (N := 3) rfl ?_); refine box_event ?hg (N := 3) ?hd (cs := #[.int .u8 a1_0, .int .i64 a1_1, .int .i64 a1_2]) (t := 38) ?hr ?_; (case hd => rfl); (case hg => rfl); (case hr => first | (go_simp; done) | (go_simp; rfl)); intro gb207 hg w4 hbox hb; have n0_ := Aside0.mk (below_step (by repeat (first | (with_reducible first | exact HB.out | apply below_alloc | apply pw_below_drewN | apply below_drew1) | exact HB.out | exact ⟨HB.out.os, HB.out.tape, HB.out.output, HB.out.size, HB.out.block⟩)) hb); have n1_ := Aside0.mk (hbox); have n2_ := Aside0.mk ((by rw [hg]; exact (below_size (by repeat (first | (with_reducible first | exact HB.out | apply below_alloc | apply pw_below_drewN | apply below_drew1) | exact HB.out | exact ⟨HB.out.os, HB.out.tape, HB.out.output, HB.out.size, HB.out.block⟩))) : w.heap.size ≤ gb207)); have n3_ := Aside0.mk ((by rw [hg]; exact (below_size (by repeat (first | (with_reducible first | exact HB.out | apply below_alloc | apply pw_below_drewN | apply below_drew1) | exact HB.out | exact ⟨HB.out.os, HB.out.tape, HB.out.output, HB.out.size, HB.out.block⟩))) : w.heap.size ≤ gb207)); clear HB; have HB := n0_; have BK207 := n1_; have GW207 := n2_; have GE207 := n3_; clear n0_ n1_ n2_ n3_; clear hb hbox hg; have hcz5_0 : w4.cell? ⟨gb207, 0, none⟩ = some (.int .u8 a1_0) := (blk_cell BK207.out 0).trans rfl; have hcz5_1 : w4.cell? ⟨gb207, 1, none⟩ = some (.int .i64 a1_1) := (blk_cell BK207.out 1).trans rfl; have hcz5_2 : w4.cell? ⟨gb207, 2, none⟩ = some (.int .i64 a1_2) := (blk_cell BK207.out 2).trans rfl; have hfz5_0 := blk_frozen BK207.out 0; have hfz5_1 := blk_frozen BK207.out 1; have hfz5_2 := blk_frozen BK207.out 2) | ((with_reducible refine gate_callee (f := 24) rfl ?_); refine goesL_ (some 7) rfl rfl Tryd.func24 (by kernel_rfl) rfl #[.slice A0 l0.length c0, .agg #[.int .u8 a1_0, .int .i64 a1_1, .int .i64 a1_2]] rfl (by (try simp only [List.map_toArray, List.map_cons, List.map_nil]); first | done | rfl | (simp only [List.length_drop, List.length_take]; rfl)) ?_; (with_reducible refine (slices_Index_api_Value_api_Value.calls k _ _ l0 a1_0 a1_1 a1_2 t208 _ ?side1 ?side2 A3.out).mono ?_); (case side1 => repeat (first | exact (Kd.C_below HR0.out HB.out) | (with_reducible refine Kd.C_alloc ?_ _) | (with_reducible refine Kd.C_drewN ?_ _) | (with_reducible refine Kd.C_drew ?_))); (case side2 => exact HC0.out); rintro e w6 ⟨rfl, hb⟩; refine ⟨_, rfl, ?_⟩; have n0_ := Aside0.mk (blk_below (g := gb207) (o := .cells #[.int .u8 a1_0, .int .i64 a1_1, .int .i64 a1_2] 38 (0, 0)) (by (with_reducible repeat (first | refine blk_drewN ?_ _ | refine blk_drew ?_ | refine blk_alloc ?_ _)); exact BK207.out) hb); have n1_ := Aside0.mk (below_step (by repeat (first | (with_reducible first | exact HB.out | apply below_alloc | apply pw_below_drewN | apply below_drew1 | refine below_set ?_ GE207.out) | exact HB.out | exact ⟨HB.out.os, HB.out.tape, HB.out.output, HB.out.size, HB.out.block⟩)) hb); clear BK207; clear HB; have BK207 := n0_; have HB := n1_; clear n0_ n1_; (try clear hb); (try clear hb2); (try clear hk); (try clear hi)))
  go_ret
  exact ⟨by first | rfl | (simp [errW_none, errW_some] <;> rfl) | (simp [*, errW_none, errW_some] <;> rfl), by repeat (first | (with_reducible first | exact HB.out | apply below_alloc | apply pw_below_drewN | apply below_drew1 | refine below_set ?_ GE207.out) | exact HB.out | exact ⟨HB.out.os, HB.out.tape, HB.out.output, HB.out.size, HB.out.block⟩)⟩

-- NOT PRINTED: function 25 (slices_Clone_api_Value_api_Value)

-- NOT PRINTED: function 26 (pool_joined)

-- NOT PRINTED: function 13 (pool_Add)

/-! ### capstanlaw06_number: function 19 -/
def capstanlaw06_number.f (a0 : Int) : Option (Int × Int × Int) := some (1, a0, 0)
set_option maxHeartbeats 8000000 in
set_option maxRecDepth 100000 in
theorem capstanlaw06_number.calls (a0 : Int) (r1 : Int) (r2 : Int) (r3 : Int) (w : World) (h : capstanlaw06_number.f a0 = some (r1, r2, r3)) :
    Calls Tryd.prog 19 #[.int .i64 a0] w fun e w' => e = .returned (.agg #[.int .u8 r1, .int .i64 r2, .int .i64 r3]) ∧ Below w.heap.size w w' := by
  have hu38 := Tryd.underlying38
  have HB := Aside0.mk (Below.refl w.heap.size w)
  have H : (some (1, a0, 0)) = some (r1, r2, r3) := h
  clear h
  simp only [Option.some.injEq, Prod.mk.injEq] at H
  obtain ⟨rfl, rfl, rfl⟩ := H
  go_enter Tryd.func19, Tryd.ntmps19
  go_wp2_with (first | ((with_reducible refine gate_dst (N := 2) rfl ?_); refine box_event ?hg (N := 2) ?hd (cs := #[.int .u8 0, .int .i64 0, .int .i64 0]) (t := 38) ?hr ?_; (case hd => rfl); (case hg => rfl); (case hr => first | (go_simp; done) | (go_simp; rfl)); intro gb210 hg w2 hbox hb; have n0_ := Aside0.mk (below_step (by repeat (first | (with_reducible first | exact HB.out | apply below_alloc | apply pw_below_drewN | apply below_drew1) | exact HB.out | exact ⟨HB.out.os, HB.out.tape, HB.out.output, HB.out.size, HB.out.block⟩)) hb); have n1_ := Aside0.mk (hbox); have n2_ := Aside0.mk ((by rw [hg]; exact (below_size (by repeat (first | (with_reducible first | exact HB.out | apply below_alloc | apply pw_below_drewN | apply below_drew1) | exact HB.out | exact ⟨HB.out.os, HB.out.tape, HB.out.output, HB.out.size, HB.out.block⟩))) : w.heap.size ≤ gb210)); have n3_ := Aside0.mk ((by rw [hg]; exact (below_size (by repeat (first | (with_reducible first | exact HB.out | apply below_alloc | apply pw_below_drewN | apply below_drew1) | exact HB.out | exact ⟨HB.out.os, HB.out.tape, HB.out.output, HB.out.size, HB.out.block⟩))) : w.heap.size ≤ gb210)); clear HB; have HB := n0_; have BK210 := n1_; have GW210 := n2_; have GE210 := n3_; clear n0_ n1_ n2_ n3_; clear hb hbox hg; have hcz3_0 : w2.cell? ⟨gb210, 0, none⟩ = some (.int .u8 0) := (blk_cell BK210.out 0).trans rfl; have hcz3_1 : w2.cell? ⟨gb210, 1, none⟩ = some (.int .i64 0) := (blk_cell BK210.out 1).trans rfl; have hcz3_2 : w2.cell? ⟨gb210, 2, none⟩ = some (.int .i64 0) := (blk_cell BK210.out 2).trans rfl; have hfz3_0 := blk_frozen BK210.out 0; have hfz3_1 := blk_frozen BK210.out 1; have hfz3_2 := blk_frozen BK210.out 2))
  refine bodyPost_ret (results_cell_row rfl _ _ gb210 38 #[.int .u8 1, .int .i64 a0, .int .i64 0] (0, 0) _ rfl (by (with_reducible repeat (first | refine blk_drewN ?_ _ | refine blk_drew ?_ | refine blk_alloc ?_ _)); refine blk_put (cs := #[.int .u8 1, .int .i64 a0, .int .i64 0]) ?_ 2 _ rfl; (with_reducible repeat (first | refine blk_drewN ?_ _ | refine blk_drew ?_ | refine blk_alloc ?_ _)); refine blk_put (cs := #[.int .u8 1, .int .i64 0, .int .i64 0]) ?_ 1 _ rfl; (with_reducible repeat (first | refine blk_drewN ?_ _ | refine blk_drew ?_ | refine blk_alloc ?_ _)); refine blk_put (cs := #[.int .u8 0, .int .i64 0, .int .i64 0]) ?_ 0 _ rfl; (with_reducible repeat (first | refine blk_drewN ?_ _ | refine blk_drew ?_ | refine blk_alloc ?_ _)); exact BK210.out) Tryd.underlying38 rfl (by kernel_rfl)) rfl ?_
  exact ⟨by first | rfl | (simp [errW_none, errW_some] <;> rfl) | (simp [*, errW_none, errW_some] <;> rfl), by repeat (first | (with_reducible first | exact HB.out | apply below_alloc | apply pw_below_drewN | apply below_drew1 | refine below_set ?_ GE210.out) | exact HB.out | exact ⟨HB.out.os, HB.out.tape, HB.out.output, HB.out.size, HB.out.block⟩)⟩

-- NOT PRINTED: function 9 (capstanlaw06_awake)

-- NOT PRINTED: function 4 (capstanlaw06_PoolBack)

/-! ### capstanref03_Copy: function 14 -/
def capstanref03_Copy.f (l0 : List (S38)) : Option ((List (S38))) := if ([] : List (S38)).length + l0.length < 5864062014805 then (some (([] : List (S38)) ++ l0)) else (none)
set_option maxHeartbeats 8000000 in
set_option maxRecDepth 100000 in
theorem capstanref03_Copy.calls (A0 : Option Addr) (c0 : Nat) (l0 : List (S38)) (r : List (S38)) (w : World) (hr0 : Kd.C k38 w A0 l0.length l0) (hc0 : l0.length ≤ c0) (h : capstanref03_Copy.f l0 = some r) :
    Calls Tryd.prog 14 #[.slice A0 l0.length c0] w fun e w' => ∃ v0_ : Value, e = .returned (v0_) ∧ Kd.R k38 38 w' w.heap.size (fun _ => True) v0_ r ∧ Below w.heap.size w w' := by
  have HR0 := Aside0.mk hr0
  have HC0 := Aside0.mk hc0
  clear hr0 hc0
  have HB := Aside0.mk (Below.refl w.heap.size w)
  have H : (if ([] : List (S38)).length + l0.length < 5864062014805 then (some (([] : List (S38)) ++ l0)) else (none)) = some r := h
  clear h
  by_cases c2 : ([] : List (S38)).length + l0.length < 5864062014805
  · rw [if_pos c2] at H
    have LMc2 := Aside0.mk c2
    clear c2
    obtain ⟨y220, hy220⟩ : ∃ y_ : List (S38), y_ = (([] : List (S38)) ++ l0) := ⟨_, rfl⟩
    replace H : (some y220) = some r := by first | (rw [hy220]; with_reducible exact H) | (have H2_ := (Option.bind_some _ _).symm.trans H; rw [hy220]; with_reducible exact H2_) | (have H2_ := (Option.bind_some _ _).symm.trans H; with_reducible exact H2_) | with_reducible exact H | (rw [hy220]; exact H) | exact H
    have Ny220 := Aside0.mk hy220
    clear hy220
    obtain rfl := Option.some.inj H
    go_enter Tryd.func14, Tryd.ntmps14
    go_wp2_with (first | ((with_reducible refine gate_builtin (b := .append) (xs := #[.tmp 4, .tmp 5]) rfl ?_); at_builtin; refine Kd.R_append_rows k38 (w0 := w) w.heap.size rfl (.tmp 4) (.tmp 5) 23 38 (.agg #[(.int .u8 0), (.int .i64 0), (.int .i64 0)]) 24 rfl Tryd.underlying23 info38 rfl (by decide) (by omega) (.slice none 0 0) ([] : List (S38)) l0 _ _ _ (fun _ => True) (fun _ => False) rfl rfl ?aO ?aR (fun _ _ h => h) (fun _ h => h.elim) ?aF ?aB ?aS ?aL ?_; (case aR => repeat (first | exact HR0.out | (with_reducible refine Kd.C_alloc ?_ _) | (with_reducible refine Kd.C_drewN ?_ _) | (with_reducible refine Kd.C_drew ?_))); (case aB => exact (by repeat (first | (with_reducible first | exact HB.out | apply below_alloc | apply pw_below_drewN | apply below_drew1) | exact HB.out | exact ⟨HB.out.os, HB.out.tape, HB.out.output, HB.out.size, HB.out.block⟩))); (case aF => exact (fun _ _ => trivial)); (case aO => exact ((Kd.R_nil _ _ _ _ (fun _ => True)))); (case aS => exact (below_size (by repeat (first | (with_reducible first | exact HB.out | apply below_alloc | apply pw_below_drewN | apply below_drew1) | exact HB.out | exact ⟨HB.out.os, HB.out.tape, HB.out.output, HB.out.size, HB.out.block⟩)))); (case aL => have := LMc2.out; omega); intro v221 w3 ho hb hg hat; rw [← Ny220.out] at ho; have n0_ := Aside0.mk (hb); have n1_ := Aside0.mk (ho); clear HB; have HB := n0_; have HO222 := n1_; clear n0_ n1_; clear ho hb hg hat))
    go_ret
    exact ⟨_, by first | rfl | (simp [errW_none, errW_some] <;> rfl) | (simp [*, errW_none, errW_some] <;> rfl), by (with_reducible repeat (first | apply Kd.R_alloc | apply Kd.R_drewN | apply Kd.R_drew)); exact HO222.out, by repeat (first | (with_reducible first | exact HB.out | apply below_alloc | apply pw_below_drewN | apply below_drew1) | exact HB.out | exact ⟨HB.out.os, HB.out.tape, HB.out.output, HB.out.size, HB.out.block⟩)⟩
  · rw [if_neg c2] at H
    exact absurd H (by simp)

-- NOT PRINTED: function 5 (capstanlaw06_PoolOnce)

end Go.Proofs.YtcjehoaomcpmoaaDoor.P
