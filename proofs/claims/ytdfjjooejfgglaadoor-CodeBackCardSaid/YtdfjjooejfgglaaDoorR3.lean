/- Contracts of the functions of this seat (each: the call of the function does what the plain Lean function of the same name tells; the conditions stand in each statement). Written by a program of this session and by hand; checked by Lean. -/
import Derived.Test.YtdfjjooejfgglaaDoorR0
import Derived.Test.YtdfjjooejfgglaaDoorR2
namespace Go.Proofs.YtdfjjooejfgglaaDoor.R
open Go.RowKit Go.Proofs.YtdfjjooejfgglaaDoorW.PrintWords Go.Proofs.YtdfjjooejfgglaaDoorW.PrintLast Go.Proofs.YtdfjjooejfgglaaDoorW.PrintMore
attribute [local go_sem] max2_int min2_int max_two min_two max_three min_three max_four min_four   -- for this text's walks alone
set_option linter.unusedVariables false
set_option linter.unusedSimpArgs false

/-! ### op_Bounds: function 51 -/
def op_Bounds.f (k : Nat) (a0 : Int) : Option (Int × Int) := (op_Known.f a0).bind fun b => if b = true then (op_sign.f k a0).bind fun s => if 0 ≤ s ∧ s < 9 then some (rd gl1 (s * 2), rd gl1 (s * 2 + 1)) else none else some (0, -1)
theorem op_Bounds.mono : ∀ a0 k, LeO (op_Bounds.f k a0) (op_Bounds.f (k + 1) a0) := by
  intro a0 k
  unfold op_Bounds.f
  exact LeO.bind (LeO.refl _) fun b => LeO.ite (LeO.bind (op_sign.mono _ _) fun s => LeO.refl _) (LeO.refl _)
set_option maxHeartbeats 8000000 in
set_option maxRecDepth 100000 in
theorem op_Bounds.calls (k : Nat) (a0 : Int) (r1 : Int) (r2 : Int) (w : World) (hG : Gl w) (h : op_Bounds.f k a0 = some (r1, r2)) :
    Calls Tryd.prog 51 #[.int .u8 a0] w fun e w' => e = .returned (.tuple #[.int .i64 r1, .int .i64 r2]) ∧ Below w.heap.size w w' := by
  have HB := Aside0.mk (Below.refl w.heap.size w)
  have HR := Aside0.mk hG.g1
  clear hG
  obtain ⟨b, hk⟩ : ∃ b, op_Known.f a0 = some b := ⟨_, rfl⟩
  have HK := Aside0.mk hk
  simp only [op_Bounds.f] at h
  rw [hk, Option.bind_some] at h
  clear hk
  cases b with
  | false =>
    rw [if_neg (by decide), Option.some.injEq, Prod.mk.injEq] at h
    obtain ⟨rfl, rfl⟩ := h
    go_enter Tryd.func51, Tryd.ntmps51
    go_wp2_with (first | (go_at_call 27; (with_reducible refine (op_Known.calls a0 false _ HK.out).mono ?_); rintro e w' ⟨rfl, ⟨nd, rfl⟩⟩))
    go_ret2
    exact ⟨rfl, by repeat (first | exact HB.out | apply below_alloc | apply pw_below_drewN | apply below_drew1)⟩
  | true =>
    rw [if_pos rfl] at h
    obtain ⟨s, hs⟩ : ∃ s, op_sign.f k a0 = some s := by
      cases e : op_sign.f k a0 with
      | none => rw [e] at h; cases h
      | some s => exact ⟨s, rfl⟩
    rw [hs, Option.bind_some] at h
    have hb : 0 ≤ s ∧ s < 9 := by
      by_cases c : 0 ≤ s ∧ s < 9
      · exact c
      · rw [if_neg c] at h; cases h
    rw [if_pos hb, Option.some.injEq, Prod.mk.injEq] at h
    obtain ⟨rfl, rfl⟩ := h
    have HS := Aside0.mk hs
    clear hs
    have hal : Tryd.prog.arrayLen 104 = 9 := by kernel_rfl
    have hc : ∀ j : Nat, j < 18 → w.cell? ⟨1, j, none⟩ = some (.int .i64 (rd gl1 j)) := by
      intro j hj
      obtain ⟨ad, e, hx⟩ := Kd.at_int HR.out (j : Int) (by omega) (by have : gl1.length = 18 := rfl; omega)
      obtain rfl : (⟨1, 0, none⟩ : Addr) = ad := by injection e
      simp only [add_plain, Int.toNat_natCast] at hx
      exact hx
    have hq0 : ∀ n : Nat, ((w.drewN n).alloc (Obj.cells #[Value.int IntKind.i64 0, Value.int IntKind.i64 0] 103)).cell? ⟨w.heap.size, 0, none⟩ = some (.int .i64 0) := fun n => blk_cell (blk_new (w.drewN n) (Obj.cells #[Value.int IntKind.i64 0, Value.int IntKind.i64 0] 103)) 0
    have hq1 : ∀ n : Nat, ((w.drewN n).alloc (Obj.cells #[Value.int IntKind.i64 0, Value.int IntKind.i64 0] 103)).cell? ⟨w.heap.size, 1, none⟩ = some (.int .i64 0) := fun n => blk_cell (blk_new (w.drewN n) (Obj.cells #[Value.int IntKind.i64 0, Value.int IntKind.i64 0] 103)) 1
    have hf0 : ∀ n i : Nat, ((w.drewN n).alloc (Obj.cells #[Value.int IntKind.i64 0, Value.int IntKind.i64 0] 103)).frozen? ⟨w.heap.size, i, none⟩ = false := fun n i => blk_frozen (blk_new (w.drewN n) (Obj.cells #[Value.int IntKind.i64 0, Value.int IntKind.i64 0] 103)) i
    have h9 : s = 0 ∨ s = 1 ∨ s = 2 ∨ s = 3 ∨ s = 4 ∨ s = 5 ∨ s = 6 ∨ s = 7 ∨ s = 8 := by omega
    rcases h9 with rfl | rfl | rfl | rfl | rfl | rfl | rfl | rfl | rfl
    · go_enter Tryd.func51, Tryd.ntmps51
      go_wp2_with (first | (go_at_call 27; (with_reducible refine (op_Known.calls a0 true _ HK.out).mono ?_); rintro e w' ⟨rfl, ⟨nd, rfl⟩⟩) | (go_at_call 70; (with_reducible refine (op_sign.calls k a0 0 _ HS.out).mono ?_); rintro e w' ⟨rfl, ⟨nd2, rfl⟩⟩))
      generalize hz : World.setCell _ _ _ = wz
      have BK : wz.heap[w.heap.size]? = some (.cells #[.int .i64 (rd gl1 0), .int .i64 (rd gl1 1)] 103 (0, 0)) := by
        rw [← hz]
        refine blk_put (cs := #[.int .i64 (rd gl1 0), .int .i64 0]) ?_ 1 _ rfl
        refine blk_put (cs := #[.int .i64 0, .int .i64 0]) ?_ 0 _ rfl
        exact blk_new (w.drewN _) _
      have HB2 := Aside0.mk (show Below w.heap.size w wz by rw [← hz]; exact below_set (below_set (below_alloc (pw_below_drewN HB.out _) _) (Nat.le_refl _)) (Nat.le_refl _))
      have c0 : wz.cell? ⟨w.heap.size, 0, none⟩ = some (.int .i64 (rd gl1 0)) := (blk_cell BK 0).trans rfl
      have c1 : wz.cell? ⟨w.heap.size, 1, none⟩ = some (.int .i64 (rd gl1 1)) := (blk_cell BK 1).trans rfl
      clear hz BK hq0 hq1 hf0 hc
      go_wp2
      repeat (go_quiet (fail); try go_wp2)
      go_ret2
      exact ⟨rfl, by repeat (first | exact HB2.out | apply below_alloc | apply pw_below_drewN | apply below_drew1)⟩
    · go_enter Tryd.func51, Tryd.ntmps51
      go_wp2_with (first | (go_at_call 27; (with_reducible refine (op_Known.calls a0 true _ HK.out).mono ?_); rintro e w' ⟨rfl, ⟨nd, rfl⟩⟩) | (go_at_call 70; (with_reducible refine (op_sign.calls k a0 1 _ HS.out).mono ?_); rintro e w' ⟨rfl, ⟨nd2, rfl⟩⟩))
      generalize hz : World.setCell _ _ _ = wz
      have BK : wz.heap[w.heap.size]? = some (.cells #[.int .i64 (rd gl1 2), .int .i64 (rd gl1 3)] 103 (0, 0)) := by
        rw [← hz]
        refine blk_put (cs := #[.int .i64 (rd gl1 2), .int .i64 0]) ?_ 1 _ rfl
        refine blk_put (cs := #[.int .i64 0, .int .i64 0]) ?_ 0 _ rfl
        exact blk_new (w.drewN _) _
      have HB2 := Aside0.mk (show Below w.heap.size w wz by rw [← hz]; exact below_set (below_set (below_alloc (pw_below_drewN HB.out _) _) (Nat.le_refl _)) (Nat.le_refl _))
      have c0 : wz.cell? ⟨w.heap.size, 0, none⟩ = some (.int .i64 (rd gl1 2)) := (blk_cell BK 0).trans rfl
      have c1 : wz.cell? ⟨w.heap.size, 1, none⟩ = some (.int .i64 (rd gl1 3)) := (blk_cell BK 1).trans rfl
      clear hz BK hq0 hq1 hf0 hc
      go_wp2
      repeat (go_quiet (fail); try go_wp2)
      go_ret2
      exact ⟨rfl, by repeat (first | exact HB2.out | apply below_alloc | apply pw_below_drewN | apply below_drew1)⟩
    · go_enter Tryd.func51, Tryd.ntmps51
      go_wp2_with (first | (go_at_call 27; (with_reducible refine (op_Known.calls a0 true _ HK.out).mono ?_); rintro e w' ⟨rfl, ⟨nd, rfl⟩⟩) | (go_at_call 70; (with_reducible refine (op_sign.calls k a0 2 _ HS.out).mono ?_); rintro e w' ⟨rfl, ⟨nd2, rfl⟩⟩))
      generalize hz : World.setCell _ _ _ = wz
      have BK : wz.heap[w.heap.size]? = some (.cells #[.int .i64 (rd gl1 4), .int .i64 (rd gl1 5)] 103 (0, 0)) := by
        rw [← hz]
        refine blk_put (cs := #[.int .i64 (rd gl1 4), .int .i64 0]) ?_ 1 _ rfl
        refine blk_put (cs := #[.int .i64 0, .int .i64 0]) ?_ 0 _ rfl
        exact blk_new (w.drewN _) _
      have HB2 := Aside0.mk (show Below w.heap.size w wz by rw [← hz]; exact below_set (below_set (below_alloc (pw_below_drewN HB.out _) _) (Nat.le_refl _)) (Nat.le_refl _))
      have c0 : wz.cell? ⟨w.heap.size, 0, none⟩ = some (.int .i64 (rd gl1 4)) := (blk_cell BK 0).trans rfl
      have c1 : wz.cell? ⟨w.heap.size, 1, none⟩ = some (.int .i64 (rd gl1 5)) := (blk_cell BK 1).trans rfl
      clear hz BK hq0 hq1 hf0 hc
      go_wp2
      repeat (go_quiet (fail); try go_wp2)
      go_ret2
      exact ⟨rfl, by repeat (first | exact HB2.out | apply below_alloc | apply pw_below_drewN | apply below_drew1)⟩
    · go_enter Tryd.func51, Tryd.ntmps51
      go_wp2_with (first | (go_at_call 27; (with_reducible refine (op_Known.calls a0 true _ HK.out).mono ?_); rintro e w' ⟨rfl, ⟨nd, rfl⟩⟩) | (go_at_call 70; (with_reducible refine (op_sign.calls k a0 3 _ HS.out).mono ?_); rintro e w' ⟨rfl, ⟨nd2, rfl⟩⟩))
      generalize hz : World.setCell _ _ _ = wz
      have BK : wz.heap[w.heap.size]? = some (.cells #[.int .i64 (rd gl1 6), .int .i64 (rd gl1 7)] 103 (0, 0)) := by
        rw [← hz]
        refine blk_put (cs := #[.int .i64 (rd gl1 6), .int .i64 0]) ?_ 1 _ rfl
        refine blk_put (cs := #[.int .i64 0, .int .i64 0]) ?_ 0 _ rfl
        exact blk_new (w.drewN _) _
      have HB2 := Aside0.mk (show Below w.heap.size w wz by rw [← hz]; exact below_set (below_set (below_alloc (pw_below_drewN HB.out _) _) (Nat.le_refl _)) (Nat.le_refl _))
      have c0 : wz.cell? ⟨w.heap.size, 0, none⟩ = some (.int .i64 (rd gl1 6)) := (blk_cell BK 0).trans rfl
      have c1 : wz.cell? ⟨w.heap.size, 1, none⟩ = some (.int .i64 (rd gl1 7)) := (blk_cell BK 1).trans rfl
      clear hz BK hq0 hq1 hf0 hc
      go_wp2
      repeat (go_quiet (fail); try go_wp2)
      go_ret2
      exact ⟨rfl, by repeat (first | exact HB2.out | apply below_alloc | apply pw_below_drewN | apply below_drew1)⟩
    · go_enter Tryd.func51, Tryd.ntmps51
      go_wp2_with (first | (go_at_call 27; (with_reducible refine (op_Known.calls a0 true _ HK.out).mono ?_); rintro e w' ⟨rfl, ⟨nd, rfl⟩⟩) | (go_at_call 70; (with_reducible refine (op_sign.calls k a0 4 _ HS.out).mono ?_); rintro e w' ⟨rfl, ⟨nd2, rfl⟩⟩))
      generalize hz : World.setCell _ _ _ = wz
      have BK : wz.heap[w.heap.size]? = some (.cells #[.int .i64 (rd gl1 8), .int .i64 (rd gl1 9)] 103 (0, 0)) := by
        rw [← hz]
        refine blk_put (cs := #[.int .i64 (rd gl1 8), .int .i64 0]) ?_ 1 _ rfl
        refine blk_put (cs := #[.int .i64 0, .int .i64 0]) ?_ 0 _ rfl
        exact blk_new (w.drewN _) _
      have HB2 := Aside0.mk (show Below w.heap.size w wz by rw [← hz]; exact below_set (below_set (below_alloc (pw_below_drewN HB.out _) _) (Nat.le_refl _)) (Nat.le_refl _))
      have c0 : wz.cell? ⟨w.heap.size, 0, none⟩ = some (.int .i64 (rd gl1 8)) := (blk_cell BK 0).trans rfl
      have c1 : wz.cell? ⟨w.heap.size, 1, none⟩ = some (.int .i64 (rd gl1 9)) := (blk_cell BK 1).trans rfl
      clear hz BK hq0 hq1 hf0 hc
      go_wp2
      repeat (go_quiet (fail); try go_wp2)
      go_ret2
      exact ⟨rfl, by repeat (first | exact HB2.out | apply below_alloc | apply pw_below_drewN | apply below_drew1)⟩
    · go_enter Tryd.func51, Tryd.ntmps51
      go_wp2_with (first | (go_at_call 27; (with_reducible refine (op_Known.calls a0 true _ HK.out).mono ?_); rintro e w' ⟨rfl, ⟨nd, rfl⟩⟩) | (go_at_call 70; (with_reducible refine (op_sign.calls k a0 5 _ HS.out).mono ?_); rintro e w' ⟨rfl, ⟨nd2, rfl⟩⟩))
      generalize hz : World.setCell _ _ _ = wz
      have BK : wz.heap[w.heap.size]? = some (.cells #[.int .i64 (rd gl1 10), .int .i64 (rd gl1 11)] 103 (0, 0)) := by
        rw [← hz]
        refine blk_put (cs := #[.int .i64 (rd gl1 10), .int .i64 0]) ?_ 1 _ rfl
        refine blk_put (cs := #[.int .i64 0, .int .i64 0]) ?_ 0 _ rfl
        exact blk_new (w.drewN _) _
      have HB2 := Aside0.mk (show Below w.heap.size w wz by rw [← hz]; exact below_set (below_set (below_alloc (pw_below_drewN HB.out _) _) (Nat.le_refl _)) (Nat.le_refl _))
      have c0 : wz.cell? ⟨w.heap.size, 0, none⟩ = some (.int .i64 (rd gl1 10)) := (blk_cell BK 0).trans rfl
      have c1 : wz.cell? ⟨w.heap.size, 1, none⟩ = some (.int .i64 (rd gl1 11)) := (blk_cell BK 1).trans rfl
      clear hz BK hq0 hq1 hf0 hc
      go_wp2
      repeat (go_quiet (fail); try go_wp2)
      go_ret2
      exact ⟨rfl, by repeat (first | exact HB2.out | apply below_alloc | apply pw_below_drewN | apply below_drew1)⟩
    · go_enter Tryd.func51, Tryd.ntmps51
      go_wp2_with (first | (go_at_call 27; (with_reducible refine (op_Known.calls a0 true _ HK.out).mono ?_); rintro e w' ⟨rfl, ⟨nd, rfl⟩⟩) | (go_at_call 70; (with_reducible refine (op_sign.calls k a0 6 _ HS.out).mono ?_); rintro e w' ⟨rfl, ⟨nd2, rfl⟩⟩))
      generalize hz : World.setCell _ _ _ = wz
      have BK : wz.heap[w.heap.size]? = some (.cells #[.int .i64 (rd gl1 12), .int .i64 (rd gl1 13)] 103 (0, 0)) := by
        rw [← hz]
        refine blk_put (cs := #[.int .i64 (rd gl1 12), .int .i64 0]) ?_ 1 _ rfl
        refine blk_put (cs := #[.int .i64 0, .int .i64 0]) ?_ 0 _ rfl
        exact blk_new (w.drewN _) _
      have HB2 := Aside0.mk (show Below w.heap.size w wz by rw [← hz]; exact below_set (below_set (below_alloc (pw_below_drewN HB.out _) _) (Nat.le_refl _)) (Nat.le_refl _))
      have c0 : wz.cell? ⟨w.heap.size, 0, none⟩ = some (.int .i64 (rd gl1 12)) := (blk_cell BK 0).trans rfl
      have c1 : wz.cell? ⟨w.heap.size, 1, none⟩ = some (.int .i64 (rd gl1 13)) := (blk_cell BK 1).trans rfl
      clear hz BK hq0 hq1 hf0 hc
      go_wp2
      repeat (go_quiet (fail); try go_wp2)
      go_ret2
      exact ⟨rfl, by repeat (first | exact HB2.out | apply below_alloc | apply pw_below_drewN | apply below_drew1)⟩
    · go_enter Tryd.func51, Tryd.ntmps51
      go_wp2_with (first | (go_at_call 27; (with_reducible refine (op_Known.calls a0 true _ HK.out).mono ?_); rintro e w' ⟨rfl, ⟨nd, rfl⟩⟩) | (go_at_call 70; (with_reducible refine (op_sign.calls k a0 7 _ HS.out).mono ?_); rintro e w' ⟨rfl, ⟨nd2, rfl⟩⟩))
      generalize hz : World.setCell _ _ _ = wz
      have BK : wz.heap[w.heap.size]? = some (.cells #[.int .i64 (rd gl1 14), .int .i64 (rd gl1 15)] 103 (0, 0)) := by
        rw [← hz]
        refine blk_put (cs := #[.int .i64 (rd gl1 14), .int .i64 0]) ?_ 1 _ rfl
        refine blk_put (cs := #[.int .i64 0, .int .i64 0]) ?_ 0 _ rfl
        exact blk_new (w.drewN _) _
      have HB2 := Aside0.mk (show Below w.heap.size w wz by rw [← hz]; exact below_set (below_set (below_alloc (pw_below_drewN HB.out _) _) (Nat.le_refl _)) (Nat.le_refl _))
      have c0 : wz.cell? ⟨w.heap.size, 0, none⟩ = some (.int .i64 (rd gl1 14)) := (blk_cell BK 0).trans rfl
      have c1 : wz.cell? ⟨w.heap.size, 1, none⟩ = some (.int .i64 (rd gl1 15)) := (blk_cell BK 1).trans rfl
      clear hz BK hq0 hq1 hf0 hc
      go_wp2
      repeat (go_quiet (fail); try go_wp2)
      go_ret2
      exact ⟨rfl, by repeat (first | exact HB2.out | apply below_alloc | apply pw_below_drewN | apply below_drew1)⟩
    · go_enter Tryd.func51, Tryd.ntmps51
      go_wp2_with (first | (go_at_call 27; (with_reducible refine (op_Known.calls a0 true _ HK.out).mono ?_); rintro e w' ⟨rfl, ⟨nd, rfl⟩⟩) | (go_at_call 70; (with_reducible refine (op_sign.calls k a0 8 _ HS.out).mono ?_); rintro e w' ⟨rfl, ⟨nd2, rfl⟩⟩))
      generalize hz : World.setCell _ _ _ = wz
      have BK : wz.heap[w.heap.size]? = some (.cells #[.int .i64 (rd gl1 16), .int .i64 (rd gl1 17)] 103 (0, 0)) := by
        rw [← hz]
        refine blk_put (cs := #[.int .i64 (rd gl1 16), .int .i64 0]) ?_ 1 _ rfl
        refine blk_put (cs := #[.int .i64 0, .int .i64 0]) ?_ 0 _ rfl
        exact blk_new (w.drewN _) _
      have HB2 := Aside0.mk (show Below w.heap.size w wz by rw [← hz]; exact below_set (below_set (below_alloc (pw_below_drewN HB.out _) _) (Nat.le_refl _)) (Nat.le_refl _))
      have c0 : wz.cell? ⟨w.heap.size, 0, none⟩ = some (.int .i64 (rd gl1 16)) := (blk_cell BK 0).trans rfl
      have c1 : wz.cell? ⟨w.heap.size, 1, none⟩ = some (.int .i64 (rd gl1 17)) := (blk_cell BK 1).trans rfl
      clear hz BK hq0 hq1 hf0 hc
      go_wp2
      repeat (go_quiet (fail); try go_wp2)
      go_ret2
      exact ⟨rfl, by repeat (first | exact HB2.out | apply below_alloc | apply pw_below_drewN | apply below_drew1)⟩

/-! ### code_wide: function 28 -/
def code_wide.f (k : Nat) (a0 : Int) : Option (Bool) := (op_Bounds.f k a0).bind fun bt105 => (some (decide (bt105.2 > 0)))
theorem code_wide.mono : ∀ a0 k, LeO (code_wide.f k a0) (code_wide.f (k + 1) a0) := by
 intro a0 k
 unfold code_wide.f
 repeat' first
   | (with_reducible exact op_Bounds.mono _ _)
   | (with_reducible exact LeO.refl _)
   | (with_reducible exact LeO.none _)
   | (with_reducible refine LeO.ite ?_ ?_)
   | (with_reducible refine LeO.bind ?_ (fun _ => ?_))
   | exact op_Bounds.mono _ _
   | exact LeO.none _
   | refine LeO.ite ?_ ?_
   | refine LeO.bind ?_ (fun _ => ?_)
set_option maxHeartbeats 8000000 in
set_option maxRecDepth 100000 in
theorem code_wide.calls (k : Nat) (a0 : Int) (r : Bool) (w : World) (hG : Gl w) (h : code_wide.f k a0 = some r) :
  Calls Tryd.prog 28 #[.int .u8 a0] w fun e w' => e = .returned (.bool r) ∧ Below w.heap.size w w' := by
 have HG := Aside0.mk hG
 clear hG
 have HB := Aside0.mk (Below.refl w.heap.size w)
 have H : ((op_Bounds.f k a0).bind fun bt105 => (some (decide (bt105.2 > 0)))) = some r := h
 clear h
 replace H := Option.bind_eq_some_iff.mp H
 obtain ⟨⟨t105, t106⟩, A20, H⟩ := H
 replace H : (some (decide (t106 > 0))) = some r := H
 have A2 := Aside0.mk A20
 clear A20
 obtain rfl := Option.some.inj H
 go_enter Tryd.func28, Tryd.ntmps28
 go_wp2_with (first | ((with_reducible refine gate_callee (f := 51) rfl ?_); refine goesL_ (some 7) rfl rfl Tryd.func51 (by kernel_rfl) rfl #[.int .u8 a0] rfl (by (try simp only [List.map_toArray, List.map_cons, List.map_nil]); first | done | rfl | (simp only [List.length_drop, List.length_take]; rfl)) ?_; (with_reducible refine (op_Bounds.calls k a0 t105 t106 _ ?side1 A2.out).mono ?_); (case side1 => first | exact HG.out | ((repeat (first | exact HG.out | exact Gl.below HG.out HB.out | (with_reducible refine Gl.alloc ?_ _) | (with_reducible refine Gl.drewN ?_ _) | (with_reducible refine Gl.drew ?_))); done) | exact Gl.below HG.out (by repeat (first | (with_reducible first | exact HB.out | apply below_alloc | apply pw_below_drewN | apply below_drew1) | exact HB.out | exact ⟨HB.out.os, HB.out.tape, HB.out.output, HB.out.size, HB.out.block⟩))); rintro e w3 ⟨rfl, hb⟩; refine ⟨_, rfl, ?_⟩; have n0_ := Aside0.mk (below_step (by repeat (first | (with_reducible first | exact HB.out | apply below_alloc | apply pw_below_drewN | apply below_drew1) | exact HB.out | exact ⟨HB.out.os, HB.out.tape, HB.out.output, HB.out.size, HB.out.block⟩)) hb); clear HB; have HB := n0_; clear n0_; (try clear hb); (try clear hb2); (try clear hk); (try clear hi)))
 go_ret
 exact ⟨by first | rfl | (simp [errW_none, errW_some] <;> rfl) | (simp [*, errW_none, errW_some] <;> rfl), by repeat (first | (with_reducible first | exact HB.out | apply below_alloc | apply pw_below_drewN | apply below_drew1) | exact HB.out | exact ⟨HB.out.os, HB.out.tape, HB.out.output, HB.out.size, HB.out.block⟩)⟩

/-! ### op_May: function 29 -/
def op_May.f (k : Nat) (a0_0 : Int) (a0_1 : Int) (a0_2 : Int) : Option (Bool) := (op_Bounds.f k a0_0).bind fun bt108 => (if a0_1 ≥ bt108.1 then (if a0_1 ≤ bt108.2 then (some (a0_2 == 0)) else (some false)) else (some false))
theorem op_May.mono : ∀ a0 a1 a2 k, LeO (op_May.f k a0 a1 a2) (op_May.f (k + 1) a0 a1 a2) := by
 intro a0 a1 a2 k
 unfold op_May.f
 repeat' first
   | (with_reducible exact op_Bounds.mono _ _)
   | (with_reducible exact LeO.refl _)
   | (with_reducible exact LeO.none _)
   | (with_reducible refine LeO.ite ?_ ?_)
   | (with_reducible refine LeO.bind ?_ (fun _ => ?_))
   | exact op_Bounds.mono _ _
   | exact LeO.none _
   | refine LeO.ite ?_ ?_
   | refine LeO.bind ?_ (fun _ => ?_)
set_option maxHeartbeats 8000000 in
set_option maxRecDepth 100000 in
theorem op_May.calls (k : Nat) (a0_0 : Int) (a0_1 : Int) (a0_2 : Int) (r : Bool) (w : World) (hG : Gl w) (h : op_May.f k a0_0 a0_1 a0_2 = some r) :
  Calls Tryd.prog 29 #[.agg #[.int .u8 a0_0, .int .i64 a0_1, .int .i64 a0_2]] w fun e w' => e = .returned (.bool r) ∧ Below w.heap.size w w' := by
 have hu42 := Tryd.underlying42
 have HG := Aside0.mk hG
 clear hG
 have HB := Aside0.mk (Below.refl w.heap.size w)
 have H : ((op_Bounds.f k a0_0).bind fun bt108 => (if a0_1 ≥ bt108.1 then (if a0_1 ≤ bt108.2 then (some (a0_2 == 0)) else (some false)) else (some false))) = some r := h
 clear h
 replace H := Option.bind_eq_some_iff.mp H
 obtain ⟨⟨t108, t109⟩, A20, H⟩ := H
 replace H : (if a0_1 ≥ t108 then (if a0_1 ≤ t109 then (some (a0_2 == 0)) else (some false)) else (some false)) = some r := H
 have A2 := Aside0.mk A20
 clear A20
 by_cases c3 : a0_1 ≥ t108
 ·
  rw [if_pos c3] at H
  have c3b0 : decide (t108 ≤ a0_1) = true := decide_eq_true c3
  clear c3
  by_cases c4 : a0_1 ≤ t109
  ·
   rw [if_pos c4] at H
   have c4b0 : decide (a0_1 ≤ t109) = true := decide_eq_true c4
   clear c4
   obtain rfl := Option.some.inj H
   go_enter Tryd.func29, Tryd.ntmps29
   go_wp2_with (first | ((with_reducible refine gate_dst (N := 1) rfl ?_); refine box_event ?hg (N := 1) ?hd (cs := #[.int .u8 a0_0, .int .i64 a0_1, .int .i64 a0_2]) (t := 42) ?hr ?_; (case hd => rfl); (case hg => rfl); (case hr => first | (go_simp; done) | (go_simp; rfl)); intro gb107 hg w5 hbox hb; have n0_ := Aside0.mk (below_step (by repeat (first | (with_reducible first | exact HB.out | apply below_alloc | apply pw_below_drewN | apply below_drew1) | exact HB.out | exact ⟨HB.out.os, HB.out.tape, HB.out.output, HB.out.size, HB.out.block⟩)) hb); have n1_ := Aside0.mk (hbox); have n2_ := Aside0.mk ((by rw [hg]; exact (below_size (by repeat (first | (with_reducible first | exact HB.out | apply below_alloc | apply pw_below_drewN | apply below_drew1) | exact HB.out | exact ⟨HB.out.os, HB.out.tape, HB.out.output, HB.out.size, HB.out.block⟩))) : w.heap.size ≤ gb107)); have n3_ := Aside0.mk ((by rw [hg]; exact (below_size (by repeat (first | (with_reducible first | exact HB.out | apply below_alloc | apply pw_below_drewN | apply below_drew1) | exact HB.out | exact ⟨HB.out.os, HB.out.tape, HB.out.output, HB.out.size, HB.out.block⟩))) : w.heap.size ≤ gb107)); clear HB; have HB := n0_; have BK107 := n1_; have GW107 := n2_; have GE107 := n3_; clear n0_ n1_ n2_ n3_; clear hb hbox hg; have hcz6_0 : w5.cell? ⟨gb107, 0, none⟩ = some (.int .u8 a0_0) := (blk_cell BK107.out 0).trans rfl; have hcz6_1 : w5.cell? ⟨gb107, 1, none⟩ = some (.int .i64 a0_1) := (blk_cell BK107.out 1).trans rfl; have hcz6_2 : w5.cell? ⟨gb107, 2, none⟩ = some (.int .i64 a0_2) := (blk_cell BK107.out 2).trans rfl; have hfz6_0 := blk_frozen BK107.out 0; have hfz6_1 := blk_frozen BK107.out 1; have hfz6_2 := blk_frozen BK107.out 2) | ((with_reducible refine gate_callee (f := 51) rfl ?_); refine goesL_ (some 8) rfl rfl Tryd.func51 (by kernel_rfl) rfl #[.int .u8 a0_0] rfl (by (try simp only [List.map_toArray, List.map_cons, List.map_nil]); first | done | rfl | (simp only [List.length_drop, List.length_take]; rfl)) ?_; (with_reducible refine (op_Bounds.calls k a0_0 t108 t109 _ ?side1 A2.out).mono ?_); (case side1 => first | exact HG.out | ((repeat (first | exact HG.out | exact Gl.below HG.out HB.out | (with_reducible refine Gl.alloc ?_ _) | (with_reducible refine Gl.drewN ?_ _) | (with_reducible refine Gl.drew ?_))); done) | exact Gl.below HG.out (by repeat (first | (with_reducible first | exact HB.out | apply below_alloc | apply pw_below_drewN | apply below_drew1 | refine below_set ?_ GE107.out) | exact HB.out | exact ⟨HB.out.os, HB.out.tape, HB.out.output, HB.out.size, HB.out.block⟩))); rintro e w7 ⟨rfl, hb⟩; refine ⟨_, rfl, ?_⟩; have n0_ := Aside0.mk (blk_below (g := gb107) (o := .cells #[.int .u8 a0_0, .int .i64 a0_1, .int .i64 a0_2] 42 (0, 0)) (by (with_reducible repeat (first | refine blk_drewN ?_ _ | refine blk_drew ?_ | refine blk_alloc ?_ _)); exact BK107.out) hb); have n1_ := Aside0.mk (below_step (by repeat (first | (with_reducible first | exact HB.out | apply below_alloc | apply pw_below_drewN | apply below_drew1 | refine below_set ?_ GE107.out) | exact HB.out | exact ⟨HB.out.os, HB.out.tape, HB.out.output, HB.out.size, HB.out.block⟩)) hb); clear BK107; clear HB; have BK107 := n0_; have HB := n1_; clear n0_ n1_; (try clear hb); (try clear hb2); (try clear hk); (try clear hi); have hcz8_0 : w7.cell? ⟨gb107, 0, none⟩ = some (.int .u8 a0_0) := (blk_cell BK107.out 0).trans rfl; have hcz8_1 : w7.cell? ⟨gb107, 1, none⟩ = some (.int .i64 a0_1) := (blk_cell BK107.out 1).trans rfl; have hcz8_2 : w7.cell? ⟨gb107, 2, none⟩ = some (.int .i64 a0_2) := (blk_cell BK107.out 2).trans rfl; have hfz8_0 := blk_frozen BK107.out 0; have hfz8_1 := blk_frozen BK107.out 1; have hfz8_2 := blk_frozen BK107.out 2))
   go_ret
   exact ⟨by first | rfl | (simp [errW_none, errW_some] <;> rfl) | (simp [*, errW_none, errW_some] <;> rfl), by repeat (first | (with_reducible first | exact HB.out | apply below_alloc | apply pw_below_drewN | apply below_drew1 | refine below_set ?_ GE107.out) | exact HB.out | exact ⟨HB.out.os, HB.out.tape, HB.out.output, HB.out.size, HB.out.block⟩)⟩
  ·
   rw [if_neg c4] at H
   have c4b0 : decide (a0_1 ≤ t109) = false := decide_eq_false c4
   clear c4
   obtain rfl := Option.some.inj H
   go_enter Tryd.func29, Tryd.ntmps29
   go_wp2_with (first | ((with_reducible refine gate_dst (N := 1) rfl ?_); refine box_event ?hg (N := 1) ?hd (cs := #[.int .u8 a0_0, .int .i64 a0_1, .int .i64 a0_2]) (t := 42) ?hr ?_; (case hd => rfl); (case hg => rfl); (case hr => first | (go_simp; done) | (go_simp; rfl)); intro gb107 hg w9 hbox hb; have n0_ := Aside0.mk (below_step (by repeat (first | (with_reducible first | exact HB.out | apply below_alloc | apply pw_below_drewN | apply below_drew1) | exact HB.out | exact ⟨HB.out.os, HB.out.tape, HB.out.output, HB.out.size, HB.out.block⟩)) hb); have n1_ := Aside0.mk (hbox); have n2_ := Aside0.mk ((by rw [hg]; exact (below_size (by repeat (first | (with_reducible first | exact HB.out | apply below_alloc | apply pw_below_drewN | apply below_drew1) | exact HB.out | exact ⟨HB.out.os, HB.out.tape, HB.out.output, HB.out.size, HB.out.block⟩))) : w.heap.size ≤ gb107)); have n3_ := Aside0.mk ((by rw [hg]; exact (below_size (by repeat (first | (with_reducible first | exact HB.out | apply below_alloc | apply pw_below_drewN | apply below_drew1) | exact HB.out | exact ⟨HB.out.os, HB.out.tape, HB.out.output, HB.out.size, HB.out.block⟩))) : w.heap.size ≤ gb107)); clear HB; have HB := n0_; have BK107 := n1_; have GW107 := n2_; have GE107 := n3_; clear n0_ n1_ n2_ n3_; clear hb hbox hg; have hcz10_0 : w9.cell? ⟨gb107, 0, none⟩ = some (.int .u8 a0_0) := (blk_cell BK107.out 0).trans rfl; have hcz10_1 : w9.cell? ⟨gb107, 1, none⟩ = some (.int .i64 a0_1) := (blk_cell BK107.out 1).trans rfl; have hcz10_2 : w9.cell? ⟨gb107, 2, none⟩ = some (.int .i64 a0_2) := (blk_cell BK107.out 2).trans rfl; have hfz10_0 := blk_frozen BK107.out 0; have hfz10_1 := blk_frozen BK107.out 1; have hfz10_2 := blk_frozen BK107.out 2) | ((with_reducible refine gate_callee (f := 51) rfl ?_); refine goesL_ (some 8) rfl rfl Tryd.func51 (by kernel_rfl) rfl #[.int .u8 a0_0] rfl (by (try simp only [List.map_toArray, List.map_cons, List.map_nil]); first | done | rfl | (simp only [List.length_drop, List.length_take]; rfl)) ?_; (with_reducible refine (op_Bounds.calls k a0_0 t108 t109 _ ?side1 A2.out).mono ?_); (case side1 => first | exact HG.out | ((repeat (first | exact HG.out | exact Gl.below HG.out HB.out | (with_reducible refine Gl.alloc ?_ _) | (with_reducible refine Gl.drewN ?_ _) | (with_reducible refine Gl.drew ?_))); done) | exact Gl.below HG.out (by repeat (first | (with_reducible first | exact HB.out | apply below_alloc | apply pw_below_drewN | apply below_drew1 | refine below_set ?_ GE107.out) | exact HB.out | exact ⟨HB.out.os, HB.out.tape, HB.out.output, HB.out.size, HB.out.block⟩))); rintro e w11 ⟨rfl, hb⟩; refine ⟨_, rfl, ?_⟩; have n0_ := Aside0.mk (blk_below (g := gb107) (o := .cells #[.int .u8 a0_0, .int .i64 a0_1, .int .i64 a0_2] 42 (0, 0)) (by (with_reducible repeat (first | refine blk_drewN ?_ _ | refine blk_drew ?_ | refine blk_alloc ?_ _)); exact BK107.out) hb); have n1_ := Aside0.mk (below_step (by repeat (first | (with_reducible first | exact HB.out | apply below_alloc | apply pw_below_drewN | apply below_drew1 | refine below_set ?_ GE107.out) | exact HB.out | exact ⟨HB.out.os, HB.out.tape, HB.out.output, HB.out.size, HB.out.block⟩)) hb); clear BK107; clear HB; have BK107 := n0_; have HB := n1_; clear n0_ n1_; (try clear hb); (try clear hb2); (try clear hk); (try clear hi); have hcz12_0 : w11.cell? ⟨gb107, 0, none⟩ = some (.int .u8 a0_0) := (blk_cell BK107.out 0).trans rfl; have hcz12_1 : w11.cell? ⟨gb107, 1, none⟩ = some (.int .i64 a0_1) := (blk_cell BK107.out 1).trans rfl; have hcz12_2 : w11.cell? ⟨gb107, 2, none⟩ = some (.int .i64 a0_2) := (blk_cell BK107.out 2).trans rfl; have hfz12_0 := blk_frozen BK107.out 0; have hfz12_1 := blk_frozen BK107.out 1; have hfz12_2 := blk_frozen BK107.out 2))
   go_ret
   exact ⟨by first | rfl | (simp [errW_none, errW_some] <;> rfl) | (simp [*, errW_none, errW_some] <;> rfl), by repeat (first | (with_reducible first | exact HB.out | apply below_alloc | apply pw_below_drewN | apply below_drew1 | refine below_set ?_ GE107.out) | exact HB.out | exact ⟨HB.out.os, HB.out.tape, HB.out.output, HB.out.size, HB.out.block⟩)⟩
 ·
  rw [if_neg c3] at H
  have c3b0 : decide (t108 ≤ a0_1) = false := decide_eq_false c3
  clear c3
  obtain rfl := Option.some.inj H
  go_enter Tryd.func29, Tryd.ntmps29
  go_wp2_with (first | ((with_reducible refine gate_dst (N := 1) rfl ?_); refine box_event ?hg (N := 1) ?hd (cs := #[.int .u8 a0_0, .int .i64 a0_1, .int .i64 a0_2]) (t := 42) ?hr ?_; (case hd => rfl); (case hg => rfl); (case hr => first | (go_simp; done) | (go_simp; rfl)); intro gb107 hg w13 hbox hb; have n0_ := Aside0.mk (below_step (by repeat (first | (with_reducible first | exact HB.out | apply below_alloc | apply pw_below_drewN | apply below_drew1) | exact HB.out | exact ⟨HB.out.os, HB.out.tape, HB.out.output, HB.out.size, HB.out.block⟩)) hb); have n1_ := Aside0.mk (hbox); have n2_ := Aside0.mk ((by rw [hg]; exact (below_size (by repeat (first | (with_reducible first | exact HB.out | apply below_alloc | apply pw_below_drewN | apply below_drew1) | exact HB.out | exact ⟨HB.out.os, HB.out.tape, HB.out.output, HB.out.size, HB.out.block⟩))) : w.heap.size ≤ gb107)); have n3_ := Aside0.mk ((by rw [hg]; exact (below_size (by repeat (first | (with_reducible first | exact HB.out | apply below_alloc | apply pw_below_drewN | apply below_drew1) | exact HB.out | exact ⟨HB.out.os, HB.out.tape, HB.out.output, HB.out.size, HB.out.block⟩))) : w.heap.size ≤ gb107)); clear HB; have HB := n0_; have BK107 := n1_; have GW107 := n2_; have GE107 := n3_; clear n0_ n1_ n2_ n3_; clear hb hbox hg; have hcz14_0 : w13.cell? ⟨gb107, 0, none⟩ = some (.int .u8 a0_0) := (blk_cell BK107.out 0).trans rfl; have hcz14_1 : w13.cell? ⟨gb107, 1, none⟩ = some (.int .i64 a0_1) := (blk_cell BK107.out 1).trans rfl; have hcz14_2 : w13.cell? ⟨gb107, 2, none⟩ = some (.int .i64 a0_2) := (blk_cell BK107.out 2).trans rfl; have hfz14_0 := blk_frozen BK107.out 0; have hfz14_1 := blk_frozen BK107.out 1; have hfz14_2 := blk_frozen BK107.out 2) | ((with_reducible refine gate_callee (f := 51) rfl ?_); refine goesL_ (some 8) rfl rfl Tryd.func51 (by kernel_rfl) rfl #[.int .u8 a0_0] rfl (by (try simp only [List.map_toArray, List.map_cons, List.map_nil]); first | done | rfl | (simp only [List.length_drop, List.length_take]; rfl)) ?_; (with_reducible refine (op_Bounds.calls k a0_0 t108 t109 _ ?side1 A2.out).mono ?_); (case side1 => first | exact HG.out | ((repeat (first | exact HG.out | exact Gl.below HG.out HB.out | (with_reducible refine Gl.alloc ?_ _) | (with_reducible refine Gl.drewN ?_ _) | (with_reducible refine Gl.drew ?_))); done) | exact Gl.below HG.out (by repeat (first | (with_reducible first | exact HB.out | apply below_alloc | apply pw_below_drewN | apply below_drew1 | refine below_set ?_ GE107.out) | exact HB.out | exact ⟨HB.out.os, HB.out.tape, HB.out.output, HB.out.size, HB.out.block⟩))); rintro e w15 ⟨rfl, hb⟩; refine ⟨_, rfl, ?_⟩; have n0_ := Aside0.mk (blk_below (g := gb107) (o := .cells #[.int .u8 a0_0, .int .i64 a0_1, .int .i64 a0_2] 42 (0, 0)) (by (with_reducible repeat (first | refine blk_drewN ?_ _ | refine blk_drew ?_ | refine blk_alloc ?_ _)); exact BK107.out) hb); have n1_ := Aside0.mk (below_step (by repeat (first | (with_reducible first | exact HB.out | apply below_alloc | apply pw_below_drewN | apply below_drew1 | refine below_set ?_ GE107.out) | exact HB.out | exact ⟨HB.out.os, HB.out.tape, HB.out.output, HB.out.size, HB.out.block⟩)) hb); clear BK107; clear HB; have BK107 := n0_; have HB := n1_; clear n0_ n1_; (try clear hb); (try clear hb2); (try clear hk); (try clear hi); have hcz16_0 : w15.cell? ⟨gb107, 0, none⟩ = some (.int .u8 a0_0) := (blk_cell BK107.out 0).trans rfl; have hcz16_1 : w15.cell? ⟨gb107, 1, none⟩ = some (.int .i64 a0_1) := (blk_cell BK107.out 1).trans rfl; have hcz16_2 : w15.cell? ⟨gb107, 2, none⟩ = some (.int .i64 a0_2) := (blk_cell BK107.out 2).trans rfl; have hfz16_0 := blk_frozen BK107.out 0; have hfz16_1 := blk_frozen BK107.out 1; have hfz16_2 := blk_frozen BK107.out 2))
  go_ret
  exact ⟨by first | rfl | (simp [errW_none, errW_some] <;> rfl) | (simp [*, errW_none, errW_some] <;> rfl), by repeat (first | (with_reducible first | exact HB.out | apply below_alloc | apply pw_below_drewN | apply below_drew1 | refine below_set ?_ GE107.out) | exact HB.out | exact ⟨HB.out.os, HB.out.tape, HB.out.output, HB.out.size, HB.out.block⟩)⟩

/-! ### code_Read: function 9 -/
/-- A reader's two cells. -/
def CRd (W : World) (g : Nat) (A : Option Addr) (n c : Nat) (a : Int) : Prop := W.heap[g]? = some (.cells #[.slice A n c, .int .i64 a] 58 (0, 0))
set_option maxHeartbeats 8000000 in
set_option maxRecDepth 100000 in
theorem code_reader_number.ok (k g base : Nat) (A : Option Addr) (c : Nat) (l : List Int) (a wd r1 r2 : Int) (w : World) (hg : base ≤ g) (hM : CRd w g A l.length c a) (hr : Kd.C (Kd.int .u8) w A l.length l) (hc : l.length ≤ c) (h : octet_Get.f k l a wd = some (r1, r2, 0)) :
    Calls Tryd.prog 25 #[.pointer (some ⟨g, 0, none⟩), .int .i64 wd] w fun er w' => er = .returned (.int .i64 r1) ∧ CRd w' g A l.length c r2 ∧ KeepBut w w' g none ∧ Below base w w' := by
  have HM := Aside0.mk hM
  have HR := Aside0.mk hr
  have HC := Aside0.mk hc
  have HQ := Aside0.mk h
  have hlt := blk_lt hM
  have d0 := blk_cell hM 0
  have d1 := blk_cell hM 1
  clear hM hr hc h
  go_enter Tryd.func25, Tryd.ntmps25
  go_wp2
  go_region_with (go_at_call 50; (refine (octet_Get.calls k A c l a wd r1 r2 0 _ (Kd.C_drew HR.out) HC.out HQ.out).mono ?_); rintro e w1 ⟨rfl, hb⟩; have HB := Aside0.mk ((Below.drew (Below.refl w.heap.size w)).trans hb); have hk := (HB.out.block g hlt).trans HM.out; have e0 := blk_cell hk 0; have e1 := blk_cell hk 1; have f1 := blk_frozen hk 1; have HK := Aside0.mk hk; clear hk hb)
  all_goals
    go_wp2
    go_ret
    exact ⟨rfl, blk_put HK.out 1 _ rfl, (KeepBut.of_below HB.out g none).set_ 1 _, (HB.out.mono (by omega)).setCell (p := ⟨g, 1, none⟩) hg _⟩
set_option maxHeartbeats 8000000 in
set_option maxRecDepth 100000 in
theorem code_reader_number.bad (k g base : Nat) (A : Option Addr) (c : Nat) (l : List Int) (a wd r1 r2 r3 : Int) (w : World) (hg : base ≤ g) (hM : CRd w g A l.length c a) (hr : Kd.C (Kd.int .u8) w A l.length l) (hc : l.length ≤ c) (h3 : r3 ≠ 0) (h : octet_Get.f k l a wd = some (r1, r2, r3)) :
    Calls Tryd.prog 25 #[.pointer (some ⟨g, 0, none⟩), .int .i64 wd] w fun er w' => er = .panicked [CWr r3] ∧ Below w.heap.size w w' := by
  have HM := Aside0.mk hM
  have HR := Aside0.mk hr
  have HC := Aside0.mk hc
  have HQ := Aside0.mk h
  have hlt := blk_lt hM
  have d0 := blk_cell hM 0
  have d1 := blk_cell hM 1
  have hn : (r3 != 0) = true := by rw [bne_iff_ne]; exact h3
  clear hM hr hc h
  go_enter Tryd.func25, Tryd.ntmps25
  go_wp2
  go_region_with (go_at_call 50; (refine (octet_Get.calls k A c l a wd r1 r2 r3 _ (Kd.C_drew HR.out) HC.out HQ.out).mono ?_); rintro e w1 ⟨rfl, hb⟩; have HB := Aside0.mk ((Below.drew (Below.refl w.heap.size w)).trans hb); have hk := (HB.out.block g hlt).trans HM.out; have e0 := blk_cell hk 0; have e1 := blk_cell hk 1; have f1 := blk_frozen hk 1; have HK := Aside0.mk hk; clear hk hb)
  all_goals
    go_wp2
    exact ⟨rfl, rfl, HB.out⟩
theorem code_Read.asserts (v : Value) (w : World) : (Instr.typeAssert (.iface 54 v) 20 54 true).run Tryd.prog w = .ok (.tuple #[v, .bool true]) w := by
  simp [Instr.typeAssert, run_underlying Tryd.underlying54, go_sem, Result.andThen]
set_option maxHeartbeats 8000000 in
set_option maxRecDepth 100000 in
theorem code_Read.caught (n : Nat) (e : Int) (v0 v1 v2 : Value) (older : List PanicEntry) (w : World) (h0 : w.heap[n]? = some (.cells #[v0] 23 (0, 0))) (h1 : w.heap[n + 1]? = some (.cells #[v1] 3 (0, 0))) (h2 : w.heap[n + 1 + 1]? = some (.cells #[v2] 24 (0, 0))) :
    CallsD Tryd.prog 24 #[.pointer (some ⟨n, 0, none⟩), .pointer (some ⟨n + 1, 0, none⟩), .pointer (some ⟨n + 1 + 1, 0, none⟩)] (.panicking (CWr e :: older)) w fun er u' w' => er = .returned (.tuple #[]) ∧ u' = .panicking ({ v := .iface 54 (.agg #[.int .i64 e]), recovered := true } :: older) ∧ w'.heap[n]? = some (.cells #[.slice none 0 0] 23 (0, 0)) ∧ w'.heap[n + 1]? = some (.cells #[.int .i64 0] 3 (0, 0)) ∧ w'.heap[n + 1 + 1]? = some (.cells #[.int .i64 e] 24 (0, 0)) ∧ Below n w w' := by
  have H0 := Aside0.mk h0
  have H1 := Aside0.mk h1
  have H2 := Aside0.mk h2
  clear h0 h1 h2
  refine callsD_of_wpS Tryd.func24 rfl fun c₀ cs hu => ?_
  simp only [Tryd.ntmps24, List.size_toArray, List.length_cons, List.length_nil, Nat.reduceAdd, Nat.reduceSub, Array.replicate_succ, Array.replicate_zero, List.push_toArray, List.append_toArray, List.nil_append, List.cons_append]
  apply wpS_seq
  apply wpS_region
  simp [wpOpsS, go_sem, recoverD, hu, Tryd.ntmps24, Exit.thenS]
  refine wpS_of_wp ?_
  have hta := code_Read.asserts
  go_wp2
  have L0 := blk_lt H0.out
  have L1 := blk_lt H1.out
  have L2 := blk_lt H2.out
  have b0 := blk_alloc H0.out (.cells #[.int .i64 e] 54)
  have b1 := blk_alloc H1.out (.cells #[.int .i64 e] 54)
  have b2 := blk_alloc H2.out (.cells #[.int .i64 e] 54)
  have b3 := blk_new w (.cells #[.int .i64 e] 54)
  generalize hW : w.alloc (.cells #[.int .i64 e] 54) = W at *
  have B := Aside0.mk (show Below n w W by rw [← hW]; exact (Below.refl n w).alloc (Nat.le_of_lt L0) _)
  have c0 := blk_cell b0 0
  have c1 := blk_cell b1 0
  have c2 := blk_cell b2 0
  have c3 := blk_cell b3 0
  have f0 := blk_frozen b0 0
  have f1 := blk_frozen b1 0
  have f2 := blk_frozen b2 0
  have B0 := Aside0.mk b0
  have B1 := Aside0.mk b1
  have B2 := Aside0.mk b2
  have n3 : ¬ (n = w.heap.size) := Nat.ne_of_lt L0
  have n4 : ¬ (n + 1 = w.heap.size) := Nat.ne_of_lt L1
  have n5 : ¬ (w.heap.size = n) := fun h => n3 h.symm
  have n6 : ¬ (w.heap.size = n + 1) := fun h => n4 h.symm
  clear b0 b1 b2 b3 hW
  go_region_with (fail)
  all_goals
    go_wp2
    refine ⟨rfl, _, rfl, .tuple #[], by simp [results, Tryd.results24, go_sem], rfl, rfl, ?_, ?_, ?_, ?_⟩
    · exact blk_drew (blk_far (blk_far (blk_put B0.out 0 _ rfl) (p := ⟨n + 1, 0, none⟩) (by show n ≠ n + 1; omega) _) (p := ⟨n + 1 + 1, 0, none⟩) (by show n ≠ n + 1 + 1; omega) _)
    · exact blk_drew (blk_far (blk_put (blk_far B1.out (p := ⟨n, 0, none⟩) (by show n + 1 ≠ n; omega) _) 0 _ rfl) (p := ⟨n + 1 + 1, 0, none⟩) (by show n + 1 ≠ n + 1 + 1; omega) _)
    · exact blk_drew (blk_put (blk_far (blk_far B2.out (p := ⟨n, 0, none⟩) (by show n + 1 + 1 ≠ n; omega) _) (p := ⟨n + 1, 0, none⟩) (by show n + 1 + 1 ≠ n + 1; omega) _) 0 _ rfl)
    · exact (((B.out.setCell (p := ⟨n, 0, none⟩) (Nat.le_refl n) _).setCell (p := ⟨n + 1, 0, none⟩) (by show n ≤ n + 1; omega) _).setCell (p := ⟨n + 1 + 1, 0, none⟩) (by show n ≤ n + 1 + 1; omega) _).drew
set_option maxHeartbeats 8000000 in
set_option maxRecDepth 100000 in
theorem code_Read.idle (a b c : Value) (w : World) : CallsD Tryd.prog 24 #[a, b, c] .returning w fun er u' w' => er = .returned (.tuple #[]) ∧ u' = .returning ∧ w' = w := by
  refine callsD_of_wpS Tryd.func24 rfl fun c₀ cs hu => ?_
  simp only [Tryd.ntmps24, List.size_toArray, List.length_cons, List.length_nil, Nat.reduceAdd, Nat.reduceSub, Array.replicate_succ, Array.replicate_zero, List.push_toArray, List.append_toArray, List.nil_append, List.cons_append]
  apply wpS_seq
  apply wpS_region
  simp [wpOpsS, go_sem, recoverD, hu, Tryd.ntmps24, Exit.thenS]
  refine wpS_of_wp ?_
  go_wp2
  refine ⟨rfl, _, by cases c₀; simp_all, .tuple #[], by simp [results, Tryd.results24, go_sem], rfl, rfl, rfl⟩
def code_Read.l0 (k : Nat) (l : List Int) : Nat → Int → List S42 → Option (List S42 × Int × Int)
  | 0, a, acc => some (acc, a, 0)
  | d + 1, a, acc => (octet_Get.f k l a 1).bind fun g => if g.2.2 = 0 then (op_Known.f (g.1 % 256)).bind fun kn => if kn = true then (code_wide.f k (g.1 % 256)).bind fun wd => if wd = true then (octet_Get.f k l g.2.1 2).bind fun h => if h.2.2 = 0 then (op_May.f k (g.1 % 256) h.1 0).bind fun my => if my = true then (if acc.length < 1000 then code_Read.l0 k l d h.2.1 (acc ++ [⟨g.1 % 256, h.1, 0⟩]) else none) else some ([], 0, 40) else some ([], 0, h.2.2)
      else (op_May.f k (g.1 % 256) 0 0).bind fun my => if my = true then (if acc.length < 1000 then code_Read.l0 k l d g.2.1 (acc ++ [⟨g.1 % 256, 0, 0⟩]) else none) else some ([], 0, 40) else some ([], 0, 40) else some ([], 0, g.2.2)
def code_Read.f (k : Nat) (l : List Int) (a : Int) : Option (List S42 × Int × Int) :=
  (octet_Get.f k l a 1).bind fun g => if g.2.2 = 0 then (if 0 < g.1 ∧ g.1 ≤ 200 then code_Read.l0 k l g.1.toNat g.2.1 [] else some ([], 0, 40)) else some ([], 0, g.2.2)
theorem code_Read.mono_l0 (l : List Int) : ∀ (d k : Nat) (a : Int) (acc : List S42), LeO (code_Read.l0 k l d a acc) (code_Read.l0 (k + 1) l d a acc) := by
  intro d
  induction d with
  | zero => intro k a acc; exact LeO.refl _
  | succ d ih =>
    intro k a acc
    simp only [code_Read.l0]
    exact LeO.bind (octet_Get.mono _ _ _ _) fun g => LeO.ite (LeO.bind (LeO.refl _) fun kn => LeO.ite (LeO.bind (code_wide.mono _ _) fun wd => LeO.ite (LeO.bind (octet_Get.mono _ _ _ _) fun h => LeO.ite (LeO.bind (op_May.mono _ _ _ _) fun my => LeO.ite (LeO.ite (ih _ _ _) (LeO.refl _)) (LeO.refl _)) (LeO.refl _)) (LeO.bind (op_May.mono _ _ _ _) fun my => LeO.ite (LeO.ite (ih _ _ _) (LeO.refl _)) (LeO.refl _))) (LeO.refl _)) (LeO.refl _)
theorem code_Read.mono : ∀ a0 a1 k, LeO (code_Read.f k a0 a1) (code_Read.f (k + 1) a0 a1) := by
  intro l a k
  unfold code_Read.f
  exact LeO.bind (octet_Get.mono _ _ _ _) fun g => LeO.ite (LeO.ite (code_Read.mono_l0 _ _ _ _ _) (LeO.refl _)) (LeO.refl _)
/-- The blocks of the three results, and of the reader. -/
def CSt (w W : World) (A : Option Addr) (m c : Nat) (a : Int) (v : Value) (xs : List S42) : Prop :=
  CRd W (w.heap.size + 1 + 1 + 1) A m c a ∧ W.heap[w.heap.size]? = some (.cells #[v] 23 (0, 0)) ∧ W.heap[w.heap.size + 1]? = some (.cells #[.int .i64 0] 3 (0, 0)) ∧ W.heap[w.heap.size + 1 + 1]? = some (.cells #[.int .i64 0] 24 (0, 0)) ∧ Below w.heap.size w W ∧ Kd.R k42 42 W w.heap.size (fun k => k ≠ w.heap.size ∧ k ≠ w.heap.size + 1 ∧ k ≠ w.heap.size + 1 + 1 ∧ k ≠ w.heap.size + 1 + 1 + 1) v xs
theorem CSt.zero (w : World) (A : Option Addr) (m c : Nat) (a : Int) : CSt w ((((w.alloc (.cells #[.slice none 0 0] 23)).alloc (.cells #[.int .i64 0] 3)).alloc (.cells #[.int .i64 0] 24)).alloc (.cells #[.slice A m c, .int .i64 a] 58)) A m c a (.slice none 0 0) [] := by
  have h1 := blk_new (w.alloc (.cells #[.slice none 0 0] 23)) (.cells #[.int .i64 0] 3)
  have h2 := blk_new ((w.alloc (.cells #[.slice none 0 0] 23)).alloc (.cells #[.int .i64 0] 3)) (.cells #[.int .i64 0] 24)
  have h3 := blk_new (((w.alloc (.cells #[.slice none 0 0] 23)).alloc (.cells #[.int .i64 0] 3)).alloc (.cells #[.int .i64 0] 24)) (.cells #[.slice A m c, .int .i64 a] 58)
  rw [World.size_alloc] at h1
  rw [World.size_alloc, World.size_alloc] at h2
  rw [World.size_alloc, World.size_alloc, World.size_alloc] at h3
  exact ⟨h3, blk_alloc (blk_alloc (blk_alloc (blk_new w _) _) _) _, blk_alloc (blk_alloc h1 _) _, blk_alloc h2 _, below_alloc (below_alloc (below_alloc (below_alloc (Below.refl w.heap.size w) _) _) _) _, Kd.R_nil _ _ _ _ _⟩
theorem CSt.num {w W : World} {A : Option Addr} {c : Nat} {a : Int} {v : Value} {xs : List S42} {l : List Int} (k : Nat) (wd r1 r2 : Int) (hS : CSt w W A l.length c a v xs) (hr : Kd.C (Kd.int .u8) w A l.length l) (hc : l.length ≤ c) (h : octet_Get.f k l a wd = some (r1, r2, 0)) :
    Calls Tryd.prog 25 #[.pointer (some ⟨w.heap.size + 1 + 1 + 1, 0, none⟩), .int .i64 wd] W fun er w' => er = .returned (.int .i64 r1) ∧ CSt w w' A l.length c r2 v xs ∧ KeepBut W w' (w.heap.size + 1 + 1 + 1) none := by
  obtain ⟨h1, h2, h3, h4, h5, h6⟩ := hS
  refine (code_reader_number.ok k (w.heap.size + 1 + 1 + 1) w.heap.size A c l a wd r1 r2 W (by omega) h1 (Kd.C_below hr h5) hc h).mono ?_
  rintro er w' ⟨rfl, hm, hk, hb⟩
  exact ⟨rfl, ⟨hm, hk.blk h2 (by omega) (by simp), hk.blk h3 (by omega) (by simp), hk.blk h4 (by omega) (by simp), h5.trans hb, Kd.R_keep h6 hk (fun _ h => h.2.2.2)⟩, hk⟩
theorem CSt.bad {w W : World} {A : Option Addr} {c : Nat} {a : Int} {v : Value} {xs : List S42} {l : List Int} (k : Nat) (wd r1 r2 r3 : Int) (hS : CSt w W A l.length c a v xs) (hr : Kd.C (Kd.int .u8) w A l.length l) (hc : l.length ≤ c) (h3 : r3 ≠ 0) (h : octet_Get.f k l a wd = some (r1, r2, r3)) :
    Calls Tryd.prog 25 #[.pointer (some ⟨w.heap.size + 1 + 1 + 1, 0, none⟩), .int .i64 wd] W fun er w' => er = .panicked [CWr r3] ∧ CSt w w' A l.length c a v xs := by
  obtain ⟨h1, h2, h3_, h4, h5, h6⟩ := hS
  refine (code_reader_number.bad k (w.heap.size + 1 + 1 + 1) w.heap.size A c l a wd r1 r2 r3 W (by omega) h1 (Kd.C_below hr h5) hc h3 h).mono ?_
  rintro er w' ⟨rfl, hb⟩
  exact ⟨rfl, blk_below h1 hb, blk_below h2 hb, blk_below h3_ hb, blk_below h4 hb, h5.trans (hb.mono h5.size), Kd.R_below h6 hb⟩
theorem CSt.below {w W W2 : World} {A : Option Addr} {m c : Nat} {a : Int} {v : Value} {xs : List S42} (hS : CSt w W A m c a v xs) (hb : Below W.heap.size W W2) : CSt w W2 A m c a v xs := by
  obtain ⟨h1, h2, h3, h4, h5, h6⟩ := hS
  exact ⟨blk_below h1 hb, blk_below h2 hb, blk_below h3 hb, blk_below h4 hb, h5.trans (hb.mono h5.size), Kd.R_below h6 hb⟩
/-- And the block of the instruction that is being read. -/
def CSp (w W : World) (A : Option Addr) (m c : Nat) (a : Int) (v : Value) (xs : List S42) (p : Nat) (x y : Int) : Prop :=
  CSt w W A m c a v xs ∧ Kd.R k42 42 W w.heap.size (fun k => (k ≠ w.heap.size ∧ k ≠ w.heap.size + 1 ∧ k ≠ w.heap.size + 1 + 1 ∧ k ≠ w.heap.size + 1 + 1 + 1) ∧ k ≠ p) v xs ∧ W.heap[p]? = some (.cells #[.int .u8 x, .int .i64 y, .int .i64 0] 42 (0, 0)) ∧ w.heap.size + 1 + 1 + 1 < p
theorem CSp.new {w W : World} {A : Option Addr} {m c : Nat} {a : Int} {v : Value} {xs : List S42} (hS : CSt w W A m c a v xs) (x : Int) : CSp w (W.alloc (.cells #[.int .u8 x, .int .i64 0, .int .i64 0] 42)) A m c a v xs W.heap.size x 0 :=
  ⟨hS.below (Below.alloc (Below.refl W.heap.size W) (Nat.le_refl _) _), Kd.R_mono (Kd.R_alloc (Kd.R_bound hS.2.2.2.2.2) _) (fun k h => ⟨h.1, Nat.ne_of_lt h.2.2.1⟩), blk_new W _, blk_lt hS.1⟩
theorem CSp.below {w W W2 : World} {A : Option Addr} {m c : Nat} {a : Int} {v : Value} {xs : List S42} {p : Nat} {x y : Int} (hS : CSp w W A m c a v xs p x y) (hb : Below W.heap.size W W2) : CSp w W2 A m c a v xs p x y :=
  ⟨hS.1.below hb, Kd.R_below hS.2.1 hb, blk_below hS.2.2.1 hb, hS.2.2.2⟩
theorem CSp.num {w W : World} {A : Option Addr} {c : Nat} {a : Int} {v : Value} {xs : List S42} {l : List Int} {p : Nat} {x y : Int} (k : Nat) (wd r1 r2 : Int) (hS : CSp w W A l.length c a v xs p x y) (hr : Kd.C (Kd.int .u8) w A l.length l) (hc : l.length ≤ c) (h : octet_Get.f k l a wd = some (r1, r2, 0)) :
    Calls Tryd.prog 25 #[.pointer (some ⟨w.heap.size + 1 + 1 + 1, 0, none⟩), .int .i64 wd] W fun er w' => er = .returned (.int .i64 r1) ∧ CSp w w' A l.length c r2 v xs p x y := by
  refine (CSt.num k wd r1 r2 hS.1 hr hc h).mono ?_
  rintro er w' ⟨rfl, h1, hk⟩
  have hp := hS.2.2.2
  exact ⟨rfl, h1, Kd.R_keep hS.2.1 hk (fun _ h => h.1.2.2.2), hk.blk hS.2.2.1 (by omega) (by simp), hp⟩
theorem CSp.put {w W : World} {A : Option Addr} {m c : Nat} {a : Int} {v : Value} {xs : List S42} {p : Nat} {x y : Int} (hS : CSp w W A m c a v xs p x y) (z : Int) : CSp w (W.setCell ⟨p, 1, none⟩ (.int .i64 z)) A m c a v xs p x z := by
  obtain ⟨⟨h1, h2, h3, h4, h5, h6⟩, h7, h8, h9⟩ := hS
  exact ⟨⟨blk_far h1 (p := ⟨p, 1, none⟩) (by show _ ≠ p; omega) _, blk_far h2 (p := ⟨p, 1, none⟩) (by show _ ≠ p; omega) _, blk_far h3 (p := ⟨p, 1, none⟩) (by show _ ≠ p; omega) _, blk_far h4 (p := ⟨p, 1, none⟩) (by show _ ≠ p; omega) _, h5.setCell (p := ⟨p, 1, none⟩) (by show _ ≤ p; omega) _, Kd.R_mono (Kd.R_far (p := ⟨p, 1, none⟩) h7 (fun _ h => h.2) _) (fun _ h => h.1)⟩, Kd.R_far (p := ⟨p, 1, none⟩) h7 (fun _ h => h.2) _, blk_put h8 1 _ rfl, h9⟩
theorem CSt.app {w W w9 : World} {A : Option Addr} {m c : Nat} {a : Int} {v v9 : Value} {xs ys : List S42} (hS : CSt w W A m c a v xs) (hg : W.grownBy w9 v.ownBlock) (hb : Below w.heap.size w w9) (hR : Kd.R k42 42 w9 w.heap.size (fun k => k ≠ w.heap.size ∧ k ≠ w.heap.size + 1 ∧ k ≠ w.heap.size + 1 + 1 ∧ k ≠ w.heap.size + 1 + 1 + 1) v9 ys) : CSt w (w9.setCell ⟨w.heap.size, 0, none⟩ v9) A m c a v9 ys := by
  obtain ⟨h1, h2, h3, h4, h5, h6⟩ := hS
  exact ⟨blk_far (blk_grown h1 hg (fun e => (h6.1 _ e.symm).2.2.2 rfl)) (p := ⟨w.heap.size, 0, none⟩) (by show _ ≠ w.heap.size; omega) _, blk_put (blk_grown h2 hg (fun e => (h6.1 _ e.symm).1 rfl)) 0 _ rfl, blk_far (blk_grown h3 hg (fun e => (h6.1 _ e.symm).2.1 rfl)) (p := ⟨w.heap.size, 0, none⟩) (by show _ ≠ w.heap.size; omega) _, blk_far (blk_grown h4 hg (fun e => (h6.1 _ e.symm).2.2.1 rfl)) (p := ⟨w.heap.size, 0, none⟩) (by show _ ≠ w.heap.size; omega) _, hb.setCell (p := ⟨w.heap.size, 0, none⟩) (Nat.le_refl _) _, Kd.R_far (p := ⟨w.heap.size, 0, none⟩) hR (fun _ h => h.1) _⟩
set_option maxHeartbeats 8000000 in
set_option maxRecDepth 100000 in
theorem code_Read.calls (k : Nat) (A0 : Option Addr) (c0 : Nat) (l0 : List Int) (a1 : Int) (r1 : List (S42)) (r2 : Int) (r3 : Int) (w : World) (hG : Gl w) (hr0 : Kd.C (Kd.int .u8) w A0 l0.length l0) (hc0 : l0.length ≤ c0) (h : code_Read.f k l0 a1 = some (r1, r2, r3)) :
    Calls Tryd.prog 9 #[.slice A0 l0.length c0, .int .i64 a1] w fun e w' => ∃ v0_ : Value, e = .returned (.tuple #[v0_, .int .i64 r2, .int .i64 r3]) ∧ Kd.R k42 42 w' w.heap.size (fun _ => True) v0_ r1 ∧ Below w.heap.size w w' := by
  unfold code_Read.f at h
  obtain ⟨⟨g1, g2, g3⟩, hg, h⟩ := Option.bind_eq_some_iff.mp h
  dsimp only at h
  have HG := Aside0.mk hG
  have HR := Aside0.mk hr0
  have HC := Aside0.mk hc0
  have HQ := Aside0.mk hg
  clear hG hr0 hc0 hg
  have Z0 := Aside0.mk (CSt.zero w A0 l0.length c0 a1)
  have hmf : ∀ (fn : Fn) (first cap : Array Value) (w : World), (Instr.makeFunc fn first cap).run Tryd.prog w = .ok (.func fn first cap) w := fun _ _ _ _ => rfl
  by_cases h3 : g3 = 0
  case neg =>
    rw [if_neg h3] at h
    simp only [Option.some.injEq, Prod.mk.injEq] at h
    obtain ⟨rfl, rfl, rfl⟩ := h
    go_enter_defers Tryd.func9, Tryd.ntmps9
    go_wp2_with (first | (go_at_call 25; (refine (CSt.bad k 1 g1 g2 g3 Z0.out HR.out HC.out h3 HQ.out).mono ?_); rintro er w1 ⟨rfl, hS⟩; have S1 := Aside0.mk hS; clear hS))
    refine leaves_cons (f := 24) (args := #[.pointer (some ⟨w.heap.size, 0, none⟩), .pointer (some ⟨w.heap.size + 1, 0, none⟩), .pointer (some ⟨w.heap.size + 1 + 1, 0, none⟩)]) (by simp) (by simp [go_sem]) ?_
    refine (code_Read.caught w.heap.size g3 _ _ _ [] _ S1.out.2.1 S1.out.2.2.1 S1.out.2.2.2.1).mono ?_
    rintro er u' w'' ⟨rfl, rfl, y0, y1, y2, yb⟩
    have t0_ := blk_cell y0 0
    have t1_ := blk_cell y1 0
    have t2_ := blk_cell y2 0
    simp [Leaves, settle, results, Tryd.results9, go_sem, t0_, t1_, t2_]
    first | exact ⟨Kd.R_nil _ _ _ _ _, S1.out.2.2.2.2.1.trans yb⟩ | exact ⟨_, ⟨rfl, Kd.R_nil _ _ _ _ _⟩, S1.out.2.2.2.2.1.trans yb⟩
  subst h3
  rw [if_pos rfl] at h
  by_cases hm : 0 < g1 ∧ g1 ≤ 200
  case neg =>
    rw [if_neg hm] at h
    simp only [Option.some.injEq, Prod.mk.injEq] at h
    obtain ⟨rfl, rfl, rfl⟩ := h
    by_cases h4 : 0 < g1
    · have h5 : decide (g1 ≤ 200) = false := decide_eq_false fun h => hm ⟨h4, h⟩
      go_enter_defers Tryd.func9, Tryd.ntmps9
      go_wp2_with (first | (go_at_call 25; (refine (CSt.num k 1 g1 g2 Z0.out HR.out HC.out HQ.out).mono ?_); rintro er w1 ⟨rfl, hS, hk⟩; have S1 := Aside0.mk hS; clear hS hk) | (go_at_call 26; (refine (code_must.bad _).mono ?_); rintro er w2 ⟨rfl, rfl⟩))
      refine leaves_cons (f := 24) (args := #[.pointer (some ⟨w.heap.size, 0, none⟩), .pointer (some ⟨w.heap.size + 1, 0, none⟩), .pointer (some ⟨w.heap.size + 1 + 1, 0, none⟩)]) (by simp) (by simp [go_sem]) ?_
      refine (code_Read.caught w.heap.size 40 _ _ _ [] _ S1.out.2.1 S1.out.2.2.1 S1.out.2.2.2.1).mono ?_
      rintro er u' w'' ⟨rfl, rfl, y0, y1, y2, yb⟩
      have t0_ := blk_cell y0 0
      have t1_ := blk_cell y1 0
      have t2_ := blk_cell y2 0
      simp [Leaves, settle, results, Tryd.results9, go_sem, t0_, t1_, t2_]
      first | exact ⟨Kd.R_nil _ _ _ _ _, S1.out.2.2.2.2.1.trans yb⟩ | exact ⟨_, ⟨rfl, Kd.R_nil _ _ _ _ _⟩, S1.out.2.2.2.2.1.trans yb⟩
    · go_enter_defers Tryd.func9, Tryd.ntmps9
      go_wp2_with (first | (go_at_call 25; (refine (CSt.num k 1 g1 g2 Z0.out HR.out HC.out HQ.out).mono ?_); rintro er w1 ⟨rfl, hS, hk⟩; have S1 := Aside0.mk hS; clear hS hk) | (go_at_call 26; (refine (code_must.bad _).mono ?_); rintro er w2 ⟨rfl, rfl⟩))
      refine leaves_cons (f := 24) (args := #[.pointer (some ⟨w.heap.size, 0, none⟩), .pointer (some ⟨w.heap.size + 1, 0, none⟩), .pointer (some ⟨w.heap.size + 1 + 1, 0, none⟩)]) (by simp) (by simp [go_sem]) ?_
      refine (code_Read.caught w.heap.size 40 _ _ _ [] _ S1.out.2.1 S1.out.2.2.1 S1.out.2.2.2.1).mono ?_
      rintro er u' w'' ⟨rfl, rfl, y0, y1, y2, yb⟩
      have t0_ := blk_cell y0 0
      have t1_ := blk_cell y1 0
      have t2_ := blk_cell y2 0
      simp [Leaves, settle, results, Tryd.results9, go_sem, t0_, t1_, t2_]
      first | exact ⟨Kd.R_nil _ _ _ _ _, S1.out.2.2.2.2.1.trans yb⟩ | exact ⟨_, ⟨rfl, Kd.R_nil _ _ _ _ _⟩, S1.out.2.2.2.2.1.trans yb⟩
  rw [if_pos hm] at h
  obtain ⟨hm1, hm2⟩ := hm
  have HH := Aside0.mk h
  clear h
  go_enter_defers Tryd.func9, Tryd.ntmps9
  go_wp2_with (first | ((fail_if_success (have h_ := S1)); go_at_call 25; (refine (CSt.num k 1 g1 g2 Z0.out HR.out HC.out HQ.out).mono ?_); rintro er w1 ⟨rfl, hS, hk⟩; have S1 := Aside0.mk hS; clear hS hk) | (go_at_call 26; (refine (code_must.ok _).mono ?_); rintro er w2 ⟨rfl, rfl⟩))
  go_loopw [25] (fun u wr => ∃ (i : Nat) (a : Int) (acc : List S42) (v : Value), u = .int .i64 (i : Int) ∧ i ≤ g1.toNat ∧ Aside0 (code_Read.l0 k l0 (g1.toNat - i) a acc = some (r1, r2, r3)) ∧ Aside0 (CSt w wr A0 l0.length c0 a v acc))
    (fun u _ => g1.toNat - (intOf u).toNat)
  case atStart => exact ⟨0, g2, [], _, rfl, Nat.zero_le _, HH, S1⟩
  case round =>
    obtain ⟨i, a, acc, v, rfl, hi, HL, HS⟩ := hrel
    obtain ⟨Av, cv, rfl⟩ := Kd.R_slice HS.out.2.2.2.2.2
    by_cases hlt : (i : Int) < g1
    · have hl := HL.out
      rw [show g1.toNat - i = (g1.toNat - (i + 1)) + 1 by omega, code_Read.l0] at hl
      obtain ⟨⟨x1, x2, x3⟩, hx, hl⟩ := Option.bind_eq_some_iff.mp hl
      dsimp only at hl
      have HX := Aside0.mk hx
      clear hx HL
      by_cases e3 : x3 = 0
      case neg =>
        rw [if_neg e3] at hl
        simp only [Option.some.injEq, Prod.mk.injEq] at hl
        obtain ⟨rfl, rfl, rfl⟩ := hl
        go_wp2_with (first | ((fail_if_success (have h_ := M1)); go_at_call 25; (refine (CSt.bad k 1 x1 x2 x3 HS.out HR.out HC.out e3 HX.out).mono ?_); rintro er w1 ⟨rfl, hS⟩; have S1 := Aside0.mk hS; clear hS))
        refine leaves_cons (f := 24) (args := #[.pointer (some ⟨w.heap.size, 0, none⟩), .pointer (some ⟨w.heap.size + 1, 0, none⟩), .pointer (some ⟨w.heap.size + 1 + 1, 0, none⟩)]) (by simp) (by simp [go_sem]) ?_
        refine (code_Read.caught w.heap.size x3 _ _ _ [] _ S1.out.2.1 S1.out.2.2.1 S1.out.2.2.2.1).mono ?_
        rintro er u' w'' ⟨rfl, rfl, y0, y1, y2, yb⟩
        have t0_ := blk_cell y0 0
        have t1_ := blk_cell y1 0
        have t2_ := blk_cell y2 0
        simp [Leaves, settle, results, Tryd.results9, go_sem, t0_, t1_, t2_]
        first | exact ⟨Kd.R_nil _ _ _ _ _, S1.out.2.2.2.2.1.trans yb⟩ | exact ⟨_, ⟨rfl, Kd.R_nil _ _ _ _ _⟩, S1.out.2.2.2.2.1.trans yb⟩
      subst e3
      rw [if_pos rfl] at hl
      obtain ⟨kn, hkn, hl⟩ := Option.bind_eq_some_iff.mp hl
      have HKN := Aside0.mk hkn
      clear hkn
      cases kn with
      | false =>
        rw [if_neg (by decide)] at hl
        simp only [Option.some.injEq, Prod.mk.injEq] at hl
        obtain ⟨rfl, rfl, rfl⟩ := hl
        go_wp2_with (first | ((fail_if_success (have h_ := M1)); go_at_call 25; (refine (CSt.num k 1 x1 x2 HS.out HR.out HC.out HX.out).mono ?_); rintro er w1 ⟨rfl, hS, hk⟩; have P1 := Aside0.mk (CSp.new hS (x1 % 256)); have M1 := True.intro; clear hS hk) | (go_at_call 27; (refine (op_Known.calls (x1 % 256) false _ HKN.out).mono ?_); rintro er w2 ⟨rfl, ⟨nd, rfl⟩⟩; have P2 := Aside0.mk (P1.out.below (pw_below_drewN (Below.refl _ _) nd)); have q20 := blk_cell P2.out.2.2.1 0) | ((fail_if_success (have h_ := M2)); go_at_call 26; (refine (code_must.bad _).mono ?_); rintro er w_ ⟨rfl, rfl⟩; have M2 := True.intro))
        refine leaves_cons (f := 24) (args := #[.pointer (some ⟨w.heap.size, 0, none⟩), .pointer (some ⟨w.heap.size + 1, 0, none⟩), .pointer (some ⟨w.heap.size + 1 + 1, 0, none⟩)]) (by simp) (by simp [go_sem]) ?_
        refine (code_Read.caught w.heap.size 40 _ _ _ [] _ P2.out.1.2.1 P2.out.1.2.2.1 P2.out.1.2.2.2.1).mono ?_
        rintro er u' w'' ⟨rfl, rfl, y0, y1, y2, yb⟩
        have t0_ := blk_cell y0 0
        have t1_ := blk_cell y1 0
        have t2_ := blk_cell y2 0
        simp [Leaves, settle, results, Tryd.results9, go_sem, t0_, t1_, t2_]
        first | exact ⟨Kd.R_nil _ _ _ _ _, P2.out.1.2.2.2.2.1.trans yb⟩ | exact ⟨_, ⟨rfl, Kd.R_nil _ _ _ _ _⟩, P2.out.1.2.2.2.2.1.trans yb⟩
      | true =>
        rw [if_pos rfl] at hl
        obtain ⟨wd, hwd, hl⟩ := Option.bind_eq_some_iff.mp hl
        have HW := Aside0.mk hwd
        clear hwd
        cases wd with
        | true =>
          rw [if_pos rfl] at hl
          obtain ⟨⟨y1, y2, y3⟩, hy, hl⟩ := Option.bind_eq_some_iff.mp hl
          dsimp only at hl
          have HY := Aside0.mk hy
          clear hy
          by_cases e5 : y3 = 0
          case neg =>
            rw [if_neg e5] at hl
            simp only [Option.some.injEq, Prod.mk.injEq] at hl
            obtain ⟨rfl, rfl, rfl⟩ := hl
            go_wp2_with (first | ((fail_if_success (have h_ := M1)); go_at_call 25; (refine (CSt.num k 1 x1 x2 HS.out HR.out HC.out HX.out).mono ?_); rintro er w1 ⟨rfl, hS, hk⟩; have P1 := Aside0.mk (CSp.new hS (x1 % 256)); have M1 := True.intro; clear hS hk) | (go_at_call 27; (refine (op_Known.calls (x1 % 256) true _ HKN.out).mono ?_); rintro er w2 ⟨rfl, ⟨nd, rfl⟩⟩; have P2 := Aside0.mk (P1.out.below (pw_below_drewN (Below.refl _ _) nd)); have q20 := blk_cell P2.out.2.2.1 0) | ((fail_if_success (have h_ := M2)); go_at_call 26; (refine (code_must.ok _).mono ?_); rintro er w_ ⟨rfl, rfl⟩; have M2 := True.intro) | (go_at_call 28; (refine (code_wide.calls k (x1 % 256) true _ (Gl.below HG.out P2.out.1.2.2.2.2.1) HW.out).mono ?_); rintro er w4 ⟨rfl, hb⟩; have P4 := Aside0.mk (P2.out.below hb); have q40 := blk_cell P4.out.2.2.1 0; have q41 := blk_cell P4.out.2.2.1 1; have q42 := blk_cell P4.out.2.2.1 2; clear hb) | ((fail_if_success (have h_ := M5)); go_at_call 25; (refine (CSt.bad k 2 y1 y2 y3 P4.out.1 HR.out HC.out e5 HY.out).mono ?_); rintro er w5 ⟨rfl, hS⟩; have S5 := Aside0.mk hS; clear hS))
            refine leaves_cons (f := 24) (args := #[.pointer (some ⟨w.heap.size, 0, none⟩), .pointer (some ⟨w.heap.size + 1, 0, none⟩), .pointer (some ⟨w.heap.size + 1 + 1, 0, none⟩)]) (by simp) (by simp [go_sem]) ?_
            refine (code_Read.caught w.heap.size y3 _ _ _ [] _ S5.out.2.1 S5.out.2.2.1 S5.out.2.2.2.1).mono ?_
            rintro er u' w'' ⟨rfl, rfl, y0, y1, y2, yb⟩
            have t0_ := blk_cell y0 0
            have t1_ := blk_cell y1 0
            have t2_ := blk_cell y2 0
            simp [Leaves, settle, results, Tryd.results9, go_sem, t0_, t1_, t2_]
            first | exact ⟨Kd.R_nil _ _ _ _ _, S5.out.2.2.2.2.1.trans yb⟩ | exact ⟨_, ⟨rfl, Kd.R_nil _ _ _ _ _⟩, S5.out.2.2.2.2.1.trans yb⟩
          subst e5
          rw [if_pos rfl] at hl
          obtain ⟨my, hmy, hl⟩ := Option.bind_eq_some_iff.mp hl
          have HMY := Aside0.mk hmy
          clear hmy
          cases my with
          | false =>
            rw [if_neg (by decide)] at hl
            simp only [Option.some.injEq, Prod.mk.injEq] at hl
            obtain ⟨rfl, rfl, rfl⟩ := hl
            go_wp2_with (first | ((fail_if_success (have h_ := M1)); go_at_call 25; (refine (CSt.num k 1 x1 x2 HS.out HR.out HC.out HX.out).mono ?_); rintro er w1 ⟨rfl, hS, hk⟩; have P1 := Aside0.mk (CSp.new hS (x1 % 256)); have M1 := True.intro; clear hS hk) | (go_at_call 27; (refine (op_Known.calls (x1 % 256) true _ HKN.out).mono ?_); rintro er w2 ⟨rfl, ⟨nd, rfl⟩⟩; have P2 := Aside0.mk (P1.out.below (pw_below_drewN (Below.refl _ _) nd)); have q20 := blk_cell P2.out.2.2.1 0) | ((fail_if_success (have h_ := M2)); go_at_call 26; (refine (code_must.ok _).mono ?_); rintro er w_ ⟨rfl, rfl⟩; have M2 := True.intro) | (go_at_call 28; (refine (code_wide.calls k (x1 % 256) true _ (Gl.below HG.out P2.out.1.2.2.2.2.1) HW.out).mono ?_); rintro er w4 ⟨rfl, hb⟩; have P4 := Aside0.mk (P2.out.below hb); have q40 := blk_cell P4.out.2.2.1 0; have q41 := blk_cell P4.out.2.2.1 1; have q42 := blk_cell P4.out.2.2.1 2; clear hb) | ((fail_if_success (have h_ := M5)); go_at_call 25; (refine (CSp.num k 2 y1 y2 P4.out HR.out HC.out HY.out).mono ?_); rintro er w5 ⟨rfl, hS⟩; have s51 := blk_cell hS.2.2.1 1; have z51 := blk_frozen hS.2.2.1 1; have P5 := Aside0.mk (hS.put y1); have q50 := blk_cell P5.out.2.2.1 0; have q51 := blk_cell P5.out.2.2.1 1; have q52 := blk_cell P5.out.2.2.1 2; have M5 := True.intro; clear hS) | (go_at_call 29; (refine (op_May.calls k (x1 % 256) y1 0 false _ (Gl.below HG.out P5.out.1.2.2.2.2.1) HMY.out).mono ?_); rintro er w6 ⟨rfl, hb⟩; have P6 := Aside0.mk (P5.out.below hb); have n60 := blk_cell P6.out.1.2.1 0; have q60 := blk_cell P6.out.2.2.1 0; have q61 := blk_cell P6.out.2.2.1 1; have q62 := blk_cell P6.out.2.2.1 2; clear hb) | ((fail_if_success (have h_ := M7)); go_at_call 26; (refine (code_must.bad _).mono ?_); rintro er w_ ⟨rfl, rfl⟩; have M7 := True.intro))
            refine leaves_cons (f := 24) (args := #[.pointer (some ⟨w.heap.size, 0, none⟩), .pointer (some ⟨w.heap.size + 1, 0, none⟩), .pointer (some ⟨w.heap.size + 1 + 1, 0, none⟩)]) (by simp) (by simp [go_sem]) ?_
            refine (code_Read.caught w.heap.size 40 _ _ _ [] _ P6.out.1.2.1 P6.out.1.2.2.1 P6.out.1.2.2.2.1).mono ?_
            rintro er u' w'' ⟨rfl, rfl, y0, y1, y2, yb⟩
            have t0_ := blk_cell y0 0
            have t1_ := blk_cell y1 0
            have t2_ := blk_cell y2 0
            simp [Leaves, settle, results, Tryd.results9, go_sem, t0_, t1_, t2_]
            first | exact ⟨Kd.R_nil _ _ _ _ _, P6.out.1.2.2.2.2.1.trans yb⟩ | exact ⟨_, ⟨rfl, Kd.R_nil _ _ _ _ _⟩, P6.out.1.2.2.2.2.1.trans yb⟩
          | true =>
            rw [if_pos rfl] at hl
            by_cases hla : acc.length < 1000
            case neg => rw [if_neg hla] at hl; cases hl
            rw [if_pos hla] at hl
            have HN := Aside0.mk hl
            clear hl
            go_wp2_with (first | ((fail_if_success (have h_ := M1)); go_at_call 25; (refine (CSt.num k 1 x1 x2 HS.out HR.out HC.out HX.out).mono ?_); rintro er w1 ⟨rfl, hS, hk⟩; have P1 := Aside0.mk (CSp.new hS (x1 % 256)); have M1 := True.intro; clear hS hk) | (go_at_call 27; (refine (op_Known.calls (x1 % 256) true _ HKN.out).mono ?_); rintro er w2 ⟨rfl, ⟨nd, rfl⟩⟩; have P2 := Aside0.mk (P1.out.below (pw_below_drewN (Below.refl _ _) nd)); have q20 := blk_cell P2.out.2.2.1 0) | ((fail_if_success (have h_ := M2)); go_at_call 26; (refine (code_must.ok _).mono ?_); rintro er w_ ⟨rfl, rfl⟩; have M2 := True.intro) | (go_at_call 28; (refine (code_wide.calls k (x1 % 256) true _ (Gl.below HG.out P2.out.1.2.2.2.2.1) HW.out).mono ?_); rintro er w4 ⟨rfl, hb⟩; have P4 := Aside0.mk (P2.out.below hb); have q40 := blk_cell P4.out.2.2.1 0; have q41 := blk_cell P4.out.2.2.1 1; have q42 := blk_cell P4.out.2.2.1 2; clear hb) | ((fail_if_success (have h_ := M5)); go_at_call 25; (refine (CSp.num k 2 y1 y2 P4.out HR.out HC.out HY.out).mono ?_); rintro er w5 ⟨rfl, hS⟩; have s51 := blk_cell hS.2.2.1 1; have z51 := blk_frozen hS.2.2.1 1; have P5 := Aside0.mk (hS.put y1); have q50 := blk_cell P5.out.2.2.1 0; have q51 := blk_cell P5.out.2.2.1 1; have q52 := blk_cell P5.out.2.2.1 2; have M5 := True.intro; clear hS) | (go_at_call 29; (refine (op_May.calls k (x1 % 256) y1 0 true _ (Gl.below HG.out P5.out.1.2.2.2.2.1) HMY.out).mono ?_); rintro er w6 ⟨rfl, hb⟩; have P6 := Aside0.mk (P5.out.below hb); have n60 := blk_cell P6.out.1.2.1 0; have q60 := blk_cell P6.out.2.2.1 0; have q61 := blk_cell P6.out.2.2.1 1; have q62 := blk_cell P6.out.2.2.1 2; clear hb) | ((fail_if_success (have h_ := M7)); go_at_call 26; (refine (code_must.ok _).mono ?_); rintro er w_ ⟨rfl, rfl⟩; have M7 := True.intro) | ((with_reducible refine gate_builtin (b := .append) (xs := #[.tmp 44, .tmp 46]) rfl ?_); at_builtin; refine Kd.R_append k42 (w0 := w) w.heap.size rfl (.tmp 44) (.tmp 46) 23 42 (.agg #[(.int .u8 0), (.int .i64 0), (.int .i64 0)]) 24 rfl Tryd.underlying23 info42 rfl (by decide) (by omega) (.slice Av acc.length cv) acc (⟨x1 % 256, y1, 0⟩ : S42) [.int .u8 (x1 % 256), .int .i64 y1, .int .i64 0] (fun k => k ≠ w.heap.size ∧ k ≠ w.heap.size + 1 ∧ k ≠ w.heap.size + 1 + 1 ∧ k ≠ w.heap.size + 1 + 1 + 1) (fun _ => False) rfl (by first | (go_simp; done) | (go_simp; rfl)) ?aP (fun _ hk => hk.elim) ?aF P6.out.1.2.2.2.2.2 P6.out.1.2.2.2.2.1 P6.out.1.2.2.2.2.1.size ?aL ?_; (case aP => exact k42_mkM _ _ _ (⟨x1 % 256, y1, 0⟩ : S42)); (case aF => exact fun k_ hk => by have h1_ := P6.out.2.2.2; have h2_ := blk_lt P6.out.2.2.1; refine ⟨by omega, by omega, by omega, by omega⟩); (case aL => omega); intro v9 w9 ho hb9 hg hat; obtain ⟨A9, c9, rfl⟩ := Kd.R_slice ho; rw [List.length_append, List.length_singleton] at ho; have hN := blk_grown P6.out.1.2.1 hg (fun e => (P6.out.1.2.2.2.2.2.1 _ e.symm).1 rfl); have n90 := blk_cell hN 0; have z90 := blk_frozen hN 0; have S9 := Aside0.mk (CSt.app P6.out.1 hg hb9 ho); clear hN ho hb9 hg hat))
            go_roundw
            case rel => exact ⟨i + 1, y2, acc ++ [⟨x1 % 256, y1, 0⟩], .slice A9 (acc.length + 1) c9, by first | rfl | (rw [← hw]; done) | simp [hw], by omega, HN, S9⟩
            case measure => simp [intOf]; omega
        | false =>
          rw [if_neg (by decide)] at hl
          obtain ⟨my, hmy, hl⟩ := Option.bind_eq_some_iff.mp hl
          have HMY := Aside0.mk hmy
          clear hmy
          cases my with
          | false =>
            rw [if_neg (by decide)] at hl
            simp only [Option.some.injEq, Prod.mk.injEq] at hl
            obtain ⟨rfl, rfl, rfl⟩ := hl
            go_wp2_with (first | ((fail_if_success (have h_ := M1)); go_at_call 25; (refine (CSt.num k 1 x1 x2 HS.out HR.out HC.out HX.out).mono ?_); rintro er w1 ⟨rfl, hS, hk⟩; have P1 := Aside0.mk (CSp.new hS (x1 % 256)); have M1 := True.intro; clear hS hk) | (go_at_call 27; (refine (op_Known.calls (x1 % 256) true _ HKN.out).mono ?_); rintro er w2 ⟨rfl, ⟨nd, rfl⟩⟩; have P2 := Aside0.mk (P1.out.below (pw_below_drewN (Below.refl _ _) nd)); have q20 := blk_cell P2.out.2.2.1 0) | ((fail_if_success (have h_ := M2)); go_at_call 26; (refine (code_must.ok _).mono ?_); rintro er w_ ⟨rfl, rfl⟩; have M2 := True.intro) | (go_at_call 28; (refine (code_wide.calls k (x1 % 256) false _ (Gl.below HG.out P2.out.1.2.2.2.2.1) HW.out).mono ?_); rintro er w4 ⟨rfl, hb⟩; have P4 := Aside0.mk (P2.out.below hb); have q40 := blk_cell P4.out.2.2.1 0; have q41 := blk_cell P4.out.2.2.1 1; have q42 := blk_cell P4.out.2.2.1 2; clear hb) | (go_at_call 29; (refine (op_May.calls k (x1 % 256) 0 0 false _ (Gl.below HG.out P4.out.1.2.2.2.2.1) HMY.out).mono ?_); rintro er w6 ⟨rfl, hb⟩; have P6 := Aside0.mk (P4.out.below hb); have n60 := blk_cell P6.out.1.2.1 0; have q60 := blk_cell P6.out.2.2.1 0; have q61 := blk_cell P6.out.2.2.1 1; have q62 := blk_cell P6.out.2.2.1 2; clear hb) | ((fail_if_success (have h_ := M7)); go_at_call 26; (refine (code_must.bad _).mono ?_); rintro er w_ ⟨rfl, rfl⟩; have M7 := True.intro))
            refine leaves_cons (f := 24) (args := #[.pointer (some ⟨w.heap.size, 0, none⟩), .pointer (some ⟨w.heap.size + 1, 0, none⟩), .pointer (some ⟨w.heap.size + 1 + 1, 0, none⟩)]) (by simp) (by simp [go_sem]) ?_
            refine (code_Read.caught w.heap.size 40 _ _ _ [] _ P6.out.1.2.1 P6.out.1.2.2.1 P6.out.1.2.2.2.1).mono ?_
            rintro er u' w'' ⟨rfl, rfl, y0, y1, y2, yb⟩
            have t0_ := blk_cell y0 0
            have t1_ := blk_cell y1 0
            have t2_ := blk_cell y2 0
            simp [Leaves, settle, results, Tryd.results9, go_sem, t0_, t1_, t2_]
            first | exact ⟨Kd.R_nil _ _ _ _ _, P6.out.1.2.2.2.2.1.trans yb⟩ | exact ⟨_, ⟨rfl, Kd.R_nil _ _ _ _ _⟩, P6.out.1.2.2.2.2.1.trans yb⟩
          | true =>
            rw [if_pos rfl] at hl
            by_cases hla : acc.length < 1000
            case neg => rw [if_neg hla] at hl; cases hl
            rw [if_pos hla] at hl
            have HN := Aside0.mk hl
            clear hl
            go_wp2_with (first | ((fail_if_success (have h_ := M1)); go_at_call 25; (refine (CSt.num k 1 x1 x2 HS.out HR.out HC.out HX.out).mono ?_); rintro er w1 ⟨rfl, hS, hk⟩; have P1 := Aside0.mk (CSp.new hS (x1 % 256)); have M1 := True.intro; clear hS hk) | (go_at_call 27; (refine (op_Known.calls (x1 % 256) true _ HKN.out).mono ?_); rintro er w2 ⟨rfl, ⟨nd, rfl⟩⟩; have P2 := Aside0.mk (P1.out.below (pw_below_drewN (Below.refl _ _) nd)); have q20 := blk_cell P2.out.2.2.1 0) | ((fail_if_success (have h_ := M2)); go_at_call 26; (refine (code_must.ok _).mono ?_); rintro er w_ ⟨rfl, rfl⟩; have M2 := True.intro) | (go_at_call 28; (refine (code_wide.calls k (x1 % 256) false _ (Gl.below HG.out P2.out.1.2.2.2.2.1) HW.out).mono ?_); rintro er w4 ⟨rfl, hb⟩; have P4 := Aside0.mk (P2.out.below hb); have q40 := blk_cell P4.out.2.2.1 0; have q41 := blk_cell P4.out.2.2.1 1; have q42 := blk_cell P4.out.2.2.1 2; clear hb) | (go_at_call 29; (refine (op_May.calls k (x1 % 256) 0 0 true _ (Gl.below HG.out P4.out.1.2.2.2.2.1) HMY.out).mono ?_); rintro er w6 ⟨rfl, hb⟩; have P6 := Aside0.mk (P4.out.below hb); have n60 := blk_cell P6.out.1.2.1 0; have q60 := blk_cell P6.out.2.2.1 0; have q61 := blk_cell P6.out.2.2.1 1; have q62 := blk_cell P6.out.2.2.1 2; clear hb) | ((fail_if_success (have h_ := M7)); go_at_call 26; (refine (code_must.ok _).mono ?_); rintro er w_ ⟨rfl, rfl⟩; have M7 := True.intro) | ((with_reducible refine gate_builtin (b := .append) (xs := #[.tmp 44, .tmp 46]) rfl ?_); at_builtin; refine Kd.R_append k42 (w0 := w) w.heap.size rfl (.tmp 44) (.tmp 46) 23 42 (.agg #[(.int .u8 0), (.int .i64 0), (.int .i64 0)]) 24 rfl Tryd.underlying23 info42 rfl (by decide) (by omega) (.slice Av acc.length cv) acc (⟨x1 % 256, 0, 0⟩ : S42) [.int .u8 (x1 % 256), .int .i64 0, .int .i64 0] (fun k => k ≠ w.heap.size ∧ k ≠ w.heap.size + 1 ∧ k ≠ w.heap.size + 1 + 1 ∧ k ≠ w.heap.size + 1 + 1 + 1) (fun _ => False) rfl (by first | (go_simp; done) | (go_simp; rfl)) ?aP (fun _ hk => hk.elim) ?aF P6.out.1.2.2.2.2.2 P6.out.1.2.2.2.2.1 P6.out.1.2.2.2.2.1.size ?aL ?_; (case aP => exact k42_mkM _ _ _ (⟨x1 % 256, 0, 0⟩ : S42)); (case aF => exact fun k_ hk => by have h1_ := P6.out.2.2.2; have h2_ := blk_lt P6.out.2.2.1; refine ⟨by omega, by omega, by omega, by omega⟩); (case aL => omega); intro v9 w9 ho hb9 hg hat; obtain ⟨A9, c9, rfl⟩ := Kd.R_slice ho; rw [List.length_append, List.length_singleton] at ho; have hN := blk_grown P6.out.1.2.1 hg (fun e => (P6.out.1.2.2.2.2.2.1 _ e.symm).1 rfl); have n90 := blk_cell hN 0; have z90 := blk_frozen hN 0; have S9 := Aside0.mk (CSt.app P6.out.1 hg hb9 ho); clear hN ho hb9 hg hat))
            go_roundw
            case rel => exact ⟨i + 1, x2, acc ++ [⟨x1 % 256, 0, 0⟩], .slice A9 (acc.length + 1) c9, by first | rfl | (rw [← hw]; done) | simp [hw], by omega, HN, S9⟩
            case measure => simp [intOf]; omega
    · have hl := HL.out
      rw [show g1.toNat - i = 0 by omega, code_Read.l0] at hl
      simp only [Option.some.injEq, Prod.mk.injEq] at hl
      obtain ⟨rfl, rfl, rfl⟩ := hl
      have c0_ := blk_cell HS.out.2.1 0
      have c1_ := blk_cell HS.out.2.2.1 0
      have c2_ := blk_cell HS.out.2.2.2.1 0
      have c3_ := blk_cell HS.out.1 1
      have f0_ := blk_frozen HS.out.2.1 0
      have f1_ := blk_frozen HS.out.2.2.1 0
      have f2_ := blk_frozen HS.out.2.2.2.1 0
      go_wp2
      refine Code.wp_mono (Q := fun e a w => match e with | .panic _ => False | e => Exit.then _ _ e a w) (fun e a w h => by cases e <;> first | exact h | exact h.elim) ?_
      go_region_with (fail)
      all_goals
        go_wp2
        refine leaves_cons (f := 24) (args := #[.pointer (some ⟨w.heap.size, 0, none⟩), .pointer (some ⟨w.heap.size + 1, 0, none⟩), .pointer (some ⟨w.heap.size + 1 + 1, 0, none⟩)]) (by simp) (by simp [go_sem]) ?_
        refine (code_Read.idle _ _ _ _).mono ?_
        rintro er u' w'' ⟨rfl, rfl, rfl⟩
        have z0 := blk_far (blk_far (blk_put HS.out.2.1 0 (.slice Av acc.length cv) rfl) (p := ⟨w.heap.size + 1, 0, none⟩) (by show w.heap.size ≠ w.heap.size + 1; omega) (.int .i64 a)) (p := ⟨w.heap.size + 1 + 1, 0, none⟩) (by show w.heap.size ≠ w.heap.size + 1 + 1; omega) (.int .i64 0)
        have z1 := blk_far (blk_put (blk_far HS.out.2.2.1 (p := ⟨w.heap.size, 0, none⟩) (by show w.heap.size + 1 ≠ w.heap.size; omega) (.slice Av acc.length cv)) 0 (.int .i64 a) rfl) (p := ⟨w.heap.size + 1 + 1, 0, none⟩) (by show w.heap.size + 1 ≠ w.heap.size + 1 + 1; omega) (.int .i64 0)
        have z2 := blk_put (blk_far (blk_far HS.out.2.2.2.1 (p := ⟨w.heap.size, 0, none⟩) (by show w.heap.size + 1 + 1 ≠ w.heap.size; omega) (.slice Av acc.length cv)) (p := ⟨w.heap.size + 1, 0, none⟩) (by show w.heap.size + 1 + 1 ≠ w.heap.size + 1; omega) (.int .i64 a)) 0 (.int .i64 0) rfl
        have t0_ := blk_cell z0 0
        have t1_ := blk_cell z1 0
        have t2_ := blk_cell z2 0
        have FR := Aside0.mk (Kd.R_mono (Kd.R_far (p := ⟨w.heap.size + 1 + 1, 0, none⟩) (Kd.R_far (p := ⟨w.heap.size + 1, 0, none⟩) (Kd.R_far (p := ⟨w.heap.size, 0, none⟩) HS.out.2.2.2.2.2 (fun _ h => h.1) (.slice Av acc.length cv)) (fun _ h => h.2.1) (.int .i64 a)) (fun _ h => h.2.2.1) (.int .i64 0)) (fun _ _ => trivial) (ok' := fun _ => True))
        have FB := Aside0.mk (((HS.out.2.2.2.2.1.setCell (p := ⟨w.heap.size, 0, none⟩) (Nat.le_refl _) (.slice Av acc.length cv)).setCell (p := ⟨w.heap.size + 1, 0, none⟩) (by show w.heap.size ≤ w.heap.size + 1; omega) (.int .i64 a)).setCell (p := ⟨w.heap.size + 1 + 1, 0, none⟩) (by show w.heap.size ≤ w.heap.size + 1 + 1; omega) (.int .i64 0))
        simp [Leaves, settle, results, Tryd.results9, go_sem, t0_, t1_, t2_]
        first | exact ⟨_, rfl, Kd.R_drew FR.out, below_drew FB.out⟩ | exact ⟨_, ⟨rfl, Kd.R_drew FR.out⟩, below_drew FB.out⟩ | exact ⟨Kd.R_drew FR.out, below_drew FB.out⟩

/-! ### code_May_1: function 41 -/
def code_May_1.f (k : Nat) (a0_0 : Int) (a0_1 : Int) (a0_2 : Int) : Option (Bool) := (op_May.f k a0_0 a0_1 a0_2).bind fun t111 => (some (!t111))
theorem code_May_1.mono : ∀ a0 a1 a2 k, LeO (code_May_1.f k a0 a1 a2) (code_May_1.f (k + 1) a0 a1 a2) := by
 intro a0 a1 a2 k
 unfold code_May_1.f
 repeat' first
   | (with_reducible exact op_May.mono _ _ _ _)
   | (with_reducible exact LeO.refl _)
   | (with_reducible exact LeO.none _)
   | (with_reducible refine LeO.ite ?_ ?_)
   | (with_reducible refine LeO.bind ?_ (fun _ => ?_))
   | exact op_May.mono _ _ _ _
   | exact LeO.none _
   | refine LeO.ite ?_ ?_
   | refine LeO.bind ?_ (fun _ => ?_)
set_option maxHeartbeats 8000000 in
set_option maxRecDepth 100000 in
theorem code_May_1.calls (k : Nat) (a0_0 : Int) (a0_1 : Int) (a0_2 : Int) (r : Bool) (w : World) (hG : Gl w) (h : code_May_1.f k a0_0 a0_1 a0_2 = some r) :
  Calls Tryd.prog 41 #[.agg #[.int .u8 a0_0, .int .i64 a0_1, .int .i64 a0_2]] w fun e w' => e = .returned (.bool r) ∧ Below w.heap.size w w' := by
 have hu42 := Tryd.underlying42
 have HG := Aside0.mk hG
 clear hG
 have HB := Aside0.mk (Below.refl w.heap.size w)
 have H : ((op_May.f k a0_0 a0_1 a0_2).bind fun t111 => (some (!t111))) = some r := h
 clear h
 replace H := Option.bind_eq_some_iff.mp H
 obtain ⟨t111, A20, H⟩ := H
 replace H : (some (!t111)) = some r := H
 have A2 := Aside0.mk A20
 clear A20
 obtain rfl := Option.some.inj H
 go_enter Tryd.func41, Tryd.ntmps41
 go_wp2_with (first | ((with_reducible refine gate_dst (N := 1) rfl ?_); refine box_event ?hg (N := 1) ?hd (cs := #[.int .u8 a0_0, .int .i64 a0_1, .int .i64 a0_2]) (t := 42) ?hr ?_; (case hd => rfl); (case hg => rfl); (case hr => first | (go_simp; done) | (go_simp; rfl)); intro gb110 hg w3 hbox hb; have n0_ := Aside0.mk (below_step (by repeat (first | (with_reducible first | exact HB.out | apply below_alloc | apply pw_below_drewN | apply below_drew1) | exact HB.out | exact ⟨HB.out.os, HB.out.tape, HB.out.output, HB.out.size, HB.out.block⟩)) hb); have n1_ := Aside0.mk (hbox); have n2_ := Aside0.mk ((by rw [hg]; exact (below_size (by repeat (first | (with_reducible first | exact HB.out | apply below_alloc | apply pw_below_drewN | apply below_drew1) | exact HB.out | exact ⟨HB.out.os, HB.out.tape, HB.out.output, HB.out.size, HB.out.block⟩))) : w.heap.size ≤ gb110)); have n3_ := Aside0.mk ((by rw [hg]; exact (below_size (by repeat (first | (with_reducible first | exact HB.out | apply below_alloc | apply pw_below_drewN | apply below_drew1) | exact HB.out | exact ⟨HB.out.os, HB.out.tape, HB.out.output, HB.out.size, HB.out.block⟩))) : w.heap.size ≤ gb110)); clear HB; have HB := n0_; have BK110 := n1_; have GW110 := n2_; have GE110 := n3_; clear n0_ n1_ n2_ n3_; clear hb hbox hg; have hcz4_0 : w3.cell? ⟨gb110, 0, none⟩ = some (.int .u8 a0_0) := (blk_cell BK110.out 0).trans rfl; have hcz4_1 : w3.cell? ⟨gb110, 1, none⟩ = some (.int .i64 a0_1) := (blk_cell BK110.out 1).trans rfl; have hcz4_2 : w3.cell? ⟨gb110, 2, none⟩ = some (.int .i64 a0_2) := (blk_cell BK110.out 2).trans rfl; have hfz4_0 := blk_frozen BK110.out 0; have hfz4_1 := blk_frozen BK110.out 1; have hfz4_2 := blk_frozen BK110.out 2) | ((with_reducible refine gate_callee (f := 29) rfl ?_); refine goesL_ (some 4) rfl rfl Tryd.func29 (by kernel_rfl) rfl #[.agg #[.int .u8 a0_0, .int .i64 a0_1, .int .i64 a0_2]] rfl (by (try simp only [List.map_toArray, List.map_cons, List.map_nil]); first | done | rfl | (simp only [List.length_drop, List.length_take]; rfl)) ?_; (with_reducible refine (op_May.calls k a0_0 a0_1 a0_2 t111 _ ?side1 A2.out).mono ?_); (case side1 => first | exact HG.out | ((repeat (first | exact HG.out | exact Gl.below HG.out HB.out | (with_reducible refine Gl.alloc ?_ _) | (with_reducible refine Gl.drewN ?_ _) | (with_reducible refine Gl.drew ?_))); done) | exact Gl.below HG.out (by repeat (first | (with_reducible first | exact HB.out | apply below_alloc | apply pw_below_drewN | apply below_drew1 | refine below_set ?_ GE110.out) | exact HB.out | exact ⟨HB.out.os, HB.out.tape, HB.out.output, HB.out.size, HB.out.block⟩))); rintro e w5 ⟨rfl, hb⟩; refine ⟨_, rfl, ?_⟩; have n0_ := Aside0.mk (blk_below (g := gb110) (o := .cells #[.int .u8 a0_0, .int .i64 a0_1, .int .i64 a0_2] 42 (0, 0)) (by (with_reducible repeat (first | refine blk_drewN ?_ _ | refine blk_drew ?_ | refine blk_alloc ?_ _)); exact BK110.out) hb); have n1_ := Aside0.mk (below_step (by repeat (first | (with_reducible first | exact HB.out | apply below_alloc | apply pw_below_drewN | apply below_drew1 | refine below_set ?_ GE110.out) | exact HB.out | exact ⟨HB.out.os, HB.out.tape, HB.out.output, HB.out.size, HB.out.block⟩)) hb); clear BK110; clear HB; have BK110 := n0_; have HB := n1_; clear n0_ n1_; (try clear hb); (try clear hb2); (try clear hk); (try clear hi)))
 go_ret
 exact ⟨by first | rfl | (simp [errW_none, errW_some] <;> rfl) | (simp [*, errW_none, errW_some] <;> rfl), by repeat (first | (with_reducible first | exact HB.out | apply below_alloc | apply pw_below_drewN | apply below_drew1 | refine below_set ?_ GE110.out) | exact HB.out | exact ⟨HB.out.os, HB.out.tape, HB.out.output, HB.out.size, HB.out.block⟩)⟩

/-! ### slices_IndexFunc_api_Instr_api_Instr: function 55 -/
def slices_IndexFunc_api_Instr_api_Instr.l0 : Nat → List (S42) → Int → Int → Option (Int)
 | 0, _, _, _ => none
 | k + 1, x0, x7, x8 => if x8 < x7 then (if 0 ≤ x8 then (if x8 < (x0.length : Int) then ((code_May_1.f k ((rd_T42 x0 x8).f0) ((rd_T42 x0 x8).f1) ((rd_T42 x0 x8).f2)).bind fun t113 => (if t113 = true then (some x8) else (slices_IndexFunc_api_Instr_api_Instr.l0 k x0 x7 (wrap64 (x8 + 1))))) else (none)) else (none)) else (some (-1))
def slices_IndexFunc_api_Instr_api_Instr.f (k : Nat) (l0 : List (S42))  : Option (Int) := slices_IndexFunc_api_Instr_api_Instr.l0 k l0 (l0.length : Int) 0
theorem slices_IndexFunc_api_Instr_api_Instr.mono_l : ∀ k, (∀ y0 y1 y2, LeO (slices_IndexFunc_api_Instr_api_Instr.l0 k y0 y1 y2) (slices_IndexFunc_api_Instr_api_Instr.l0 (k + 1) y0 y1 y2))
 | 0 => fun _ _ _ r h => by simp [slices_IndexFunc_api_Instr_api_Instr.l0] at h
 | k + 1 => by
  have ih0 := slices_IndexFunc_api_Instr_api_Instr.mono_l k
  ·
   intro y0 y1 y2
   unfold slices_IndexFunc_api_Instr_api_Instr.l0
   repeat' first
   | (with_reducible exact ih0 _ _ _)
   | (with_reducible exact code_May_1.mono _ _ _ _)
   | (with_reducible exact LeO.refl _)
   | (with_reducible exact LeO.none _)
   | (with_reducible refine LeO.ite ?_ ?_)
   | (with_reducible refine LeO.bind ?_ (fun _ => ?_))
   | exact ih0 _ _ _
   | exact code_May_1.mono _ _ _ _
   | exact LeO.none _
   | refine LeO.ite ?_ ?_
   | refine LeO.bind ?_ (fun _ => ?_)
theorem slices_IndexFunc_api_Instr_api_Instr.mono : ∀ a0 k, LeO (slices_IndexFunc_api_Instr_api_Instr.f k a0) (slices_IndexFunc_api_Instr_api_Instr.f (k + 1) a0) := by
 intro a0 k
 have ih0 := slices_IndexFunc_api_Instr_api_Instr.mono_l k
 unfold slices_IndexFunc_api_Instr_api_Instr.f
 repeat' first
   | (with_reducible exact ih0 _ _ _)
   | (with_reducible exact code_May_1.mono _ _ _ _)
   | (with_reducible exact LeO.refl _)
   | (with_reducible exact LeO.none _)
   | (with_reducible refine LeO.ite ?_ ?_)
   | (with_reducible refine LeO.bind ?_ (fun _ => ?_))
   | exact ih0 _ _ _
   | exact code_May_1.mono _ _ _ _
   | exact LeO.none _
   | refine LeO.ite ?_ ?_
   | refine LeO.bind ?_ (fun _ => ?_)
set_option maxHeartbeats 8000000 in
set_option maxRecDepth 100000 in
theorem slices_IndexFunc_api_Instr_api_Instr.calls (k : Nat) (A0 : Option Addr) (c0 : Nat) (l0 : List (S42))  (r : Int) (w : World) (hG : Gl w) (hr0 : Kd.C k42 w A0 l0.length l0) (hc0 : l0.length ≤ c0) (h : slices_IndexFunc_api_Instr_api_Instr.f k l0 = some r) :
  Calls Tryd.prog 55 #[.slice A0 l0.length c0, .func (.func 41) #[] #[]] w fun e w' => e = .returned (.int .i64 r) ∧ Below w.heap.size w w' := by
 have hu42 := Tryd.underlying42
 have HG := Aside0.mk hG
 clear hG
 have HR0 := Aside0.mk hr0
 have HC0 := Aside0.mk hc0
 clear hr0 hc0
 have HB := Aside0.mk (Below.refl w.heap.size w)
 have H : (slices_IndexFunc_api_Instr_api_Instr.l0 k l0 (l0.length : Int) 0) = some r := h
 clear h
 have H' := Aside0.mk H
 clear H
 go_enter Tryd.func55, Tryd.ntmps55
 go_wp2
 go_loopg [8] k (fun kq v8 w' => ∃ (x8_1 : Int), v8 = .int .i64 x8_1 ∧ Aside0 (slices_IndexFunc_api_Instr_api_Instr.l0 kq l0 (l0.length : Int) x8_1 = some r) ∧ Aside0 (kq ≤ k) ∧ Aside0 (Below w.heap.size w w'))
 case atStart => exact ⟨(0), (by first | rfl | (simp; done) | (simp [*]; done)), H', ⟨Nat.le_refl _⟩, ⟨by repeat (first | (with_reducible first | exact HB.out | apply below_alloc | apply pw_below_drewN | apply below_drew1) | exact HB.out | exact ⟨HB.out.os, HB.out.tape, HB.out.output, HB.out.size, HB.out.block⟩)⟩⟩
 case round =>
  clear H'
  try clear p2
  obtain ⟨x8_1, rfl, HA, HK1, HB⟩ := hrel
  cases gk with
  | zero => exact absurd HA.out (by simp [slices_IndexFunc_api_Instr_api_Instr.l0])
  | succ k1 =>
   have H := HA.out
   clear HA
   simp only [slices_IndexFunc_api_Instr_api_Instr.l0] at H
   by_cases c3 : x8_1 < (l0.length : Int)
   ·
    rw [if_pos c3] at H
    have c3b0 : decide (x8_1 < (l0.length : Int)) = true := decide_eq_true c3
    clear c3
    by_cases c4 : 0 ≤ x8_1
    ·
     rw [if_pos c4] at H
     have c4b0 : decide (0 ≤ x8_1) = true := decide_eq_true c4
     clear c4
     by_cases c5 : x8_1 < (l0.length : Int)
     ·
      rw [if_pos c5] at H
      have c5b0 : decide (x8_1 < (l0.length : Int)) = true := decide_eq_true c5
      clear c5
      replace H := Option.bind_eq_some_iff.mp H
      obtain ⟨t113, A60, H⟩ := H
      replace H : (if t113 = true then (some x8_1) else (slices_IndexFunc_api_Instr_api_Instr.l0 k1 l0 (l0.length : Int) (wrap64 (x8_1 + 1)))) = some r := H
      have A6 := Aside0.mk A60
      clear A60
      by_cases c7 : t113 = true
      ·
       subst c7
       have H1 : (some x8_1) = some r := by rw [if_pos rfl] at H; exact H
       clear H
       have H := H1
       clear H1
       obtain rfl := Option.some.inj H
       have p112 : 0 ≤ (x8_1 : Int) := of_decide_eq_true (by first | (with_reducible assumption) | assumption)
       have q112 : x8_1 < (l0.length : Int) := of_decide_eq_true (by first | (with_reducible assumption) | assumption)
       obtain ⟨ad112, e112, hx112_0, hx112_1, hx112_2⟩ := at_T42 HR0.out x8_1 p112 q112
       cases e112
       replace hx112_0 := (HB.out.cell (World.block_lt_of_cell? w _ hx112_0)).trans hx112_0
       replace hx112_1 := (HB.out.cell (World.block_lt_of_cell? w _ hx112_1)).trans hx112_1
       replace hx112_2 := (HB.out.cell (World.block_lt_of_cell? w _ hx112_2)).trans hx112_2
       replace p112 := eq_true p112
       replace q112 := eq_true q112
       go_wp2_with (first | ((fail_if_success (have h_ := w8)); go_at_call 41; (with_reducible refine (code_May_1.calls k1 ((rd_T42 l0 x8_1).f0) ((rd_T42 l0 x8_1).f1) ((rd_T42 l0 x8_1).f2) true _ ?side1 A6.out).mono ?_); (case side1 => first | exact HG.out | ((repeat (first | exact HG.out | exact Gl.below HG.out HB.out | (with_reducible refine Gl.alloc ?_ _) | (with_reducible refine Gl.drewN ?_ _) | (with_reducible refine Gl.drew ?_))); done) | exact Gl.below HG.out (by repeat (first | (with_reducible first | exact HB.out | apply below_alloc | apply pw_below_drewN | apply below_drew1) | exact HB.out | exact ⟨HB.out.os, HB.out.tape, HB.out.output, HB.out.size, HB.out.block⟩))); rintro e w8 ⟨rfl, hb⟩; have n0_ := Aside0.mk (below_step (by repeat (first | (with_reducible first | exact HB.out | apply below_alloc | apply pw_below_drewN | apply below_drew1) | exact HB.out | exact ⟨HB.out.os, HB.out.tape, HB.out.output, HB.out.size, HB.out.block⟩)) hb); clear HB; have HB := n0_; clear n0_; (try clear hb); (try clear hb2); (try clear hk); (try clear hi)))
       go_ret
       exact ⟨by first | rfl | (simp [errW_none, errW_some] <;> rfl) | (simp [*, errW_none, errW_some] <;> rfl), by repeat (first | (with_reducible first | exact HB.out | apply below_alloc | apply pw_below_drewN | apply below_drew1) | exact HB.out | exact ⟨HB.out.os, HB.out.tape, HB.out.output, HB.out.size, HB.out.block⟩)⟩
      ·
       replace c7 := Bool.eq_false_iff.mpr c7
       subst c7
       have H1 : (slices_IndexFunc_api_Instr_api_Instr.l0 k1 l0 (l0.length : Int) (wrap64 (x8_1 + 1))) = some r := by rw [if_neg (show ¬ (false = true) by decide)] at H; exact H
       clear H
       have H := H1
       clear H1
       have H' := Aside0.mk H
       clear H
       have p112 : 0 ≤ (x8_1 : Int) := of_decide_eq_true (by first | (with_reducible assumption) | assumption)
       have q112 : x8_1 < (l0.length : Int) := of_decide_eq_true (by first | (with_reducible assumption) | assumption)
       obtain ⟨ad112, e112, hx112_0, hx112_1, hx112_2⟩ := at_T42 HR0.out x8_1 p112 q112
       cases e112
       replace hx112_0 := (HB.out.cell (World.block_lt_of_cell? w _ hx112_0)).trans hx112_0
       replace hx112_1 := (HB.out.cell (World.block_lt_of_cell? w _ hx112_1)).trans hx112_1
       replace hx112_2 := (HB.out.cell (World.block_lt_of_cell? w _ hx112_2)).trans hx112_2
       replace p112 := eq_true p112
       replace q112 := eq_true q112
       go_wp2_with (first | ((fail_if_success (have h_ := w9)); go_at_call 41; (with_reducible refine (code_May_1.calls k1 ((rd_T42 l0 x8_1).f0) ((rd_T42 l0 x8_1).f1) ((rd_T42 l0 x8_1).f2) false _ ?side1 A6.out).mono ?_); (case side1 => first | exact HG.out | ((repeat (first | exact HG.out | exact Gl.below HG.out HB.out | (with_reducible refine Gl.alloc ?_ _) | (with_reducible refine Gl.drewN ?_ _) | (with_reducible refine Gl.drew ?_))); done) | exact Gl.below HG.out (by repeat (first | (with_reducible first | exact HB.out | apply below_alloc | apply pw_below_drewN | apply below_drew1) | exact HB.out | exact ⟨HB.out.os, HB.out.tape, HB.out.output, HB.out.size, HB.out.block⟩))); rintro e w9 ⟨rfl, hb⟩; have n0_ := Aside0.mk (below_step (by repeat (first | (with_reducible first | exact HB.out | apply below_alloc | apply pw_below_drewN | apply below_drew1) | exact HB.out | exact ⟨HB.out.os, HB.out.tape, HB.out.output, HB.out.size, HB.out.block⟩)) hb); clear HB; have HB := n0_; clear n0_; (try clear hb); (try clear hb2); (try clear hk); (try clear hi)))
       go_roundg k1
       case measure => have := HK1.out; omega
       case rel => exact ⟨(wrap64 (x8_1 + 1)), (by first | rfl | (simp; done) | (simp [*]; done)), H', ⟨by have := HK1.out; omega⟩, ⟨by repeat (first | (with_reducible first | exact HB.out | apply below_alloc | apply pw_below_drewN | apply below_drew1) | exact HB.out | exact ⟨HB.out.os, HB.out.tape, HB.out.output, HB.out.size, HB.out.block⟩)⟩⟩
     ·
      rw [if_neg c5] at H
      exact absurd H (by simp)
    ·
     rw [if_neg c4] at H
     exact absurd H (by simp)
   ·
    rw [if_neg c3] at H
    have c3b0 : decide (x8_1 < (l0.length : Int)) = false := decide_eq_false c3
    clear c3
    obtain rfl := Option.some.inj H
    go_wp2
    go_ret
    exact ⟨by first | rfl | (simp [errW_none, errW_some] <;> rfl) | (simp [*, errW_none, errW_some] <;> rfl), by repeat (first | (with_reducible first | exact HB.out | apply below_alloc | apply pw_below_drewN | apply below_drew1) | exact HB.out | exact ⟨HB.out.os, HB.out.tape, HB.out.output, HB.out.size, HB.out.block⟩)⟩

end Go.Proofs.YtdfjjooejfgglaaDoor.R
