/- Contracts of the functions of this seat (each: the call of the function does what the plain Lean function of the same name tells; the conditions stand in each statement). Written by a program of this session and by hand; checked by Lean. -/
import Derived.Test.YtahkaekiandchaaDoorR0
import Derived.Test.YtahkaekiandchaaDoorR1
namespace Go.Proofs.YtahkaekiandchaaDoor.R
open Go.RowKit Go.Proofs.YtahkaekiandchaaDoorW.PrintWords Go.Proofs.YtahkaekiandchaaDoorW.PrintLast Go.Proofs.YtahkaekiandchaaDoorW.PrintMore
attribute [local go_sem] max2_int min2_int max_two min_two max_three min_three max_four min_four   -- for this text's walks alone
set_option linter.unusedVariables false
set_option linter.unusedSimpArgs false

/-! ### op_Leads: function 18 -/
def op_Leads.f (k : Nat) (a0 : Int) : Option (Bool) := (op_sign.f k a0).bind fun t101 => (some (t101 == 5))
theorem op_Leads.mono : ∀ a0 k, LeO (op_Leads.f k a0) (op_Leads.f (k + 1) a0) := by
  intro a0 k
  unfold op_Leads.f
  repeat' first
      | (with_reducible exact op_sign.mono _ _)
      | (with_reducible exact LeO.refl _)
      | (with_reducible exact LeO.none _)
      | (with_reducible refine LeO.ite ?_ ?_)
      | (with_reducible refine LeO.bind ?_ (fun _ => ?_))
      | exact op_sign.mono _ _
      | exact LeO.none _
      | refine LeO.ite ?_ ?_
      | refine LeO.bind ?_ (fun _ => ?_)
set_option maxHeartbeats 8000000 in
set_option maxRecDepth 100000 in
theorem op_Leads.calls (k : Nat) (a0 : Int) (r : Bool) (w : World) (h : op_Leads.f k a0 = some r) :
    Calls Tryd.prog 18 #[.int .u8 a0] w fun e w' => e = .returned (.bool r) ∧ Drawn0 w w' := by
  have H : ((op_sign.f k a0).bind fun t101 => (some (t101 == 5))) = some r := h
  clear h
  replace H := Option.bind_eq_some_iff.mp H
  obtain ⟨t101, A20, H⟩ := H
  replace H : (some (t101 == 5)) = some r := H
  have A2 := Aside0.mk A20
  clear A20
  obtain rfl := Option.some.inj H
  go_enter Tryd.func18, Tryd.ntmps18
  go_wp2_with (first | ((with_reducible refine gate_callee (f := 25) rfl ?_); refine goesL_ (some 4) rfl rfl Tryd.func25 (by kernel_rfl) rfl #[.int .u8 a0] rfl (by (try simp only [List.map_toArray, List.map_cons, List.map_nil]); first | done | rfl | (simp only [List.length_drop, List.length_take]; rfl)) ?_; (with_reducible refine (op_sign.calls k a0 t101 _ A2.out).mono ?_); rintro e w' ⟨rfl, ⟨nd, rfl⟩⟩; refine ⟨_, rfl, ?_⟩))
  go_ret
  exact ⟨by first | rfl | (simp; done) | (simp [*]; done), by repeat (first | exact Drawn0.refl _ | apply Drawn0.step)⟩

/-! ### op_Goes: function 20 -/
def op_Goes.f (a0 : Int) : Option (Bool) := (op_Known.f a0).bind fun t102 => (if t102 = true then (if a0 = 26 then (some false) else (if a0 = 31 then (some false) else (some (a0 != 32)))) else (some false))
set_option maxHeartbeats 8000000 in
set_option maxRecDepth 100000 in
theorem op_Goes.calls (a0 : Int) (r : Bool) (w : World) (h : op_Goes.f a0 = some r) :
    Calls Tryd.prog 20 #[.int .u8 a0] w fun e w' => e = .returned (.bool r) ∧ Drawn0 w w' := by
  have H : ((op_Known.f a0).bind fun t102 => (if t102 = true then (if a0 = 26 then (some false) else (if a0 = 31 then (some false) else (some (a0 != 32)))) else (some false))) = some r := h
  clear h
  replace H := Option.bind_eq_some_iff.mp H
  obtain ⟨t102, A20, H⟩ := H
  replace H : (if t102 = true then (if a0 = 26 then (some false) else (if a0 = 31 then (some false) else (some (a0 != 32)))) else (some false)) = some r := H
  have A2 := Aside0.mk A20
  clear A20
  by_cases c3 : t102 = true
  · subst c3
    have H1 : (if a0 = 26 then (some false) else (if a0 = 31 then (some false) else (some (a0 != 32)))) = some r := by rw [if_pos rfl] at H; exact H
    clear H
    have H := H1
    clear H1
    by_cases c4 : a0 = 26
    · rw [if_pos c4] at H
      have c4b0 : (a0 == 26) = true := beq_iff_eq.mpr c4
      have c4b1 : (a0 != 26) = false := bne_eq_false_iff_eq.mpr c4
      clear c4
      obtain rfl := Option.some.inj H
      go_enter Tryd.func20, Tryd.ntmps20
      go_wp2_with (first | ((with_reducible refine gate_callee (f := 12) rfl ?_); refine goesL_ (some 4) rfl rfl Tryd.func12 (by kernel_rfl) rfl #[.int .u8 a0] rfl (by (try simp only [List.map_toArray, List.map_cons, List.map_nil]); first | done | rfl | (simp only [List.length_drop, List.length_take]; rfl)) ?_; (with_reducible refine (op_Known.calls a0 true _ A2.out).mono ?_); rintro e w' ⟨rfl, ⟨nd, rfl⟩⟩; refine ⟨_, rfl, ?_⟩))
      go_ret
      exact ⟨by first | rfl | (simp; done) | (simp [*]; done), by repeat (first | exact Drawn0.refl _ | apply Drawn0.step)⟩
    · rw [if_neg c4] at H
      have c4b0 : (a0 == 26) = false := beq_eq_false_iff_ne.mpr c4
      have c4b1 : (a0 != 26) = true := bne_iff_ne.mpr c4
      by_cases c5 : a0 = 31
      · rw [if_pos c5] at H
        have c5b0 : (a0 == 31) = true := beq_iff_eq.mpr c5
        have c5b1 : (a0 != 31) = false := bne_eq_false_iff_eq.mpr c5
        clear c5
        obtain rfl := Option.some.inj H
        go_enter Tryd.func20, Tryd.ntmps20
        go_wp2_with (first | ((with_reducible refine gate_callee (f := 12) rfl ?_); refine goesL_ (some 4) rfl rfl Tryd.func12 (by kernel_rfl) rfl #[.int .u8 a0] rfl (by (try simp only [List.map_toArray, List.map_cons, List.map_nil]); first | done | rfl | (simp only [List.length_drop, List.length_take]; rfl)) ?_; (with_reducible refine (op_Known.calls a0 true _ A2.out).mono ?_); rintro e w' ⟨rfl, ⟨nd, rfl⟩⟩; refine ⟨_, rfl, ?_⟩))
        go_ret
        exact ⟨by first | rfl | (simp; done) | (simp [*]; done), by repeat (first | exact Drawn0.refl _ | apply Drawn0.step)⟩
      · rw [if_neg c5] at H
        have c5b0 : (a0 == 31) = false := beq_eq_false_iff_ne.mpr c5
        have c5b1 : (a0 != 31) = true := bne_iff_ne.mpr c5
        obtain rfl := Option.some.inj H
        go_enter Tryd.func20, Tryd.ntmps20
        go_wp2_with (first | ((with_reducible refine gate_callee (f := 12) rfl ?_); refine goesL_ (some 4) rfl rfl Tryd.func12 (by kernel_rfl) rfl #[.int .u8 a0] rfl (by (try simp only [List.map_toArray, List.map_cons, List.map_nil]); first | done | rfl | (simp only [List.length_drop, List.length_take]; rfl)) ?_; (with_reducible refine (op_Known.calls a0 true _ A2.out).mono ?_); rintro e w' ⟨rfl, ⟨nd, rfl⟩⟩; refine ⟨_, rfl, ?_⟩))
        go_ret
        exact ⟨by first | rfl | (simp; done) | (simp [*]; done), by repeat (first | exact Drawn0.refl _ | apply Drawn0.step)⟩
  · replace c3 := Bool.eq_false_iff.mpr c3
    subst c3
    have H1 : (some false) = some r := by rw [if_neg (show ¬ (false = true) by decide)] at H; exact H
    clear H
    have H := H1
    clear H1
    obtain rfl := Option.some.inj H
    go_enter Tryd.func20, Tryd.ntmps20
    go_wp2_with (first | ((with_reducible refine gate_callee (f := 12) rfl ?_); refine goesL_ (some 4) rfl rfl Tryd.func12 (by kernel_rfl) rfl #[.int .u8 a0] rfl (by (try simp only [List.map_toArray, List.map_cons, List.map_nil]); first | done | rfl | (simp only [List.length_drop, List.length_take]; rfl)) ?_; (with_reducible refine (op_Known.calls a0 false _ A2.out).mono ?_); rintro e w' ⟨rfl, ⟨nd, rfl⟩⟩; refine ⟨_, rfl, ?_⟩))
    go_ret
    exact ⟨by first | rfl | (simp; done) | (simp [*]; done), by repeat (first | exact Drawn0.refl _ | apply Drawn0.step)⟩

/-! ### op_Bounds: function 10 -/
def op_Bounds.f (k : Nat) (a0 : Int) : Option (Int × Int) := (op_Known.f a0).bind fun b => if b = true then (op_sign.f k a0).bind fun s => if 0 ≤ s ∧ s < 9 then some (rd gl1 (s * 2), rd gl1 (s * 2 + 1)) else none else some (0, -1)
theorem op_Bounds.mono : ∀ a0 k, LeO (op_Bounds.f k a0) (op_Bounds.f (k + 1) a0) := by
  intro a0 k
  unfold op_Bounds.f
  exact LeO.bind (LeO.refl _) fun b => LeO.ite (LeO.bind (op_sign.mono _ _) fun s => LeO.refl _) (LeO.refl _)
set_option maxHeartbeats 8000000 in
set_option maxRecDepth 100000 in
theorem op_Bounds.calls (k : Nat) (a0 : Int) (r1 : Int) (r2 : Int) (w : World) (hG : Gl w) (h : op_Bounds.f k a0 = some (r1, r2)) :
    Calls Tryd.prog 10 #[.int .u8 a0] w fun e w' => e = .returned (.tuple #[.int .i64 r1, .int .i64 r2]) ∧ Below w.heap.size w w' := by
  have HB := Aside0.mk (Below.refl w.heap.size w)
  have HR := Aside0.mk hG.g1
  clear hG
  obtain ⟨b, hk⟩ : ∃ b, op_Known.f a0 = some b := ⟨_, rfl⟩
  have HK := Aside0.mk hk
  simp only [op_Bounds.f] at h
  rw [hk, Option.bind_some] at h
  clear hk
  cases b with
  | false =>
    rw [if_neg (by decide), Option.some.injEq, Prod.mk.injEq] at h
    obtain ⟨rfl, rfl⟩ := h
    go_enter Tryd.func10, Tryd.ntmps10
    go_wp2_with (first | (go_at_call 12; (with_reducible refine (op_Known.calls a0 false _ HK.out).mono ?_); rintro e w' ⟨rfl, ⟨nd, rfl⟩⟩))
    go_ret2
    exact ⟨rfl, by repeat (first | exact HB.out | apply below_alloc | apply pw_below_drewN | apply below_drew1)⟩
  | true =>
    rw [if_pos rfl] at h
    obtain ⟨s, hs⟩ : ∃ s, op_sign.f k a0 = some s := by
      cases e : op_sign.f k a0 with
      | none => rw [e] at h; cases h
      | some s => exact ⟨s, rfl⟩
    rw [hs, Option.bind_some] at h
    have hb : 0 ≤ s ∧ s < 9 := by
      by_cases c : 0 ≤ s ∧ s < 9
      · exact c
      · rw [if_neg c] at h; cases h
    rw [if_pos hb, Option.some.injEq, Prod.mk.injEq] at h
    obtain ⟨rfl, rfl⟩ := h
    have HS := Aside0.mk hs
    clear hs
    have hal : Tryd.prog.arrayLen 44 = 9 := by kernel_rfl
    have hc : ∀ j : Nat, j < 18 → w.cell? ⟨1, j, none⟩ = some (.int .i64 (rd gl1 j)) := by
      intro j hj
      obtain ⟨ad, e, hx⟩ := Kd.at_int HR.out (j : Int) (by omega) (by have : gl1.length = 18 := rfl; omega)
      obtain rfl : (⟨1, 0, none⟩ : Addr) = ad := by injection e
      simp only [add_plain, Int.toNat_natCast] at hx
      exact hx
    have hq0 : ∀ n : Nat, ((w.drewN n).alloc (Obj.cells #[Value.int IntKind.i64 0, Value.int IntKind.i64 0] 43)).cell? ⟨w.heap.size, 0, none⟩ = some (.int .i64 0) := fun n => blk_cell (blk_new (w.drewN n) (Obj.cells #[Value.int IntKind.i64 0, Value.int IntKind.i64 0] 43)) 0
    have hq1 : ∀ n : Nat, ((w.drewN n).alloc (Obj.cells #[Value.int IntKind.i64 0, Value.int IntKind.i64 0] 43)).cell? ⟨w.heap.size, 1, none⟩ = some (.int .i64 0) := fun n => blk_cell (blk_new (w.drewN n) (Obj.cells #[Value.int IntKind.i64 0, Value.int IntKind.i64 0] 43)) 1
    have hf0 : ∀ n i : Nat, ((w.drewN n).alloc (Obj.cells #[Value.int IntKind.i64 0, Value.int IntKind.i64 0] 43)).frozen? ⟨w.heap.size, i, none⟩ = false := fun n i => blk_frozen (blk_new (w.drewN n) (Obj.cells #[Value.int IntKind.i64 0, Value.int IntKind.i64 0] 43)) i
    have h9 : s = 0 ∨ s = 1 ∨ s = 2 ∨ s = 3 ∨ s = 4 ∨ s = 5 ∨ s = 6 ∨ s = 7 ∨ s = 8 := by omega
    rcases h9 with rfl | rfl | rfl | rfl | rfl | rfl | rfl | rfl | rfl
    · go_enter Tryd.func10, Tryd.ntmps10
      go_wp2_with (first | (go_at_call 12; (with_reducible refine (op_Known.calls a0 true _ HK.out).mono ?_); rintro e w' ⟨rfl, ⟨nd, rfl⟩⟩) | (go_at_call 25; (with_reducible refine (op_sign.calls k a0 0 _ HS.out).mono ?_); rintro e w' ⟨rfl, ⟨nd2, rfl⟩⟩))
      generalize hz : World.setCell _ _ _ = wz
      have BK : wz.heap[w.heap.size]? = some (.cells #[.int .i64 (rd gl1 0), .int .i64 (rd gl1 1)] 43 (0, 0)) := by
        rw [← hz]
        refine blk_put (cs := #[.int .i64 (rd gl1 0), .int .i64 0]) ?_ 1 _ rfl
        refine blk_put (cs := #[.int .i64 0, .int .i64 0]) ?_ 0 _ rfl
        exact blk_new (w.drewN _) _
      have HB2 := Aside0.mk (show Below w.heap.size w wz by rw [← hz]; exact below_set (below_set (below_alloc (pw_below_drewN HB.out _) _) (Nat.le_refl _)) (Nat.le_refl _))
      have c0 : wz.cell? ⟨w.heap.size, 0, none⟩ = some (.int .i64 (rd gl1 0)) := (blk_cell BK 0).trans rfl
      have c1 : wz.cell? ⟨w.heap.size, 1, none⟩ = some (.int .i64 (rd gl1 1)) := (blk_cell BK 1).trans rfl
      clear hz BK hq0 hq1 hf0 hc
      go_wp2
      repeat (go_quiet (fail); try go_wp2)
      go_ret2
      exact ⟨rfl, by repeat (first | exact HB2.out | apply below_alloc | apply pw_below_drewN | apply below_drew1)⟩
    · go_enter Tryd.func10, Tryd.ntmps10
      go_wp2_with (first | (go_at_call 12; (with_reducible refine (op_Known.calls a0 true _ HK.out).mono ?_); rintro e w' ⟨rfl, ⟨nd, rfl⟩⟩) | (go_at_call 25; (with_reducible refine (op_sign.calls k a0 1 _ HS.out).mono ?_); rintro e w' ⟨rfl, ⟨nd2, rfl⟩⟩))
      generalize hz : World.setCell _ _ _ = wz
      have BK : wz.heap[w.heap.size]? = some (.cells #[.int .i64 (rd gl1 2), .int .i64 (rd gl1 3)] 43 (0, 0)) := by
        rw [← hz]
        refine blk_put (cs := #[.int .i64 (rd gl1 2), .int .i64 0]) ?_ 1 _ rfl
        refine blk_put (cs := #[.int .i64 0, .int .i64 0]) ?_ 0 _ rfl
        exact blk_new (w.drewN _) _
      have HB2 := Aside0.mk (show Below w.heap.size w wz by rw [← hz]; exact below_set (below_set (below_alloc (pw_below_drewN HB.out _) _) (Nat.le_refl _)) (Nat.le_refl _))
      have c0 : wz.cell? ⟨w.heap.size, 0, none⟩ = some (.int .i64 (rd gl1 2)) := (blk_cell BK 0).trans rfl
      have c1 : wz.cell? ⟨w.heap.size, 1, none⟩ = some (.int .i64 (rd gl1 3)) := (blk_cell BK 1).trans rfl
      clear hz BK hq0 hq1 hf0 hc
      go_wp2
      repeat (go_quiet (fail); try go_wp2)
      go_ret2
      exact ⟨rfl, by repeat (first | exact HB2.out | apply below_alloc | apply pw_below_drewN | apply below_drew1)⟩
    · go_enter Tryd.func10, Tryd.ntmps10
      go_wp2_with (first | (go_at_call 12; (with_reducible refine (op_Known.calls a0 true _ HK.out).mono ?_); rintro e w' ⟨rfl, ⟨nd, rfl⟩⟩) | (go_at_call 25; (with_reducible refine (op_sign.calls k a0 2 _ HS.out).mono ?_); rintro e w' ⟨rfl, ⟨nd2, rfl⟩⟩))
      generalize hz : World.setCell _ _ _ = wz
      have BK : wz.heap[w.heap.size]? = some (.cells #[.int .i64 (rd gl1 4), .int .i64 (rd gl1 5)] 43 (0, 0)) := by
        rw [← hz]
        refine blk_put (cs := #[.int .i64 (rd gl1 4), .int .i64 0]) ?_ 1 _ rfl
        refine blk_put (cs := #[.int .i64 0, .int .i64 0]) ?_ 0 _ rfl
        exact blk_new (w.drewN _) _
      have HB2 := Aside0.mk (show Below w.heap.size w wz by rw [← hz]; exact below_set (below_set (below_alloc (pw_below_drewN HB.out _) _) (Nat.le_refl _)) (Nat.le_refl _))
      have c0 : wz.cell? ⟨w.heap.size, 0, none⟩ = some (.int .i64 (rd gl1 4)) := (blk_cell BK 0).trans rfl
      have c1 : wz.cell? ⟨w.heap.size, 1, none⟩ = some (.int .i64 (rd gl1 5)) := (blk_cell BK 1).trans rfl
      clear hz BK hq0 hq1 hf0 hc
      go_wp2
      repeat (go_quiet (fail); try go_wp2)
      go_ret2
      exact ⟨rfl, by repeat (first | exact HB2.out | apply below_alloc | apply pw_below_drewN | apply below_drew1)⟩
    · go_enter Tryd.func10, Tryd.ntmps10
      go_wp2_with (first | (go_at_call 12; (with_reducible refine (op_Known.calls a0 true _ HK.out).mono ?_); rintro e w' ⟨rfl, ⟨nd, rfl⟩⟩) | (go_at_call 25; (with_reducible refine (op_sign.calls k a0 3 _ HS.out).mono ?_); rintro e w' ⟨rfl, ⟨nd2, rfl⟩⟩))
      generalize hz : World.setCell _ _ _ = wz
      have BK : wz.heap[w.heap.size]? = some (.cells #[.int .i64 (rd gl1 6), .int .i64 (rd gl1 7)] 43 (0, 0)) := by
        rw [← hz]
        refine blk_put (cs := #[.int .i64 (rd gl1 6), .int .i64 0]) ?_ 1 _ rfl
        refine blk_put (cs := #[.int .i64 0, .int .i64 0]) ?_ 0 _ rfl
        exact blk_new (w.drewN _) _
      have HB2 := Aside0.mk (show Below w.heap.size w wz by rw [← hz]; exact below_set (below_set (below_alloc (pw_below_drewN HB.out _) _) (Nat.le_refl _)) (Nat.le_refl _))
      have c0 : wz.cell? ⟨w.heap.size, 0, none⟩ = some (.int .i64 (rd gl1 6)) := (blk_cell BK 0).trans rfl
      have c1 : wz.cell? ⟨w.heap.size, 1, none⟩ = some (.int .i64 (rd gl1 7)) := (blk_cell BK 1).trans rfl
      clear hz BK hq0 hq1 hf0 hc
      go_wp2
      repeat (go_quiet (fail); try go_wp2)
      go_ret2
      exact ⟨rfl, by repeat (first | exact HB2.out | apply below_alloc | apply pw_below_drewN | apply below_drew1)⟩
    · go_enter Tryd.func10, Tryd.ntmps10
      go_wp2_with (first | (go_at_call 12; (with_reducible refine (op_Known.calls a0 true _ HK.out).mono ?_); rintro e w' ⟨rfl, ⟨nd, rfl⟩⟩) | (go_at_call 25; (with_reducible refine (op_sign.calls k a0 4 _ HS.out).mono ?_); rintro e w' ⟨rfl, ⟨nd2, rfl⟩⟩))
      generalize hz : World.setCell _ _ _ = wz
      have BK : wz.heap[w.heap.size]? = some (.cells #[.int .i64 (rd gl1 8), .int .i64 (rd gl1 9)] 43 (0, 0)) := by
        rw [← hz]
        refine blk_put (cs := #[.int .i64 (rd gl1 8), .int .i64 0]) ?_ 1 _ rfl
        refine blk_put (cs := #[.int .i64 0, .int .i64 0]) ?_ 0 _ rfl
        exact blk_new (w.drewN _) _
      have HB2 := Aside0.mk (show Below w.heap.size w wz by rw [← hz]; exact below_set (below_set (below_alloc (pw_below_drewN HB.out _) _) (Nat.le_refl _)) (Nat.le_refl _))
      have c0 : wz.cell? ⟨w.heap.size, 0, none⟩ = some (.int .i64 (rd gl1 8)) := (blk_cell BK 0).trans rfl
      have c1 : wz.cell? ⟨w.heap.size, 1, none⟩ = some (.int .i64 (rd gl1 9)) := (blk_cell BK 1).trans rfl
      clear hz BK hq0 hq1 hf0 hc
      go_wp2
      repeat (go_quiet (fail); try go_wp2)
      go_ret2
      exact ⟨rfl, by repeat (first | exact HB2.out | apply below_alloc | apply pw_below_drewN | apply below_drew1)⟩
    · go_enter Tryd.func10, Tryd.ntmps10
      go_wp2_with (first | (go_at_call 12; (with_reducible refine (op_Known.calls a0 true _ HK.out).mono ?_); rintro e w' ⟨rfl, ⟨nd, rfl⟩⟩) | (go_at_call 25; (with_reducible refine (op_sign.calls k a0 5 _ HS.out).mono ?_); rintro e w' ⟨rfl, ⟨nd2, rfl⟩⟩))
      generalize hz : World.setCell _ _ _ = wz
      have BK : wz.heap[w.heap.size]? = some (.cells #[.int .i64 (rd gl1 10), .int .i64 (rd gl1 11)] 43 (0, 0)) := by
        rw [← hz]
        refine blk_put (cs := #[.int .i64 (rd gl1 10), .int .i64 0]) ?_ 1 _ rfl
        refine blk_put (cs := #[.int .i64 0, .int .i64 0]) ?_ 0 _ rfl
        exact blk_new (w.drewN _) _
      have HB2 := Aside0.mk (show Below w.heap.size w wz by rw [← hz]; exact below_set (below_set (below_alloc (pw_below_drewN HB.out _) _) (Nat.le_refl _)) (Nat.le_refl _))
      have c0 : wz.cell? ⟨w.heap.size, 0, none⟩ = some (.int .i64 (rd gl1 10)) := (blk_cell BK 0).trans rfl
      have c1 : wz.cell? ⟨w.heap.size, 1, none⟩ = some (.int .i64 (rd gl1 11)) := (blk_cell BK 1).trans rfl
      clear hz BK hq0 hq1 hf0 hc
      go_wp2
      repeat (go_quiet (fail); try go_wp2)
      go_ret2
      exact ⟨rfl, by repeat (first | exact HB2.out | apply below_alloc | apply pw_below_drewN | apply below_drew1)⟩
    · go_enter Tryd.func10, Tryd.ntmps10
      go_wp2_with (first | (go_at_call 12; (with_reducible refine (op_Known.calls a0 true _ HK.out).mono ?_); rintro e w' ⟨rfl, ⟨nd, rfl⟩⟩) | (go_at_call 25; (with_reducible refine (op_sign.calls k a0 6 _ HS.out).mono ?_); rintro e w' ⟨rfl, ⟨nd2, rfl⟩⟩))
      generalize hz : World.setCell _ _ _ = wz
      have BK : wz.heap[w.heap.size]? = some (.cells #[.int .i64 (rd gl1 12), .int .i64 (rd gl1 13)] 43 (0, 0)) := by
        rw [← hz]
        refine blk_put (cs := #[.int .i64 (rd gl1 12), .int .i64 0]) ?_ 1 _ rfl
        refine blk_put (cs := #[.int .i64 0, .int .i64 0]) ?_ 0 _ rfl
        exact blk_new (w.drewN _) _
      have HB2 := Aside0.mk (show Below w.heap.size w wz by rw [← hz]; exact below_set (below_set (below_alloc (pw_below_drewN HB.out _) _) (Nat.le_refl _)) (Nat.le_refl _))
      have c0 : wz.cell? ⟨w.heap.size, 0, none⟩ = some (.int .i64 (rd gl1 12)) := (blk_cell BK 0).trans rfl
      have c1 : wz.cell? ⟨w.heap.size, 1, none⟩ = some (.int .i64 (rd gl1 13)) := (blk_cell BK 1).trans rfl
      clear hz BK hq0 hq1 hf0 hc
      go_wp2
      repeat (go_quiet (fail); try go_wp2)
      go_ret2
      exact ⟨rfl, by repeat (first | exact HB2.out | apply below_alloc | apply pw_below_drewN | apply below_drew1)⟩
    · go_enter Tryd.func10, Tryd.ntmps10
      go_wp2_with (first | (go_at_call 12; (with_reducible refine (op_Known.calls a0 true _ HK.out).mono ?_); rintro e w' ⟨rfl, ⟨nd, rfl⟩⟩) | (go_at_call 25; (with_reducible refine (op_sign.calls k a0 7 _ HS.out).mono ?_); rintro e w' ⟨rfl, ⟨nd2, rfl⟩⟩))
      generalize hz : World.setCell _ _ _ = wz
      have BK : wz.heap[w.heap.size]? = some (.cells #[.int .i64 (rd gl1 14), .int .i64 (rd gl1 15)] 43 (0, 0)) := by
        rw [← hz]
        refine blk_put (cs := #[.int .i64 (rd gl1 14), .int .i64 0]) ?_ 1 _ rfl
        refine blk_put (cs := #[.int .i64 0, .int .i64 0]) ?_ 0 _ rfl
        exact blk_new (w.drewN _) _
      have HB2 := Aside0.mk (show Below w.heap.size w wz by rw [← hz]; exact below_set (below_set (below_alloc (pw_below_drewN HB.out _) _) (Nat.le_refl _)) (Nat.le_refl _))
      have c0 : wz.cell? ⟨w.heap.size, 0, none⟩ = some (.int .i64 (rd gl1 14)) := (blk_cell BK 0).trans rfl
      have c1 : wz.cell? ⟨w.heap.size, 1, none⟩ = some (.int .i64 (rd gl1 15)) := (blk_cell BK 1).trans rfl
      clear hz BK hq0 hq1 hf0 hc
      go_wp2
      repeat (go_quiet (fail); try go_wp2)
      go_ret2
      exact ⟨rfl, by repeat (first | exact HB2.out | apply below_alloc | apply pw_below_drewN | apply below_drew1)⟩
    · go_enter Tryd.func10, Tryd.ntmps10
      go_wp2_with (first | (go_at_call 12; (with_reducible refine (op_Known.calls a0 true _ HK.out).mono ?_); rintro e w' ⟨rfl, ⟨nd, rfl⟩⟩) | (go_at_call 25; (with_reducible refine (op_sign.calls k a0 8 _ HS.out).mono ?_); rintro e w' ⟨rfl, ⟨nd2, rfl⟩⟩))
      generalize hz : World.setCell _ _ _ = wz
      have BK : wz.heap[w.heap.size]? = some (.cells #[.int .i64 (rd gl1 16), .int .i64 (rd gl1 17)] 43 (0, 0)) := by
        rw [← hz]
        refine blk_put (cs := #[.int .i64 (rd gl1 16), .int .i64 0]) ?_ 1 _ rfl
        refine blk_put (cs := #[.int .i64 0, .int .i64 0]) ?_ 0 _ rfl
        exact blk_new (w.drewN _) _
      have HB2 := Aside0.mk (show Below w.heap.size w wz by rw [← hz]; exact below_set (below_set (below_alloc (pw_below_drewN HB.out _) _) (Nat.le_refl _)) (Nat.le_refl _))
      have c0 : wz.cell? ⟨w.heap.size, 0, none⟩ = some (.int .i64 (rd gl1 16)) := (blk_cell BK 0).trans rfl
      have c1 : wz.cell? ⟨w.heap.size, 1, none⟩ = some (.int .i64 (rd gl1 17)) := (blk_cell BK 1).trans rfl
      clear hz BK hq0 hq1 hf0 hc
      go_wp2
      repeat (go_quiet (fail); try go_wp2)
      go_ret2
      exact ⟨rfl, by repeat (first | exact HB2.out | apply below_alloc | apply pw_below_drewN | apply below_drew1)⟩

/-! ### op_Name: function 14 -/
def op_Name.f (a0 : Int) : Option (ByteArray) := (op_Known.f a0).bind fun t103 => (if t103 = true then (if 0 ≤ a0 then (if a0 < (gl0.length : Int) then (some (rdOf ByteArray.empty gl0 a0)) else (none)) else (none)) else (some (⟨#[]⟩ : ByteArray)))
set_option maxHeartbeats 8000000 in
set_option maxRecDepth 100000 in
theorem op_Name.calls (a0 : Int) (r : ByteArray) (w : World) (hG : Gl w) (h : op_Name.f a0 = some r) :
    Calls Tryd.prog 14 #[.int .u8 a0] w fun e w' => e = .returned (.string r) ∧ Drawn0 w w' := by
  have HG := Aside0.mk hG
  clear hG
  have HRG0 := Aside0.mk HG.out.g0
  have hal0 : Tryd.prog.arrayLen 42 = 33 := by kernel_rfl
  have H : ((op_Known.f a0).bind fun t103 => (if t103 = true then (if 0 ≤ a0 then (if a0 < (gl0.length : Int) then (some (rdOf ByteArray.empty gl0 a0)) else (none)) else (none)) else (some (⟨#[]⟩ : ByteArray)))) = some r := h
  clear h
  replace H := Option.bind_eq_some_iff.mp H
  obtain ⟨t103, A20, H⟩ := H
  replace H : (if t103 = true then (if 0 ≤ a0 then (if a0 < (gl0.length : Int) then (some (rdOf ByteArray.empty gl0 a0)) else (none)) else (none)) else (some (⟨#[]⟩ : ByteArray))) = some r := H
  have A2 := Aside0.mk A20
  clear A20
  by_cases c3 : t103 = true
  · subst c3
    have H1 : (if 0 ≤ a0 then (if a0 < (gl0.length : Int) then (some (rdOf ByteArray.empty gl0 a0)) else (none)) else (none)) = some r := by rw [if_pos rfl] at H; exact H
    clear H
    have H := H1
    clear H1
    by_cases c4 : 0 ≤ a0
    · rw [if_pos c4] at H
      have c4b0 : decide (0 ≤ a0) = true := decide_eq_true c4
      clear c4
      by_cases c5 : a0 < (gl0.length : Int)
      · rw [if_pos c5] at H
        have c5b0 : decide (a0 < (gl0.length : Int)) = true := decide_eq_true c5
        clear c5
        obtain rfl := Option.some.inj H
        go_enter Tryd.func14, Tryd.ntmps14
        go_wp2_with (first | ((with_reducible refine gate_callee (f := 12) rfl ?_); refine goesL_ (some 4) rfl rfl Tryd.func12 (by kernel_rfl) rfl #[.int .u8 a0] rfl (by (try simp only [List.map_toArray, List.map_cons, List.map_nil]); first | done | rfl | (simp only [List.length_drop, List.length_take]; rfl)) ?_; (with_reducible refine (op_Known.calls a0 true _ A2.out).mono ?_); rintro e w' ⟨rfl, ⟨nd, rfl⟩⟩; refine ⟨_, rfl, ?_⟩; have p104 : 0 ≤ (a0 : Int) := of_decide_eq_true (by first | (with_reducible assumption) | assumption); have q104 : a0 < (gl0.length : Int) := of_decide_eq_true (by first | (with_reducible assumption) | assumption); have qn104 : ((a0 : Int) < 33) = True := eq_true (by have e_ : gl0.length = 33 := rfl; have h_ := q104; rw [e_] at h_; omega); obtain ⟨ad104, e104, hx104_0⟩ := Kd.at_string HRG0.out a0 p104 q104; obtain rfl : (⟨0, 0, none⟩ : Addr) = ad104 := (by injection e104); (first | simp only [add_plain] at hx104_0 | simp only [add_at] at hx104_0 | simp only [Addr.add, Nat.zero_add] at hx104_0 | skip); replace p104 := eq_true p104; replace q104 := eq_true q104))
        go_ret
        exact ⟨by first | rfl | (simp; done) | (simp [*]; done), by repeat (first | exact Drawn0.refl _ | apply Drawn0.step)⟩
      · rw [if_neg c5] at H
        exact absurd H (by simp)
    · rw [if_neg c4] at H
      exact absurd H (by simp)
  · replace c3 := Bool.eq_false_iff.mpr c3
    subst c3
    have H1 : (some (⟨#[]⟩ : ByteArray)) = some r := by rw [if_neg (show ¬ (false = true) by decide)] at H; exact H
    clear H
    have H := H1
    clear H1
    obtain rfl := Option.some.inj H
    go_enter Tryd.func14, Tryd.ntmps14
    go_wp2_with (first | ((with_reducible refine gate_callee (f := 12) rfl ?_); refine goesL_ (some 4) rfl rfl Tryd.func12 (by kernel_rfl) rfl #[.int .u8 a0] rfl (by (try simp only [List.map_toArray, List.map_cons, List.map_nil]); first | done | rfl | (simp only [List.length_drop, List.length_take]; rfl)) ?_; (with_reducible refine (op_Known.calls a0 false _ A2.out).mono ?_); rintro e w' ⟨rfl, ⟨nd, rfl⟩⟩; refine ⟨_, rfl, ?_⟩))
    go_ret
    exact ⟨by first | rfl | (simp; done) | (simp [*]; done), by repeat (first | exact Drawn0.refl _ | apply Drawn0.step)⟩

/-! ### op_May: function 16 -/
def op_May.f (k : Nat) (a0_0 : Int) (a0_1 : Int) (a0_2 : Int) : Option (Bool) := (op_Bounds.f k a0_0).bind fun bt106 => (if a0_1 ≥ bt106.1 then (if a0_1 ≤ bt106.2 then (some (a0_2 == 0)) else (some false)) else (some false))
theorem op_May.mono : ∀ a0 a1 a2 k, LeO (op_May.f k a0 a1 a2) (op_May.f (k + 1) a0 a1 a2) := by
  intro a0 a1 a2 k
  unfold op_May.f
  repeat' first
      | (with_reducible exact op_Bounds.mono _ _)
      | (with_reducible exact LeO.refl _)
      | (with_reducible exact LeO.none _)
      | (with_reducible refine LeO.ite ?_ ?_)
      | (with_reducible refine LeO.bind ?_ (fun _ => ?_))
      | exact op_Bounds.mono _ _
      | exact LeO.none _
      | refine LeO.ite ?_ ?_
      | refine LeO.bind ?_ (fun _ => ?_)
set_option maxHeartbeats 8000000 in
set_option maxRecDepth 100000 in
theorem op_May.calls (k : Nat) (a0_0 : Int) (a0_1 : Int) (a0_2 : Int) (r : Bool) (w : World) (hG : Gl w) (h : op_May.f k a0_0 a0_1 a0_2 = some r) :
    Calls Tryd.prog 16 #[.agg #[.int .u8 a0_0, .int .i64 a0_1, .int .i64 a0_2]] w fun e w' => e = .returned (.bool r) ∧ Below w.heap.size w w' := by
  have hu26 := Tryd.underlying26
  have HG := Aside0.mk hG
  clear hG
  have HB := Aside0.mk (Below.refl w.heap.size w)
  have H : ((op_Bounds.f k a0_0).bind fun bt106 => (if a0_1 ≥ bt106.1 then (if a0_1 ≤ bt106.2 then (some (a0_2 == 0)) else (some false)) else (some false))) = some r := h
  clear h
  replace H := Option.bind_eq_some_iff.mp H
  obtain ⟨⟨t106, t107⟩, A20, H⟩ := H
  replace H : (if a0_1 ≥ t106 then (if a0_1 ≤ t107 then (some (a0_2 == 0)) else (some false)) else (some false)) = some r := H
  have A2 := Aside0.mk A20
  clear A20
  by_cases c3 : a0_1 ≥ t106
  · rw [if_pos c3] at H
    have c3b0 : decide (t106 ≤ a0_1) = true := decide_eq_true c3
    clear c3
    by_cases c4 : a0_1 ≤ t107
    · rw [if_pos c4] at H
      have c4b0 : decide (a0_1 ≤ t107) = true := decide_eq_true c4
      clear c4
      obtain rfl := Option.some.inj H
      go_enter Tryd.func16, Tryd.ntmps16
      go_wp2_with (first | ((with_reducible refine gate_dst (N := 1) rfl ?_); refine box_event ?hg (N := 1) ?hd (cs := #[.int .u8 a0_0, .int .i64 a0_1, .int .i64 a0_2]) (t := 26) ?hr ?_; (case hd => rfl); (case hg => rfl); (case hr => first | (go_simp; done) | (go_simp; rfl)); intro gb105 hg w5 hbox hb; have n0_ := Aside0.mk (below_step (by repeat (first | (with_reducible first | exact HB.out | apply below_alloc | apply pw_below_drewN | apply below_drew1) | exact HB.out | exact ⟨HB.out.os, HB.out.tape, HB.out.output, HB.out.size, HB.out.block⟩)) hb); have n1_ := Aside0.mk (hbox); have n2_ := Aside0.mk ((by rw [hg]; exact (below_size (by repeat (first | (with_reducible first | exact HB.out | apply below_alloc | apply pw_below_drewN | apply below_drew1) | exact HB.out | exact ⟨HB.out.os, HB.out.tape, HB.out.output, HB.out.size, HB.out.block⟩))) : w.heap.size ≤ gb105)); have n3_ := Aside0.mk ((by rw [hg]; exact (below_size (by repeat (first | (with_reducible first | exact HB.out | apply below_alloc | apply pw_below_drewN | apply below_drew1) | exact HB.out | exact ⟨HB.out.os, HB.out.tape, HB.out.output, HB.out.size, HB.out.block⟩))) : w.heap.size ≤ gb105)); clear HB; have HB := n0_; have BK105 := n1_; have GW105 := n2_; have GE105 := n3_; clear n0_ n1_ n2_ n3_; clear hb hbox hg; have hcz6_0 : w5.cell? ⟨gb105, 0, none⟩ = some (.int .u8 a0_0) := (blk_cell BK105.out 0).trans rfl; have hcz6_1 : w5.cell? ⟨gb105, 1, none⟩ = some (.int .i64 a0_1) := (blk_cell BK105.out 1).trans rfl; have hcz6_2 : w5.cell? ⟨gb105, 2, none⟩ = some (.int .i64 a0_2) := (blk_cell BK105.out 2).trans rfl; have hfz6_0 := blk_frozen BK105.out 0; have hfz6_1 := blk_frozen BK105.out 1; have hfz6_2 := blk_frozen BK105.out 2) | ((with_reducible refine gate_callee (f := 10) rfl ?_); refine goesL_ (some 8) rfl rfl Tryd.func10 (by kernel_rfl) rfl #[.int .u8 a0_0] rfl (by (try simp only [List.map_toArray, List.map_cons, List.map_nil]); first | done | rfl | (simp only [List.length_drop, List.length_take]; rfl)) ?_; (with_reducible refine (op_Bounds.calls k a0_0 t106 t107 _ ?side1 A2.out).mono ?_); (case side1 => first | exact HG.out | ((repeat (first | exact HG.out | exact Gl.below HG.out HB.out | (with_reducible refine Gl.alloc ?_ _) | (with_reducible refine Gl.drewN ?_ _) | (with_reducible refine Gl.drew ?_))); done) | exact Gl.below HG.out (by repeat (first | (with_reducible first | exact HB.out | apply below_alloc | apply pw_below_drewN | apply below_drew1 | refine below_set ?_ GE105.out) | exact HB.out | exact ⟨HB.out.os, HB.out.tape, HB.out.output, HB.out.size, HB.out.block⟩))); rintro e w7 ⟨rfl, hb⟩; refine ⟨_, rfl, ?_⟩; have n0_ := Aside0.mk (blk_below (g := gb105) (o := .cells #[.int .u8 a0_0, .int .i64 a0_1, .int .i64 a0_2] 26 (0, 0)) (by (with_reducible repeat (first | refine blk_drewN ?_ _ | refine blk_drew ?_ | refine blk_alloc ?_ _)); exact BK105.out) hb); have n1_ := Aside0.mk (below_step (by repeat (first | (with_reducible first | exact HB.out | apply below_alloc | apply pw_below_drewN | apply below_drew1 | refine below_set ?_ GE105.out) | exact HB.out | exact ⟨HB.out.os, HB.out.tape, HB.out.output, HB.out.size, HB.out.block⟩)) hb); clear BK105; clear HB; have BK105 := n0_; have HB := n1_; clear n0_ n1_; (try clear hb); (try clear hb2); (try clear hk); (try clear hi); have hcz8_0 : w7.cell? ⟨gb105, 0, none⟩ = some (.int .u8 a0_0) := (blk_cell BK105.out 0).trans rfl; have hcz8_1 : w7.cell? ⟨gb105, 1, none⟩ = some (.int .i64 a0_1) := (blk_cell BK105.out 1).trans rfl; have hcz8_2 : w7.cell? ⟨gb105, 2, none⟩ = some (.int .i64 a0_2) := (blk_cell BK105.out 2).trans rfl; have hfz8_0 := blk_frozen BK105.out 0; have hfz8_1 := blk_frozen BK105.out 1; have hfz8_2 := blk_frozen BK105.out 2))
      go_ret
      exact ⟨by first | rfl | (simp [errW_none, errW_some] <;> rfl) | (simp [*, errW_none, errW_some] <;> rfl), by repeat (first | (with_reducible first | exact HB.out | apply below_alloc | apply pw_below_drewN | apply below_drew1 | refine below_set ?_ GE105.out) | exact HB.out | exact ⟨HB.out.os, HB.out.tape, HB.out.output, HB.out.size, HB.out.block⟩)⟩
    · rw [if_neg c4] at H
      have c4b0 : decide (a0_1 ≤ t107) = false := decide_eq_false c4
      clear c4
      obtain rfl := Option.some.inj H
      go_enter Tryd.func16, Tryd.ntmps16
      go_wp2_with (first | ((with_reducible refine gate_dst (N := 1) rfl ?_); refine box_event ?hg (N := 1) ?hd (cs := #[.int .u8 a0_0, .int .i64 a0_1, .int .i64 a0_2]) (t := 26) ?hr ?_; (case hd => rfl); (case hg => rfl); (case hr => first | (go_simp; done) | (go_simp; rfl)); intro gb105 hg w9 hbox hb; have n0_ := Aside0.mk (below_step (by repeat (first | (with_reducible first | exact HB.out | apply below_alloc | apply pw_below_drewN | apply below_drew1) | exact HB.out | exact ⟨HB.out.os, HB.out.tape, HB.out.output, HB.out.size, HB.out.block⟩)) hb); have n1_ := Aside0.mk (hbox); have n2_ := Aside0.mk ((by rw [hg]; exact (below_size (by repeat (first | (with_reducible first | exact HB.out | apply below_alloc | apply pw_below_drewN | apply below_drew1) | exact HB.out | exact ⟨HB.out.os, HB.out.tape, HB.out.output, HB.out.size, HB.out.block⟩))) : w.heap.size ≤ gb105)); have n3_ := Aside0.mk ((by rw [hg]; exact (below_size (by repeat (first | (with_reducible first | exact HB.out | apply below_alloc | apply pw_below_drewN | apply below_drew1) | exact HB.out | exact ⟨HB.out.os, HB.out.tape, HB.out.output, HB.out.size, HB.out.block⟩))) : w.heap.size ≤ gb105)); clear HB; have HB := n0_; have BK105 := n1_; have GW105 := n2_; have GE105 := n3_; clear n0_ n1_ n2_ n3_; clear hb hbox hg; have hcz10_0 : w9.cell? ⟨gb105, 0, none⟩ = some (.int .u8 a0_0) := (blk_cell BK105.out 0).trans rfl; have hcz10_1 : w9.cell? ⟨gb105, 1, none⟩ = some (.int .i64 a0_1) := (blk_cell BK105.out 1).trans rfl; have hcz10_2 : w9.cell? ⟨gb105, 2, none⟩ = some (.int .i64 a0_2) := (blk_cell BK105.out 2).trans rfl; have hfz10_0 := blk_frozen BK105.out 0; have hfz10_1 := blk_frozen BK105.out 1; have hfz10_2 := blk_frozen BK105.out 2) | ((with_reducible refine gate_callee (f := 10) rfl ?_); refine goesL_ (some 8) rfl rfl Tryd.func10 (by kernel_rfl) rfl #[.int .u8 a0_0] rfl (by (try simp only [List.map_toArray, List.map_cons, List.map_nil]); first | done | rfl | (simp only [List.length_drop, List.length_take]; rfl)) ?_; (with_reducible refine (op_Bounds.calls k a0_0 t106 t107 _ ?side1 A2.out).mono ?_); (case side1 => first | exact HG.out | ((repeat (first | exact HG.out | exact Gl.below HG.out HB.out | (with_reducible refine Gl.alloc ?_ _) | (with_reducible refine Gl.drewN ?_ _) | (with_reducible refine Gl.drew ?_))); done) | exact Gl.below HG.out (by repeat (first | (with_reducible first | exact HB.out | apply below_alloc | apply pw_below_drewN | apply below_drew1 | refine below_set ?_ GE105.out) | exact HB.out | exact ⟨HB.out.os, HB.out.tape, HB.out.output, HB.out.size, HB.out.block⟩))); rintro e w11 ⟨rfl, hb⟩; refine ⟨_, rfl, ?_⟩; have n0_ := Aside0.mk (blk_below (g := gb105) (o := .cells #[.int .u8 a0_0, .int .i64 a0_1, .int .i64 a0_2] 26 (0, 0)) (by (with_reducible repeat (first | refine blk_drewN ?_ _ | refine blk_drew ?_ | refine blk_alloc ?_ _)); exact BK105.out) hb); have n1_ := Aside0.mk (below_step (by repeat (first | (with_reducible first | exact HB.out | apply below_alloc | apply pw_below_drewN | apply below_drew1 | refine below_set ?_ GE105.out) | exact HB.out | exact ⟨HB.out.os, HB.out.tape, HB.out.output, HB.out.size, HB.out.block⟩)) hb); clear BK105; clear HB; have BK105 := n0_; have HB := n1_; clear n0_ n1_; (try clear hb); (try clear hb2); (try clear hk); (try clear hi); have hcz12_0 : w11.cell? ⟨gb105, 0, none⟩ = some (.int .u8 a0_0) := (blk_cell BK105.out 0).trans rfl; have hcz12_1 : w11.cell? ⟨gb105, 1, none⟩ = some (.int .i64 a0_1) := (blk_cell BK105.out 1).trans rfl; have hcz12_2 : w11.cell? ⟨gb105, 2, none⟩ = some (.int .i64 a0_2) := (blk_cell BK105.out 2).trans rfl; have hfz12_0 := blk_frozen BK105.out 0; have hfz12_1 := blk_frozen BK105.out 1; have hfz12_2 := blk_frozen BK105.out 2))
      go_ret
      exact ⟨by first | rfl | (simp [errW_none, errW_some] <;> rfl) | (simp [*, errW_none, errW_some] <;> rfl), by repeat (first | (with_reducible first | exact HB.out | apply below_alloc | apply pw_below_drewN | apply below_drew1 | refine below_set ?_ GE105.out) | exact HB.out | exact ⟨HB.out.os, HB.out.tape, HB.out.output, HB.out.size, HB.out.block⟩)⟩
  · rw [if_neg c3] at H
    have c3b0 : decide (t106 ≤ a0_1) = false := decide_eq_false c3
    clear c3
    obtain rfl := Option.some.inj H
    go_enter Tryd.func16, Tryd.ntmps16
    go_wp2_with (first | ((with_reducible refine gate_dst (N := 1) rfl ?_); refine box_event ?hg (N := 1) ?hd (cs := #[.int .u8 a0_0, .int .i64 a0_1, .int .i64 a0_2]) (t := 26) ?hr ?_; (case hd => rfl); (case hg => rfl); (case hr => first | (go_simp; done) | (go_simp; rfl)); intro gb105 hg w13 hbox hb; have n0_ := Aside0.mk (below_step (by repeat (first | (with_reducible first | exact HB.out | apply below_alloc | apply pw_below_drewN | apply below_drew1) | exact HB.out | exact ⟨HB.out.os, HB.out.tape, HB.out.output, HB.out.size, HB.out.block⟩)) hb); have n1_ := Aside0.mk (hbox); have n2_ := Aside0.mk ((by rw [hg]; exact (below_size (by repeat (first | (with_reducible first | exact HB.out | apply below_alloc | apply pw_below_drewN | apply below_drew1) | exact HB.out | exact ⟨HB.out.os, HB.out.tape, HB.out.output, HB.out.size, HB.out.block⟩))) : w.heap.size ≤ gb105)); have n3_ := Aside0.mk ((by rw [hg]; exact (below_size (by repeat (first | (with_reducible first | exact HB.out | apply below_alloc | apply pw_below_drewN | apply below_drew1) | exact HB.out | exact ⟨HB.out.os, HB.out.tape, HB.out.output, HB.out.size, HB.out.block⟩))) : w.heap.size ≤ gb105)); clear HB; have HB := n0_; have BK105 := n1_; have GW105 := n2_; have GE105 := n3_; clear n0_ n1_ n2_ n3_; clear hb hbox hg; have hcz14_0 : w13.cell? ⟨gb105, 0, none⟩ = some (.int .u8 a0_0) := (blk_cell BK105.out 0).trans rfl; have hcz14_1 : w13.cell? ⟨gb105, 1, none⟩ = some (.int .i64 a0_1) := (blk_cell BK105.out 1).trans rfl; have hcz14_2 : w13.cell? ⟨gb105, 2, none⟩ = some (.int .i64 a0_2) := (blk_cell BK105.out 2).trans rfl; have hfz14_0 := blk_frozen BK105.out 0; have hfz14_1 := blk_frozen BK105.out 1; have hfz14_2 := blk_frozen BK105.out 2) | ((with_reducible refine gate_callee (f := 10) rfl ?_); refine goesL_ (some 8) rfl rfl Tryd.func10 (by kernel_rfl) rfl #[.int .u8 a0_0] rfl (by (try simp only [List.map_toArray, List.map_cons, List.map_nil]); first | done | rfl | (simp only [List.length_drop, List.length_take]; rfl)) ?_; (with_reducible refine (op_Bounds.calls k a0_0 t106 t107 _ ?side1 A2.out).mono ?_); (case side1 => first | exact HG.out | ((repeat (first | exact HG.out | exact Gl.below HG.out HB.out | (with_reducible refine Gl.alloc ?_ _) | (with_reducible refine Gl.drewN ?_ _) | (with_reducible refine Gl.drew ?_))); done) | exact Gl.below HG.out (by repeat (first | (with_reducible first | exact HB.out | apply below_alloc | apply pw_below_drewN | apply below_drew1 | refine below_set ?_ GE105.out) | exact HB.out | exact ⟨HB.out.os, HB.out.tape, HB.out.output, HB.out.size, HB.out.block⟩))); rintro e w15 ⟨rfl, hb⟩; refine ⟨_, rfl, ?_⟩; have n0_ := Aside0.mk (blk_below (g := gb105) (o := .cells #[.int .u8 a0_0, .int .i64 a0_1, .int .i64 a0_2] 26 (0, 0)) (by (with_reducible repeat (first | refine blk_drewN ?_ _ | refine blk_drew ?_ | refine blk_alloc ?_ _)); exact BK105.out) hb); have n1_ := Aside0.mk (below_step (by repeat (first | (with_reducible first | exact HB.out | apply below_alloc | apply pw_below_drewN | apply below_drew1 | refine below_set ?_ GE105.out) | exact HB.out | exact ⟨HB.out.os, HB.out.tape, HB.out.output, HB.out.size, HB.out.block⟩)) hb); clear BK105; clear HB; have BK105 := n0_; have HB := n1_; clear n0_ n1_; (try clear hb); (try clear hb2); (try clear hk); (try clear hi); have hcz16_0 : w15.cell? ⟨gb105, 0, none⟩ = some (.int .u8 a0_0) := (blk_cell BK105.out 0).trans rfl; have hcz16_1 : w15.cell? ⟨gb105, 1, none⟩ = some (.int .i64 a0_1) := (blk_cell BK105.out 1).trans rfl; have hcz16_2 : w15.cell? ⟨gb105, 2, none⟩ = some (.int .i64 a0_2) := (blk_cell BK105.out 2).trans rfl; have hfz16_0 := blk_frozen BK105.out 0; have hfz16_1 := blk_frozen BK105.out 1; have hfz16_2 := blk_frozen BK105.out 2))
    go_ret
    exact ⟨by first | rfl | (simp [errW_none, errW_some] <;> rfl) | (simp [*, errW_none, errW_some] <;> rfl), by repeat (first | (with_reducible first | exact HB.out | apply below_alloc | apply pw_below_drewN | apply below_drew1 | refine below_set ?_ GE105.out) | exact HB.out | exact ⟨HB.out.os, HB.out.tape, HB.out.output, HB.out.size, HB.out.block⟩)⟩

-- NOT PRINTED: function 26 (op_Shape_take)

end Go.Proofs.YtahkaekiandchaaDoor.R
