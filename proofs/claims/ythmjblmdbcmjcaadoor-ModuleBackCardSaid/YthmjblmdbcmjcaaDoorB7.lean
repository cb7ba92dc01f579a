/- Contracts of functions of this seat. -/
import Derived.Test.YthmjblmdbcmjcaaDoorB0
import Derived.Test.YthmjblmdbcmjcaaDoorB6
namespace Go.Proofs.YthmjblmdbcmjcaaDoor.B
open Go.RowKit Go.Proofs.YthmjblmdbcmjcaaDoorW.PrintWords Go.Proofs.YthmjblmdbcmjcaaDoorW.PrintLast Go.Proofs.YthmjblmdbcmjcaaDoorW.PrintMore
attribute [local go_sem] max2_int min2_int max_two min_two max_three min_three max_four min_four
set_option linter.unusedVariables false
set_option linter.unusedSimpArgs false

/-! ### op_sign: function 117 -/
mutual
def op_sign.j0 : Nat → Int → Bool → Option (Int)
 | 0, _, _ => none
 | k + 1, x3, x6 => if x6 = true then (some 2) else (if x3 = 4 then (op_sign.j1 k x3 (x3 == 4)) else (op_sign.j1 k x3 (x3 == 5)))
def op_sign.j1 : Nat → Int → Bool → Option (Int)
 | 0, _, _ => none
 | k + 1, x3, x9 => if x9 = true then (some 3) else (if x3 = 22 then (some 4) else (if x3 = 26 then (op_sign.j2 k x3 (x3 == 26)) else (if x3 = 27 then (op_sign.j2 k x3 (x3 == 27)) else (op_sign.j2 k x3 (x3 == 29)))))
def op_sign.j2 : Nat → Int → Bool → Option (Int)
 | 0, _, _ => none
 | k + 1, x3, x14 => if x14 = true then (some 5) else (if x3 = 30 then (some 6) else (if x3 = 32 then (some 7) else (if x3 = 28 then (some 8) else (some 0))))
end
def op_sign.f (k : Nat) (a0 : Int) : Option (Int) := if a0 = 1 then (some 1) else (if a0 = 2 then (op_sign.j0 k a0 (a0 == 2)) else (op_sign.j0 k a0 (a0 == 3)))
theorem op_sign.mono_l : ∀ k, (∀ y0 y1, LeO (op_sign.j0 k y0 y1) (op_sign.j0 (k + 1) y0 y1)) ∧ (∀ y0 y1, LeO (op_sign.j1 k y0 y1) (op_sign.j1 (k + 1) y0 y1)) ∧ (∀ y0 y1, LeO (op_sign.j2 k y0 y1) (op_sign.j2 (k + 1) y0 y1))
 | 0 => ⟨fun _ _ r h => by simp [op_sign.j0] at h, fun _ _ r h => by simp [op_sign.j1] at h, fun _ _ r h => by simp [op_sign.j2] at h⟩
 | k + 1 => by
  obtain ⟨ih0, ih1, ih2⟩ := op_sign.mono_l k; refine ⟨?_, ?_, ?_⟩
  ·
   intro y0 y1
   unfold op_sign.j0
   repeat' first | (with_reducible first | apply ih0 | apply ih1 | apply ih2 | apply LeO.refl | apply LeO.none | refine LeO.ite ?_ ?_ | refine LeO.bind ?_ (fun _ => ?_)) | apply ih0 | apply ih1 | apply ih2 | apply LeO.none | refine LeO.ite ?_ ?_ | refine LeO.bind ?_ (fun _ => ?_)
  ·
   intro y0 y1
   unfold op_sign.j1
   repeat' first | (with_reducible first | apply ih0 | apply ih1 | apply ih2 | apply LeO.refl | apply LeO.none | refine LeO.ite ?_ ?_ | refine LeO.bind ?_ (fun _ => ?_)) | apply ih0 | apply ih1 | apply ih2 | apply LeO.none | refine LeO.ite ?_ ?_ | refine LeO.bind ?_ (fun _ => ?_)
  ·
   intro y0 y1
   unfold op_sign.j2
   repeat' first | (with_reducible first | apply ih0 | apply ih1 | apply ih2 | apply LeO.refl | apply LeO.none | refine LeO.ite ?_ ?_ | refine LeO.bind ?_ (fun _ => ?_)) | apply ih0 | apply ih1 | apply ih2 | apply LeO.none | refine LeO.ite ?_ ?_ | refine LeO.bind ?_ (fun _ => ?_)
theorem op_sign.mono : ∀ a0 k, LeO (op_sign.f k a0) (op_sign.f (k + 1) a0) := by
 intro a0 k; obtain ⟨ih0, ih1, ih2⟩ := op_sign.mono_l k
 unfold op_sign.f
 repeat' first | (with_reducible first | apply ih0 | apply ih1 | apply ih2 | apply LeO.refl | apply LeO.none | refine LeO.ite ?_ ?_ | refine LeO.bind ?_ (fun _ => ?_)) | apply ih0 | apply ih1 | apply ih2 | apply LeO.none | refine LeO.ite ?_ ?_ | refine LeO.bind ?_ (fun _ => ?_)
set_option maxHeartbeats 8000000 in
set_option maxRecDepth 100000 in
theorem op_sign.calls (k : Nat) (a0 : Int) (r : Int) (w : World) (h : op_sign.f k a0 = some r) :
  Calls Tryd.prog 117 #[.int .u8 a0] w fun e w' => e = .returned (.int .i64 r) ∧ Drawn0 w w' := by
 have H := h; unfold op_sign.f at H; clear h
 by_cases c2 : a0 = 1
 ·
  rw [if_pos c2] at H; have c2b0 := beq_iff_eq.mpr c2; have c2b1 := bne_eq_false_iff_eq.mpr c2; clear c2; obtain rfl := Option.some.inj H
  go_enter Tryd.func117, Tryd.ntmps117
  go_wp2; go_ret; exact ⟨au16, au30⟩
 ·
  rw [if_neg c2] at H; have c2b0 := beq_eq_false_iff_ne.mpr c2; have c2b1 := bne_iff_ne.mpr c2; have HC3 := Aside0.mk H; clear H
  go_enter Tryd.func117, Tryd.ntmps117
  go_upto_if 6 with (fail)
  go_cut [6] (fun v6 wc => ∃ (kq : Nat) (x6_2 : Bool), v6 = .bool x6_2 ∧ Aside0 (op_sign.j0 kq a0 x6_2 = some r) ∧ Aside0 (kq ≤ k) ∧ Drawn0 w wc)
  case first =>
   have H := HC3.out; clear HC3
   by_cases c4 : a0 = 2
   rotate_left
   ·
    rw [if_neg c4] at H; have c4b0 := beq_eq_false_iff_ne.mpr c4; have c4b1 := bne_iff_ne.mpr c4
    (first | rw [c4b0] | (simp only [i64_w, i32_w]; rw [c4b0]) | skip)
    have H' := Aside0.mk H; clear H; go_wp2; go_meet
    case rel => exact ⟨_, ((a0 == 3)), (au16), H', ⟨au117⟩, au30⟩
   rw [if_pos c4] at H; have c4b0 := beq_iff_eq.mpr c4; have c4b1 := bne_eq_false_iff_eq.mpr c4; clear c4
   (first | rw [c4b0] | (simp only [i64_w, i32_w]; rw [c4b0]) | skip)
   have H' := Aside0.mk H; clear H; go_wp2; go_meet
   case rel => exact ⟨_, ((a0 == 2)), (au16), H', ⟨au117⟩, au30⟩
  case rest =>
   clear HC3; (try clear c2); (try clear c2b0); (try clear c2b1); obtain ⟨kq, x6_2, rfl, HA, HJ2, ⟨mc2, rfl⟩⟩ := hcut
   cases kq with
   | zero => exact absurd HA.out (by simp [op_sign.j0])
   | succ kj2 =>
    have H := HA.out; clear HA; simp only [op_sign.j0] at H
    by_cases c5 : x6_2 = true
    ·
     subst c5
     rw [if_pos rfl] at H; obtain rfl := Option.some.inj H; go_wp2; go_ret; exact ⟨au16, au30⟩
    ·
     replace c5 := Bool.eq_false_iff.mpr c5; subst c5
     rw [sq_f] at H; have HC6 := Aside0.mk H; clear H
     go_upto_if 9 with (fail)
     go_cut [9] (fun v9 wc => ∃ (kq : Nat) (x9_5 : Bool), v9 = .bool x9_5 ∧ Aside0 (op_sign.j1 kq a0 x9_5 = some r) ∧ Aside0 (kq ≤ kj2) ∧ Drawn0 w wc)
     case first =>
      have H := HC6.out; clear HC6
      by_cases c7 : a0 = 4
      rotate_left
      ·
       rw [if_neg c7] at H; have c7b0 := beq_eq_false_iff_ne.mpr c7; have c7b1 := bne_iff_ne.mpr c7
       (first | rw [c7b0] | (simp only [i64_w, i32_w]; rw [c7b0]) | skip)
       have H' := Aside0.mk H; clear H; go_wp2; go_meet
       case rel => exact ⟨_, ((a0 == 5)), (au16), H', ⟨by have := HJ2.out; first | omega | exact Nat.le_refl _⟩, au30⟩
      rw [if_pos c7] at H; have c7b0 := beq_iff_eq.mpr c7; have c7b1 := bne_eq_false_iff_eq.mpr c7; clear c7
      (first | rw [c7b0] | (simp only [i64_w, i32_w]; rw [c7b0]) | skip)
      have H' := Aside0.mk H; clear H; go_wp2; go_meet
      case rel => exact ⟨_, ((a0 == 4)), (au16), H', ⟨by have := HJ2.out; first | omega | exact Nat.le_refl _⟩, au30⟩
     case rest =>
      clear HC6; (try clear c1); (try clear c2); (try clear c2b0); (try clear c2b1); (try clear p2); (try clear c4); (try clear c4b0); (try clear c4b1); (try clear c5); (try clear p2); obtain ⟨kq, x9_5, rfl, HA, HJ5, ⟨mc5, rfl⟩⟩ := hcut
      cases kq with
      | zero => exact absurd HA.out (by simp [op_sign.j1])
      | succ kj5 =>
       have H := HA.out; clear HA; simp only [op_sign.j1] at H
       by_cases c8 : x9_5 = true
       ·
        subst c8
        rw [if_pos rfl] at H; obtain rfl := Option.some.inj H; go_wp2; go_ret; exact ⟨au16, au30⟩
       ·
        replace c8 := Bool.eq_false_iff.mpr c8; subst c8
        rw [sq_f] at H
        by_cases c9 : a0 = 22
        · rw [if_pos c9] at H; have c9b0 := beq_iff_eq.mpr c9; have c9b1 := bne_eq_false_iff_eq.mpr c9; clear c9; obtain rfl := Option.some.inj H; go_wp2; go_ret; exact ⟨au16, au30⟩
        ·
         rw [if_neg c9] at H; have c9b0 := beq_eq_false_iff_ne.mpr c9; have c9b1 := bne_iff_ne.mpr c9; have HC10 := Aside0.mk H; clear H
         go_upto_if 14 with (fail)
         go_cut [14] (fun v14 wc => ∃ (kq : Nat) (x14_9 : Bool), v14 = .bool x14_9 ∧ Aside0 (op_sign.j2 kq a0 x14_9 = some r) ∧ Aside0 (kq ≤ kj5) ∧ Drawn0 w wc)
         case first =>
          have H := HC10.out; clear HC10
          by_cases c11 : a0 = 26
          ·
           rw [if_pos c11] at H; have c11b0 := beq_iff_eq.mpr c11; have c11b1 := bne_eq_false_iff_eq.mpr c11; clear c11
           (first | rw [c11b0] | (simp only [i64_w, i32_w]; rw [c11b0]) | skip)
           have H' := Aside0.mk H; clear H; go_wp2; go_meet
           case rel => exact ⟨_, ((a0 == 26)), (au16), H', ⟨by have := HJ2.out; have := HJ5.out; first | omega | exact Nat.le_refl _⟩, au30⟩
          ·
           rw [if_neg c11] at H; have c11b0 := beq_eq_false_iff_ne.mpr c11; have c11b1 := bne_iff_ne.mpr c11
           (first | rw [c11b0] | (simp only [i64_w, i32_w]; rw [c11b0]) | skip)
           by_cases c12 : a0 = 27
           rotate_left
           ·
            rw [if_neg c12] at H; have c12b0 := beq_eq_false_iff_ne.mpr c12; have c12b1 := bne_iff_ne.mpr c12; have H' := Aside0.mk H; clear H; go_wp2; go_meet
            case rel => exact ⟨_, ((a0 == 29)), (au16), H', ⟨by have := HJ2.out; have := HJ5.out; first | omega | exact Nat.le_refl _⟩, au30⟩
           rw [if_pos c12] at H; have c12b0 := beq_iff_eq.mpr c12; have c12b1 := bne_eq_false_iff_eq.mpr c12; clear c12; have H' := Aside0.mk H; clear H; go_wp2; go_meet
           case rel => exact ⟨_, ((a0 == 27)), (au16), H', ⟨by have := HJ2.out; have := HJ5.out; first | omega | exact Nat.le_refl _⟩, au30⟩
         case rest =>
          clear HC10; (try clear c1); (try clear c2); (try clear c2b0); (try clear c2b1); (try clear p2); (try clear c4); (try clear c4b0); (try clear c4b1); (try clear c5); (try clear c7); (try clear c7b0); (try clear c7b1); (try clear c8); (try clear c9); (try clear c9b0); (try clear c9b1); (try clear p2); obtain ⟨kq, x14_9, rfl, HA, HJ9, ⟨mc9, rfl⟩⟩ := hcut
          cases kq with
          | zero => exact absurd HA.out (by simp [op_sign.j2])
          | succ kj9 =>
           have H := HA.out; clear HA; simp only [op_sign.j2] at H
           by_cases c13 : x14_9 = true
           ·
            subst c13
            rw [if_pos rfl] at H; obtain rfl := Option.some.inj H; go_wp2; go_ret; exact ⟨au16, au30⟩
           ·
            replace c13 := Bool.eq_false_iff.mpr c13; subst c13
            rw [sq_f] at H
            by_cases c14 : a0 = 30
            · rw [if_pos c14] at H; have c14b0 := beq_iff_eq.mpr c14; have c14b1 := bne_eq_false_iff_eq.mpr c14; clear c14; obtain rfl := Option.some.inj H; go_wp2; go_ret; exact ⟨au16, au30⟩
            ·
             rw [if_neg c14] at H; have c14b0 := beq_eq_false_iff_ne.mpr c14; have c14b1 := bne_iff_ne.mpr c14
             by_cases c15 : a0 = 32
             · rw [if_pos c15] at H; have c15b0 := beq_iff_eq.mpr c15; have c15b1 := bne_eq_false_iff_eq.mpr c15; clear c15; obtain rfl := Option.some.inj H; go_wp2; go_ret; exact ⟨au16, au30⟩
             ·
              rw [if_neg c15] at H; have c15b0 := beq_eq_false_iff_ne.mpr c15; have c15b1 := bne_iff_ne.mpr c15
              by_cases c16 : a0 = 28
              · rw [if_pos c16] at H; have c16b0 := beq_iff_eq.mpr c16; have c16b1 := bne_eq_false_iff_eq.mpr c16; clear c16; obtain rfl := Option.some.inj H; go_wp2; go_ret; exact ⟨au16, au30⟩
              · rw [if_neg c16] at H; have c16b0 := beq_eq_false_iff_ne.mpr c16; have c16b1 := bne_iff_ne.mpr c16; obtain rfl := Option.some.inj H; go_wp2; go_ret; exact ⟨au16, au30⟩

/-! ### op_Bounds: function 99 -/
def op_Bounds.f (k : Nat) (a0 : Int) : Option (Int × Int) := (op_Known.f a0).bind fun b => if b = true then (op_sign.f k a0).bind fun s => if 0 ≤ s ∧ s < 9 then some (rd gl1 (s * 2), rd gl1 (s * 2 + 1)) else none else some (0, -1)
theorem op_Bounds.mono : ∀ a0 k, LeO (op_Bounds.f k a0) (op_Bounds.f (k + 1) a0) := by
  intro a0 k
  unfold op_Bounds.f
  exact LeO.bind (LeO.refl _) fun b => LeO.ite (LeO.bind (op_sign.mono _ _) fun s => LeO.refl _) (LeO.refl _)
set_option maxHeartbeats 8000000 in
set_option maxRecDepth 100000 in
theorem op_Bounds.calls (k : Nat) (a0 : Int) (r1 : Int) (r2 : Int) (w : World) (hG : Gl w) (h : op_Bounds.f k a0 = some (r1, r2)) :
    Calls Tryd.prog 99 #[.int .u8 a0] w fun e w' => e = .returned (.tuple #[.int .i64 r1, .int .i64 r2]) ∧ Below w.heap.size w w' := by
  have HB := Aside0.mk (Below.refl w.heap.size w); have HR := Aside0.mk hG.g1; clear hG; obtain ⟨b, hk⟩ : ∃ b, op_Known.f a0 = some b := ⟨_, rfl⟩; have HK := Aside0.mk hk
  simp only [op_Bounds.f] at h
  rw [hk, Option.bind_some] at h
  clear hk
  cases b with
  | false =>
    rw [if_neg (by decide), Option.some.injEq, Prod.mk.injEq] at h
    obtain ⟨rfl, rfl⟩ := h
    go_enter Tryd.func99, Tryd.ntmps99
    go_wp2_with (first | (go_at_call 110; (with_reducible refine (op_Known.calls a0 false _ HK.out).mono ?_); rintro e w' ⟨rfl, ⟨nd, rfl⟩⟩))
    go_ret2
    exact ⟨rfl, by repeat (first | exact HB.out | apply below_alloc | apply pw_below_drewN | apply below_drew1)⟩
  | true =>
    rw [if_pos rfl] at h
    obtain ⟨s, hs⟩ : ∃ s, op_sign.f k a0 = some s := by
      cases e : op_sign.f k a0 with
      | none => rw [e] at h; cases h
      | some s => exact ⟨s, rfl⟩
    rw [hs, Option.bind_some] at h
    have hb : 0 ≤ s ∧ s < 9 := by
      by_cases c : 0 ≤ s ∧ s < 9
      · exact c
      · rw [if_neg c] at h; cases h
    rw [if_pos hb, Option.some.injEq, Prod.mk.injEq] at h
    obtain ⟨rfl, rfl⟩ := h; have HS := Aside0.mk hs; clear hs
    have hal : Tryd.prog.arrayLen 153 = 9 := by kernel_rfl
    have hc : ∀ j : Nat, j < 18 → w.cell? ⟨1, j, none⟩ = some (.int .i64 (rd gl1 j)) := by
      intro j hj; obtain ⟨ad, e, hx⟩ := Kd.at_int HR.out (j : Int) (by omega) (by have : gl1.length = 18 := rfl; omega)
      obtain rfl : (⟨1, 0, none⟩ : Addr) = ad := by injection e
      simp only [add_plain, Int.toNat_natCast] at hx; exact hx
    have hq0 : ∀ n : Nat, ((w.drewN n).alloc (Obj.cells #[Value.int IntKind.i64 0, Value.int IntKind.i64 0] 152)).cell? ⟨w.heap.size, 0, none⟩ = some (.int .i64 0) := fun n => blk_cell (blk_new (w.drewN n) (Obj.cells #[Value.int IntKind.i64 0, Value.int IntKind.i64 0] 152)) 0
    have hq1 : ∀ n : Nat, ((w.drewN n).alloc (Obj.cells #[Value.int IntKind.i64 0, Value.int IntKind.i64 0] 152)).cell? ⟨w.heap.size, 1, none⟩ = some (.int .i64 0) := fun n => blk_cell (blk_new (w.drewN n) (Obj.cells #[Value.int IntKind.i64 0, Value.int IntKind.i64 0] 152)) 1
    have hf0 : ∀ n i : Nat, ((w.drewN n).alloc (Obj.cells #[Value.int IntKind.i64 0, Value.int IntKind.i64 0] 152)).frozen? ⟨w.heap.size, i, none⟩ = false := fun n i => blk_frozen (blk_new (w.drewN n) (Obj.cells #[Value.int IntKind.i64 0, Value.int IntKind.i64 0] 152)) i
    have h9 : s = 0 ∨ s = 1 ∨ s = 2 ∨ s = 3 ∨ s = 4 ∨ s = 5 ∨ s = 6 ∨ s = 7 ∨ s = 8 := by omega
    rcases h9 with rfl | rfl | rfl | rfl | rfl | rfl | rfl | rfl | rfl
    · go_enter Tryd.func99, Tryd.ntmps99
      go_wp2_with (first | (go_at_call 110; (with_reducible refine (op_Known.calls a0 true _ HK.out).mono ?_); rintro e w' ⟨rfl, ⟨nd, rfl⟩⟩) | (go_at_call 117; (with_reducible refine (op_sign.calls k a0 0 _ HS.out).mono ?_); rintro e w' ⟨rfl, ⟨nd2, rfl⟩⟩))
      generalize hz : World.setCell _ _ _ = wz
      have BK : wz.heap[w.heap.size]? = some (.cells #[.int .i64 (rd gl1 0), .int .i64 (rd gl1 1)] 152 (0, 0)) := by
        rw [← hz]; refine blk_put (cs := #[.int .i64 (rd gl1 0), .int .i64 0]) ?_ 1 _ rfl; refine blk_put (cs := #[.int .i64 0, .int .i64 0]) ?_ 0 _ rfl; exact blk_new (w.drewN _) _
      have HB2 := Aside0.mk (show Below w.heap.size w wz from au104); have c0 : wz.cell? ⟨w.heap.size, 0, none⟩ = some (.int .i64 (rd gl1 0)) := (blk_cell BK 0).trans rfl; have c1 : wz.cell? ⟨w.heap.size, 1, none⟩ = some (.int .i64 (rd gl1 1)) := (blk_cell BK 1).trans rfl; clear hz BK hq0 hq1 hf0 hc; go_wp2
      repeat (go_quiet (fail); try go_wp2)
      go_ret2
      exact ⟨rfl, au119⟩
    · go_enter Tryd.func99, Tryd.ntmps99
      go_wp2_with (first | (go_at_call 110; (with_reducible refine (op_Known.calls a0 true _ HK.out).mono ?_); rintro e w' ⟨rfl, ⟨nd, rfl⟩⟩) | (go_at_call 117; (with_reducible refine (op_sign.calls k a0 1 _ HS.out).mono ?_); rintro e w' ⟨rfl, ⟨nd2, rfl⟩⟩))
      generalize hz : World.setCell _ _ _ = wz
      have BK : wz.heap[w.heap.size]? = some (.cells #[.int .i64 (rd gl1 2), .int .i64 (rd gl1 3)] 152 (0, 0)) := by
        rw [← hz]; refine blk_put (cs := #[.int .i64 (rd gl1 2), .int .i64 0]) ?_ 1 _ rfl; refine blk_put (cs := #[.int .i64 0, .int .i64 0]) ?_ 0 _ rfl; exact blk_new (w.drewN _) _
      have HB2 := Aside0.mk (show Below w.heap.size w wz from au104); have c0 : wz.cell? ⟨w.heap.size, 0, none⟩ = some (.int .i64 (rd gl1 2)) := (blk_cell BK 0).trans rfl; have c1 : wz.cell? ⟨w.heap.size, 1, none⟩ = some (.int .i64 (rd gl1 3)) := (blk_cell BK 1).trans rfl; clear hz BK hq0 hq1 hf0 hc; go_wp2
      repeat (go_quiet (fail); try go_wp2)
      go_ret2
      exact ⟨rfl, au119⟩
    · go_enter Tryd.func99, Tryd.ntmps99
      go_wp2_with (first | (go_at_call 110; (with_reducible refine (op_Known.calls a0 true _ HK.out).mono ?_); rintro e w' ⟨rfl, ⟨nd, rfl⟩⟩) | (go_at_call 117; (with_reducible refine (op_sign.calls k a0 2 _ HS.out).mono ?_); rintro e w' ⟨rfl, ⟨nd2, rfl⟩⟩))
      generalize hz : World.setCell _ _ _ = wz
      have BK : wz.heap[w.heap.size]? = some (.cells #[.int .i64 (rd gl1 4), .int .i64 (rd gl1 5)] 152 (0, 0)) := by
        rw [← hz]; refine blk_put (cs := #[.int .i64 (rd gl1 4), .int .i64 0]) ?_ 1 _ rfl; refine blk_put (cs := #[.int .i64 0, .int .i64 0]) ?_ 0 _ rfl; exact blk_new (w.drewN _) _
      have HB2 := Aside0.mk (show Below w.heap.size w wz from au104); have c0 : wz.cell? ⟨w.heap.size, 0, none⟩ = some (.int .i64 (rd gl1 4)) := (blk_cell BK 0).trans rfl; have c1 : wz.cell? ⟨w.heap.size, 1, none⟩ = some (.int .i64 (rd gl1 5)) := (blk_cell BK 1).trans rfl; clear hz BK hq0 hq1 hf0 hc; go_wp2
      repeat (go_quiet (fail); try go_wp2)
      go_ret2
      exact ⟨rfl, au119⟩
    · go_enter Tryd.func99, Tryd.ntmps99
      go_wp2_with (first | (go_at_call 110; (with_reducible refine (op_Known.calls a0 true _ HK.out).mono ?_); rintro e w' ⟨rfl, ⟨nd, rfl⟩⟩) | (go_at_call 117; (with_reducible refine (op_sign.calls k a0 3 _ HS.out).mono ?_); rintro e w' ⟨rfl, ⟨nd2, rfl⟩⟩))
      generalize hz : World.setCell _ _ _ = wz
      have BK : wz.heap[w.heap.size]? = some (.cells #[.int .i64 (rd gl1 6), .int .i64 (rd gl1 7)] 152 (0, 0)) := by
        rw [← hz]; refine blk_put (cs := #[.int .i64 (rd gl1 6), .int .i64 0]) ?_ 1 _ rfl; refine blk_put (cs := #[.int .i64 0, .int .i64 0]) ?_ 0 _ rfl; exact blk_new (w.drewN _) _
      have HB2 := Aside0.mk (show Below w.heap.size w wz from au104); have c0 : wz.cell? ⟨w.heap.size, 0, none⟩ = some (.int .i64 (rd gl1 6)) := (blk_cell BK 0).trans rfl; have c1 : wz.cell? ⟨w.heap.size, 1, none⟩ = some (.int .i64 (rd gl1 7)) := (blk_cell BK 1).trans rfl; clear hz BK hq0 hq1 hf0 hc; go_wp2
      repeat (go_quiet (fail); try go_wp2)
      go_ret2
      exact ⟨rfl, au119⟩
    · go_enter Tryd.func99, Tryd.ntmps99
      go_wp2_with (first | (go_at_call 110; (with_reducible refine (op_Known.calls a0 true _ HK.out).mono ?_); rintro e w' ⟨rfl, ⟨nd, rfl⟩⟩) | (go_at_call 117; (with_reducible refine (op_sign.calls k a0 4 _ HS.out).mono ?_); rintro e w' ⟨rfl, ⟨nd2, rfl⟩⟩))
      generalize hz : World.setCell _ _ _ = wz
      have BK : wz.heap[w.heap.size]? = some (.cells #[.int .i64 (rd gl1 8), .int .i64 (rd gl1 9)] 152 (0, 0)) := by
        rw [← hz]; refine blk_put (cs := #[.int .i64 (rd gl1 8), .int .i64 0]) ?_ 1 _ rfl; refine blk_put (cs := #[.int .i64 0, .int .i64 0]) ?_ 0 _ rfl; exact blk_new (w.drewN _) _
      have HB2 := Aside0.mk (show Below w.heap.size w wz from au104); have c0 : wz.cell? ⟨w.heap.size, 0, none⟩ = some (.int .i64 (rd gl1 8)) := (blk_cell BK 0).trans rfl; have c1 : wz.cell? ⟨w.heap.size, 1, none⟩ = some (.int .i64 (rd gl1 9)) := (blk_cell BK 1).trans rfl; clear hz BK hq0 hq1 hf0 hc; go_wp2
      repeat (go_quiet (fail); try go_wp2)
      go_ret2
      exact ⟨rfl, au119⟩
    · go_enter Tryd.func99, Tryd.ntmps99
      go_wp2_with (first | (go_at_call 110; (with_reducible refine (op_Known.calls a0 true _ HK.out).mono ?_); rintro e w' ⟨rfl, ⟨nd, rfl⟩⟩) | (go_at_call 117; (with_reducible refine (op_sign.calls k a0 5 _ HS.out).mono ?_); rintro e w' ⟨rfl, ⟨nd2, rfl⟩⟩))
      generalize hz : World.setCell _ _ _ = wz
      have BK : wz.heap[w.heap.size]? = some (.cells #[.int .i64 (rd gl1 10), .int .i64 (rd gl1 11)] 152 (0, 0)) := by
        rw [← hz]; refine blk_put (cs := #[.int .i64 (rd gl1 10), .int .i64 0]) ?_ 1 _ rfl; refine blk_put (cs := #[.int .i64 0, .int .i64 0]) ?_ 0 _ rfl; exact blk_new (w.drewN _) _
      have HB2 := Aside0.mk (show Below w.heap.size w wz from au104); have c0 : wz.cell? ⟨w.heap.size, 0, none⟩ = some (.int .i64 (rd gl1 10)) := (blk_cell BK 0).trans rfl; have c1 : wz.cell? ⟨w.heap.size, 1, none⟩ = some (.int .i64 (rd gl1 11)) := (blk_cell BK 1).trans rfl; clear hz BK hq0 hq1 hf0 hc; go_wp2
      repeat (go_quiet (fail); try go_wp2)
      go_ret2
      exact ⟨rfl, au119⟩
    · go_enter Tryd.func99, Tryd.ntmps99
      go_wp2_with (first | (go_at_call 110; (with_reducible refine (op_Known.calls a0 true _ HK.out).mono ?_); rintro e w' ⟨rfl, ⟨nd, rfl⟩⟩) | (go_at_call 117; (with_reducible refine (op_sign.calls k a0 6 _ HS.out).mono ?_); rintro e w' ⟨rfl, ⟨nd2, rfl⟩⟩))
      generalize hz : World.setCell _ _ _ = wz
      have BK : wz.heap[w.heap.size]? = some (.cells #[.int .i64 (rd gl1 12), .int .i64 (rd gl1 13)] 152 (0, 0)) := by
        rw [← hz]; refine blk_put (cs := #[.int .i64 (rd gl1 12), .int .i64 0]) ?_ 1 _ rfl; refine blk_put (cs := #[.int .i64 0, .int .i64 0]) ?_ 0 _ rfl; exact blk_new (w.drewN _) _
      have HB2 := Aside0.mk (show Below w.heap.size w wz from au104); have c0 : wz.cell? ⟨w.heap.size, 0, none⟩ = some (.int .i64 (rd gl1 12)) := (blk_cell BK 0).trans rfl; have c1 : wz.cell? ⟨w.heap.size, 1, none⟩ = some (.int .i64 (rd gl1 13)) := (blk_cell BK 1).trans rfl; clear hz BK hq0 hq1 hf0 hc; go_wp2
      repeat (go_quiet (fail); try go_wp2)
      go_ret2
      exact ⟨rfl, au119⟩
    · go_enter Tryd.func99, Tryd.ntmps99
      go_wp2_with (first | (go_at_call 110; (with_reducible refine (op_Known.calls a0 true _ HK.out).mono ?_); rintro e w' ⟨rfl, ⟨nd, rfl⟩⟩) | (go_at_call 117; (with_reducible refine (op_sign.calls k a0 7 _ HS.out).mono ?_); rintro e w' ⟨rfl, ⟨nd2, rfl⟩⟩))
      generalize hz : World.setCell _ _ _ = wz
      have BK : wz.heap[w.heap.size]? = some (.cells #[.int .i64 (rd gl1 14), .int .i64 (rd gl1 15)] 152 (0, 0)) := by
        rw [← hz]; refine blk_put (cs := #[.int .i64 (rd gl1 14), .int .i64 0]) ?_ 1 _ rfl; refine blk_put (cs := #[.int .i64 0, .int .i64 0]) ?_ 0 _ rfl; exact blk_new (w.drewN _) _
      have HB2 := Aside0.mk (show Below w.heap.size w wz from au104); have c0 : wz.cell? ⟨w.heap.size, 0, none⟩ = some (.int .i64 (rd gl1 14)) := (blk_cell BK 0).trans rfl; have c1 : wz.cell? ⟨w.heap.size, 1, none⟩ = some (.int .i64 (rd gl1 15)) := (blk_cell BK 1).trans rfl; clear hz BK hq0 hq1 hf0 hc; go_wp2
      repeat (go_quiet (fail); try go_wp2)
      go_ret2
      exact ⟨rfl, au119⟩
    · go_enter Tryd.func99, Tryd.ntmps99
      go_wp2_with (first | (go_at_call 110; (with_reducible refine (op_Known.calls a0 true _ HK.out).mono ?_); rintro e w' ⟨rfl, ⟨nd, rfl⟩⟩) | (go_at_call 117; (with_reducible refine (op_sign.calls k a0 8 _ HS.out).mono ?_); rintro e w' ⟨rfl, ⟨nd2, rfl⟩⟩))
      generalize hz : World.setCell _ _ _ = wz
      have BK : wz.heap[w.heap.size]? = some (.cells #[.int .i64 (rd gl1 16), .int .i64 (rd gl1 17)] 152 (0, 0)) := by
        rw [← hz]; refine blk_put (cs := #[.int .i64 (rd gl1 16), .int .i64 0]) ?_ 1 _ rfl; refine blk_put (cs := #[.int .i64 0, .int .i64 0]) ?_ 0 _ rfl; exact blk_new (w.drewN _) _
      have HB2 := Aside0.mk (show Below w.heap.size w wz from au104); have c0 : wz.cell? ⟨w.heap.size, 0, none⟩ = some (.int .i64 (rd gl1 16)) := (blk_cell BK 0).trans rfl; have c1 : wz.cell? ⟨w.heap.size, 1, none⟩ = some (.int .i64 (rd gl1 17)) := (blk_cell BK 1).trans rfl; clear hz BK hq0 hq1 hf0 hc; go_wp2
      repeat (go_quiet (fail); try go_wp2)
      go_ret2
      exact ⟨rfl, au119⟩

/-! ### code_wide: function 62 -/
def code_wide.f (k : Nat) (a0 : Int) : Option (Bool) := (op_Bounds.f k a0).bind fun bt142 => (some (decide (bt142.2 > 0)))
theorem code_wide.mono : ∀ a0 k, LeO (code_wide.f k a0) (code_wide.f (k + 1) a0) := by
 intro a0 k
 unfold code_wide.f
 repeat' first | (with_reducible first | apply op_Bounds.mono | apply LeO.refl | apply LeO.none | refine LeO.ite ?_ ?_ | refine LeO.bind ?_ (fun _ => ?_)) | apply op_Bounds.mono | apply LeO.none | refine LeO.ite ?_ ?_ | refine LeO.bind ?_ (fun _ => ?_)
set_option maxHeartbeats 8000000 in
set_option maxRecDepth 100000 in
theorem code_wide.calls (k : Nat) (a0 : Int) (r : Bool) (w : World) (hG : Gl w) (h : code_wide.f k a0 = some r) :
  Calls Tryd.prog 62 #[.int .u8 a0] w fun e w' => e = .returned (.bool r) ∧ Below w.heap.size w w' := by
 have HG := Aside0.mk hG; clear hG; have HB := Aside0.mk (Below.refl w.heap.size w); have H := h; unfold code_wide.f at H; clear h; obtain ⟨⟨t142, t143⟩, A2, H⟩ := sq_bind H; dsimp only at H; obtain rfl := Option.some.inj H
 go_enter Tryd.func62, Tryd.ntmps62
 go_wp2_with (first | ((with_reducible refine gate_callee (f := 99) rfl ?_); refine goesL_ (some 7) rfl rfl Tryd.func99 (by kernel_rfl) rfl #[.int .u8 a0] rfl (au2) ?_; (with_reducible refine (op_Bounds.calls k a0 t142 t143 _ ?side1 A2.out).mono ?_); (case side1 => exact au29); rintro e w3 ⟨rfl, hb⟩; refine ⟨_, rfl, ?_⟩; replace HB := Aside0.mk (below_step (au1) hb); (try clear hb)))
 go_ret; exact ⟨au7, au1⟩

/-! ### op_May: function 98 -/
def op_May.f (k : Nat) (a0_0 : Int) (a0_1 : Int) (a0_2 : Int) : Option (Bool) := (op_Bounds.f k a0_0).bind fun bt145 => (if a0_1 ≥ bt145.1 then (if a0_1 ≤ bt145.2 then (some (a0_2 == 0)) else (some false)) else (some false))
theorem op_May.mono : ∀ a0 a1 a2 k, LeO (op_May.f k a0 a1 a2) (op_May.f (k + 1) a0 a1 a2) := by
 intro a0 a1 a2 k
 unfold op_May.f
 repeat' first | (with_reducible first | apply op_Bounds.mono | apply LeO.refl | apply LeO.none | refine LeO.ite ?_ ?_ | refine LeO.bind ?_ (fun _ => ?_)) | apply op_Bounds.mono | apply LeO.none | refine LeO.ite ?_ ?_ | refine LeO.bind ?_ (fun _ => ?_)
set_option maxHeartbeats 8000000 in
set_option maxRecDepth 100000 in
theorem op_May.calls (k : Nat) (a0_0 : Int) (a0_1 : Int) (a0_2 : Int) (r : Bool) (w : World) (hG : Gl w) (h : op_May.f k a0_0 a0_1 a0_2 = some r) :
  Calls Tryd.prog 98 #[.agg #[.int .u8 a0_0, .int .i64 a0_1, .int .i64 a0_2]] w fun e w' => e = .returned (.bool r) ∧ Below w.heap.size w w' := by
 have hu75 := Tryd.underlying75; have HG := Aside0.mk hG; clear hG; have HB := Aside0.mk (Below.refl w.heap.size w); have H := h; unfold op_May.f at H; clear h; obtain ⟨⟨t145, t146⟩, A2, H⟩ := sq_bind H; dsimp only at H
 by_cases c3 : a0_1 ≥ t145
 rotate_left
 ·
  rw [if_neg c3] at H; have c3b0 : decide (t145 ≤ a0_1) = false := decide_eq_false c3; clear c3; obtain rfl := Option.some.inj H
  go_enter Tryd.func98, Tryd.ntmps98
  go_wp2_with (first | ((with_reducible refine gate_dst (N := 1) rfl ?_); refine sq_box (N := 1) (cs := #[.int .u8 a0_0, .int .i64 a0_1, .int .i64 a0_2]) (t := 75) ?_; intro gb144 hg w13 hbox hb; have n_ := sq_n4 (below_step (au1) hb) hbox ((au25 : w.heap.size ≤ gb144)) ((au25 : w.heap.size ≤ gb144)); clear HB; obtain ⟨HB, BK144, GW144, GE144⟩ := n_; clear hb hbox hg; have hz14 := blk_all3 BK144.out) | ((with_reducible refine gate_callee (f := 99) rfl ?_); refine goesL_ (some 8) rfl rfl Tryd.func99 (by kernel_rfl) rfl #[.int .u8 a0_0] rfl (au2) ?_; (with_reducible refine (op_Bounds.calls k a0_0 t145 t146 _ ?side1 A2.out).mono ?_); (case side1 => exact au144); rintro e w15 ⟨rfl, hb⟩; refine ⟨_, rfl, ?_⟩; have n_ := sq_n2 (blk_below (g := gb144) (o := .cells #[.int .u8 a0_0, .int .i64 a0_1, .int .i64 a0_2] 75 (0, 0)) (by (with_reducible repeat (first | refine blk_drewN ?_ _ | refine blk_drew ?_ | refine blk_alloc ?_ _)); exact BK144.out) hb) (below_step (au48) hb); clear BK144 HB; obtain ⟨BK144, HB⟩ := n_; (try clear hb); have hz16 := blk_all3 BK144.out))
  go_ret; exact ⟨au7, au48⟩

 rw [if_pos c3] at H; have c3b0 : decide (t145 ≤ a0_1) = true := decide_eq_true c3; clear c3
 by_cases c4 : a0_1 ≤ t146
 ·
  rw [if_pos c4] at H; have c4b0 : decide (a0_1 ≤ t146) = true := decide_eq_true c4; clear c4; obtain rfl := Option.some.inj H
  go_enter Tryd.func98, Tryd.ntmps98
  go_wp2_with (first | ((with_reducible refine gate_dst (N := 1) rfl ?_); refine sq_box (N := 1) (cs := #[.int .u8 a0_0, .int .i64 a0_1, .int .i64 a0_2]) (t := 75) ?_; intro gb144 hg w5 hbox hb; have n_ := sq_n4 (below_step (au1) hb) hbox ((au25 : w.heap.size ≤ gb144)) ((au25 : w.heap.size ≤ gb144)); clear HB; obtain ⟨HB, BK144, GW144, GE144⟩ := n_; clear hb hbox hg; have hz6 := blk_all3 BK144.out) | ((with_reducible refine gate_callee (f := 99) rfl ?_); refine goesL_ (some 8) rfl rfl Tryd.func99 (by kernel_rfl) rfl #[.int .u8 a0_0] rfl (au2) ?_; (with_reducible refine (op_Bounds.calls k a0_0 t145 t146 _ ?side1 A2.out).mono ?_); (case side1 => exact au144); rintro e w7 ⟨rfl, hb⟩; refine ⟨_, rfl, ?_⟩; have n_ := sq_n2 (blk_below (g := gb144) (o := .cells #[.int .u8 a0_0, .int .i64 a0_1, .int .i64 a0_2] 75 (0, 0)) (by (with_reducible repeat (first | refine blk_drewN ?_ _ | refine blk_drew ?_ | refine blk_alloc ?_ _)); exact BK144.out) hb) (below_step (au48) hb); clear BK144 HB; obtain ⟨BK144, HB⟩ := n_; (try clear hb); have hz8 := blk_all3 BK144.out))
  go_ret; exact ⟨au7, au48⟩
 ·
  rw [if_neg c4] at H; have c4b0 : decide (a0_1 ≤ t146) = false := decide_eq_false c4; clear c4; obtain rfl := Option.some.inj H
  go_enter Tryd.func98, Tryd.ntmps98
  go_wp2_with (first | ((with_reducible refine gate_dst (N := 1) rfl ?_); refine sq_box (N := 1) (cs := #[.int .u8 a0_0, .int .i64 a0_1, .int .i64 a0_2]) (t := 75) ?_; intro gb144 hg w9 hbox hb; have n_ := sq_n4 (below_step (au1) hb) hbox ((au25 : w.heap.size ≤ gb144)) ((au25 : w.heap.size ≤ gb144)); clear HB; obtain ⟨HB, BK144, GW144, GE144⟩ := n_; clear hb hbox hg; have hz10 := blk_all3 BK144.out) | ((with_reducible refine gate_callee (f := 99) rfl ?_); refine goesL_ (some 8) rfl rfl Tryd.func99 (by kernel_rfl) rfl #[.int .u8 a0_0] rfl (au2) ?_; (with_reducible refine (op_Bounds.calls k a0_0 t145 t146 _ ?side1 A2.out).mono ?_); (case side1 => exact au144); rintro e w11 ⟨rfl, hb⟩; refine ⟨_, rfl, ?_⟩; have n_ := sq_n2 (blk_below (g := gb144) (o := .cells #[.int .u8 a0_0, .int .i64 a0_1, .int .i64 a0_2] 75 (0, 0)) (by (with_reducible repeat (first | refine blk_drewN ?_ _ | refine blk_drew ?_ | refine blk_alloc ?_ _)); exact BK144.out) hb) (below_step (au48) hb); clear BK144 HB; obtain ⟨BK144, HB⟩ := n_; (try clear hb); have hz12 := blk_all3 BK144.out))
  go_ret; exact ⟨au7, au48⟩
-- NOT PRINTED: function 108 (code_reader_number)

/-! ### code_must: function 109 -/
/-- The panic that says what is wrong. -/
abbrev CWr (e : Int) : PanicEntry := { v := .iface 141 (.agg #[.int .i64 e]), recovered := false }
def code_must.f (a0 : Bool) : Option Unit := if a0 = true then some () else none
set_option maxRecDepth 100000 in
theorem code_must.ok (w : World) : Calls Tryd.prog 109 #[.bool true] w fun e w' => e = .returned (.tuple #[]) ∧ w' = w := by
  go_enter Tryd.func109, Tryd.ntmps109
  go_wp2
  go_end0
  exact ⟨rfl, rfl⟩
set_option maxRecDepth 100000 in
theorem code_must.bad (w : World) : Calls Tryd.prog 109 #[.bool false] w fun e w' => e = .panicked [CWr 40] ∧ w' = w := by
  go_enter Tryd.func109, Tryd.ntmps109
  go_wp2; exact ⟨rfl, rfl, rfl⟩
end Go.Proofs.YthmjblmdbcmjcaaDoor.B
