/- Contracts of functions of this seat. -/
import Derived.Test.YthmjblmdbcmjcaaDoorP0
import Derived.Test.YthmjblmdbcmjcaaDoorP18
namespace Go.Proofs.YthmjblmdbcmjcaaDoor.P
open Go.RowKit Go.Proofs.YthmjblmdbcmjcaaDoorW.PrintWords Go.Proofs.YthmjblmdbcmjcaaDoorW.PrintLast Go.Proofs.YthmjblmdbcmjcaaDoorW.PrintMore
attribute [local go_sem] max2_int min2_int max_two min_two max_three min_three max_four min_four
set_option linter.unusedVariables false
set_option linter.unusedSimpArgs false

/-! ### op_sign: function 117 -/
mutual
def op_sign.j0 : Nat → Int → Bool → Option (Int)
 | 0, _, _ => none
 | k + 1, x3, x6 => if x6 = true then (some 2) else (if x3 = 4 then (op_sign.j1 k x3 (x3 == 4)) else (op_sign.j1 k x3 (x3 == 5)))
def op_sign.j1 : Nat → Int → Bool → Option (Int)
 | 0, _, _ => none
 | k + 1, x3, x9 => if x9 = true then (some 3) else (if x3 = 22 then (some 4) else (if x3 = 26 then (op_sign.j2 k x3 (x3 == 26)) else (if x3 = 27 then (op_sign.j2 k x3 (x3 == 27)) else (op_sign.j2 k x3 (x3 == 29)))))
def op_sign.j2 : Nat → Int → Bool → Option (Int)
 | 0, _, _ => none
 | k + 1, x3, x14 => if x14 = true then (some 5) else (if x3 = 30 then (some 6) else (if x3 = 32 then (some 7) else (if x3 = 28 then (some 8) else (some 0))))
end
def op_sign.f (k : Nat) (a0 : Int) : Option (Int) := if a0 = 1 then (some 1) else (if a0 = 2 then (op_sign.j0 k a0 (a0 == 2)) else (op_sign.j0 k a0 (a0 == 3)))
theorem op_sign.mono_l : ∀ k, (∀ y0 y1, LeO (op_sign.j0 k y0 y1) (op_sign.j0 (k + 1) y0 y1)) ∧ (∀ y0 y1, LeO (op_sign.j1 k y0 y1) (op_sign.j1 (k + 1) y0 y1)) ∧ (∀ y0 y1, LeO (op_sign.j2 k y0 y1) (op_sign.j2 (k + 1) y0 y1))
 | 0 => ⟨fun _ _ r h => by simp [op_sign.j0] at h, fun _ _ r h => by simp [op_sign.j1] at h, fun _ _ r h => by simp [op_sign.j2] at h⟩
 | k + 1 => by
  obtain ⟨ih0, ih1, ih2⟩ := op_sign.mono_l k; refine ⟨?_, ?_, ?_⟩
  ·
   intro y0 y1
   unfold op_sign.j0
   repeat' first | (with_reducible first | apply ih0 | apply ih1 | apply ih2 | apply LeO.refl | apply LeO.none | refine LeO.ite ?_ ?_ | refine LeO.bind ?_ (fun _ => ?_)) | apply ih0 | apply ih1 | apply ih2 | apply LeO.none | refine LeO.ite ?_ ?_ | refine LeO.bind ?_ (fun _ => ?_)
  ·
   intro y0 y1
   unfold op_sign.j1
   repeat' first | (with_reducible first | apply ih0 | apply ih1 | apply ih2 | apply LeO.refl | apply LeO.none | refine LeO.ite ?_ ?_ | refine LeO.bind ?_ (fun _ => ?_)) | apply ih0 | apply ih1 | apply ih2 | apply LeO.none | refine LeO.ite ?_ ?_ | refine LeO.bind ?_ (fun _ => ?_)
  ·
   intro y0 y1
   unfold op_sign.j2
   repeat' first | (with_reducible first | apply ih0 | apply ih1 | apply ih2 | apply LeO.refl | apply LeO.none | refine LeO.ite ?_ ?_ | refine LeO.bind ?_ (fun _ => ?_)) | apply ih0 | apply ih1 | apply ih2 | apply LeO.none | refine LeO.ite ?_ ?_ | refine LeO.bind ?_ (fun _ => ?_)
theorem op_sign.mono : ∀ a0 k, LeO (op_sign.f k a0) (op_sign.f (k + 1) a0) := by
 intro a0 k; obtain ⟨ih0, ih1, ih2⟩ := op_sign.mono_l k
 unfold op_sign.f
 repeat' first | (with_reducible first | apply ih0 | apply ih1 | apply ih2 | apply LeO.refl | apply LeO.none | refine LeO.ite ?_ ?_ | refine LeO.bind ?_ (fun _ => ?_)) | apply ih0 | apply ih1 | apply ih2 | apply LeO.none | refine LeO.ite ?_ ?_ | refine LeO.bind ?_ (fun _ => ?_)
set_option maxHeartbeats 8000000 in
set_option maxRecDepth 100000 in
theorem op_sign.calls (k : Nat) (a0 : Int) (r : Int) (w : World) (h : op_sign.f k a0 = some r) :
  Calls Tryd.prog 117 #[.int .u8 a0] w fun e w' => e = .returned (.int .i64 r) ∧ Drawn0 w w' := by
 have H := h; unfold op_sign.f at H; clear h
 by_cases c2 : a0 = 1
 ·
  rw [if_pos c2] at H; have c2b0 := beq_iff_eq.mpr c2; have c2b1 := bne_eq_false_iff_eq.mpr c2; clear c2; obtain rfl := Option.some.inj H
  go_enter Tryd.func117, Tryd.ntmps117
  go_wp2; go_ret; exact ⟨au11, au25⟩
 ·
  rw [if_neg c2] at H; have c2b0 := beq_eq_false_iff_ne.mpr c2; have c2b1 := bne_iff_ne.mpr c2; have HC3 := Aside0.mk H; clear H
  go_enter Tryd.func117, Tryd.ntmps117
  go_upto_if 6 with (fail)
  go_cut [6] (fun v6 wc => ∃ (kq : Nat) (x6_2 : Bool), v6 = .bool x6_2 ∧ Aside0 (op_sign.j0 kq a0 x6_2 = some r) ∧ Aside0 (kq ≤ k) ∧ Drawn0 w wc)
  case first =>
   have H := HC3.out; clear HC3
   by_cases c4 : a0 = 2
   rotate_left
   ·
    rw [if_neg c4] at H; have c4b0 := beq_eq_false_iff_ne.mpr c4; have c4b1 := bne_iff_ne.mpr c4
    (first | rw [c4b0] | (simp only [i64_w, i32_w]; rw [c4b0]) | skip)
    have H' := Aside0.mk H; clear H; go_wp2; go_meet
    case rel => exact ⟨_, ((a0 == 3)), (au11), H', ⟨au95⟩, au25⟩
   rw [if_pos c4] at H; have c4b0 := beq_iff_eq.mpr c4; have c4b1 := bne_eq_false_iff_eq.mpr c4; clear c4
   (first | rw [c4b0] | (simp only [i64_w, i32_w]; rw [c4b0]) | skip)
   have H' := Aside0.mk H; clear H; go_wp2; go_meet
   case rel => exact ⟨_, ((a0 == 2)), (au11), H', ⟨au95⟩, au25⟩
  case rest =>
   clear HC3; (try clear c2); (try clear c2b0); (try clear c2b1); obtain ⟨kq, x6_2, rfl, HA, HJ2, ⟨mc2, rfl⟩⟩ := hcut
   cases kq with
   | zero => exact absurd HA.out (by simp [op_sign.j0])
   | succ kj2 =>
    have H := HA.out; clear HA; simp only [op_sign.j0] at H
    by_cases c5 : x6_2 = true
    ·
     subst c5
     rw [if_pos rfl] at H; obtain rfl := Option.some.inj H; go_wp2; go_ret; exact ⟨au11, au25⟩
    ·
     replace c5 := Bool.eq_false_iff.mpr c5; subst c5
     rw [sq_f] at H; have HC6 := Aside0.mk H; clear H
     go_upto_if 9 with (fail)
     go_cut [9] (fun v9 wc => ∃ (kq : Nat) (x9_5 : Bool), v9 = .bool x9_5 ∧ Aside0 (op_sign.j1 kq a0 x9_5 = some r) ∧ Aside0 (kq ≤ kj2) ∧ Drawn0 w wc)
     case first =>
      have H := HC6.out; clear HC6
      by_cases c7 : a0 = 4
      rotate_left
      ·
       rw [if_neg c7] at H; have c7b0 := beq_eq_false_iff_ne.mpr c7; have c7b1 := bne_iff_ne.mpr c7
       (first | rw [c7b0] | (simp only [i64_w, i32_w]; rw [c7b0]) | skip)
       have H' := Aside0.mk H; clear H; go_wp2; go_meet
       case rel => exact ⟨_, ((a0 == 5)), (au11), H', ⟨by have := HJ2.out; first | omega | exact Nat.le_refl _⟩, au25⟩
      rw [if_pos c7] at H; have c7b0 := beq_iff_eq.mpr c7; have c7b1 := bne_eq_false_iff_eq.mpr c7; clear c7
      (first | rw [c7b0] | (simp only [i64_w, i32_w]; rw [c7b0]) | skip)
      have H' := Aside0.mk H; clear H; go_wp2; go_meet
      case rel => exact ⟨_, ((a0 == 4)), (au11), H', ⟨by have := HJ2.out; first | omega | exact Nat.le_refl _⟩, au25⟩
     case rest =>
      clear HC6; (try clear c1); (try clear c2); (try clear c2b0); (try clear c2b1); (try clear p2); (try clear c4); (try clear c4b0); (try clear c4b1); (try clear c5); (try clear p2); obtain ⟨kq, x9_5, rfl, HA, HJ5, ⟨mc5, rfl⟩⟩ := hcut
      cases kq with
      | zero => exact absurd HA.out (by simp [op_sign.j1])
      | succ kj5 =>
       have H := HA.out; clear HA; simp only [op_sign.j1] at H
       by_cases c8 : x9_5 = true
       ·
        subst c8
        rw [if_pos rfl] at H; obtain rfl := Option.some.inj H; go_wp2; go_ret; exact ⟨au11, au25⟩
       ·
        replace c8 := Bool.eq_false_iff.mpr c8; subst c8
        rw [sq_f] at H
        by_cases c9 : a0 = 22
        · rw [if_pos c9] at H; have c9b0 := beq_iff_eq.mpr c9; have c9b1 := bne_eq_false_iff_eq.mpr c9; clear c9; obtain rfl := Option.some.inj H; go_wp2; go_ret; exact ⟨au11, au25⟩
        ·
         rw [if_neg c9] at H; have c9b0 := beq_eq_false_iff_ne.mpr c9; have c9b1 := bne_iff_ne.mpr c9; have HC10 := Aside0.mk H; clear H
         go_upto_if 14 with (fail)
         go_cut [14] (fun v14 wc => ∃ (kq : Nat) (x14_9 : Bool), v14 = .bool x14_9 ∧ Aside0 (op_sign.j2 kq a0 x14_9 = some r) ∧ Aside0 (kq ≤ kj5) ∧ Drawn0 w wc)
         case first =>
          have H := HC10.out; clear HC10
          by_cases c11 : a0 = 26
          ·
           rw [if_pos c11] at H; have c11b0 := beq_iff_eq.mpr c11; have c11b1 := bne_eq_false_iff_eq.mpr c11; clear c11
           (first | rw [c11b0] | (simp only [i64_w, i32_w]; rw [c11b0]) | skip)
           have H' := Aside0.mk H; clear H; go_wp2; go_meet
           case rel => exact ⟨_, ((a0 == 26)), (au11), H', ⟨by have := HJ2.out; have := HJ5.out; first | omega | exact Nat.le_refl _⟩, au25⟩
          ·
           rw [if_neg c11] at H; have c11b0 := beq_eq_false_iff_ne.mpr c11; have c11b1 := bne_iff_ne.mpr c11
           (first | rw [c11b0] | (simp only [i64_w, i32_w]; rw [c11b0]) | skip)
           by_cases c12 : a0 = 27
           rotate_left
           ·
            rw [if_neg c12] at H; have c12b0 := beq_eq_false_iff_ne.mpr c12; have c12b1 := bne_iff_ne.mpr c12; have H' := Aside0.mk H; clear H; go_wp2; go_meet
            case rel => exact ⟨_, ((a0 == 29)), (au11), H', ⟨by have := HJ2.out; have := HJ5.out; first | omega | exact Nat.le_refl _⟩, au25⟩
           rw [if_pos c12] at H; have c12b0 := beq_iff_eq.mpr c12; have c12b1 := bne_eq_false_iff_eq.mpr c12; clear c12; have H' := Aside0.mk H; clear H; go_wp2; go_meet
           case rel => exact ⟨_, ((a0 == 27)), (au11), H', ⟨by have := HJ2.out; have := HJ5.out; first | omega | exact Nat.le_refl _⟩, au25⟩
         case rest =>
          clear HC10; (try clear c1); (try clear c2); (try clear c2b0); (try clear c2b1); (try clear p2); (try clear c4); (try clear c4b0); (try clear c4b1); (try clear c5); (try clear c7); (try clear c7b0); (try clear c7b1); (try clear c8); (try clear c9); (try clear c9b0); (try clear c9b1); (try clear p2); obtain ⟨kq, x14_9, rfl, HA, HJ9, ⟨mc9, rfl⟩⟩ := hcut
          cases kq with
          | zero => exact absurd HA.out (by simp [op_sign.j2])
          | succ kj9 =>
           have H := HA.out; clear HA; simp only [op_sign.j2] at H
           by_cases c13 : x14_9 = true
           ·
            subst c13
            rw [if_pos rfl] at H; obtain rfl := Option.some.inj H; go_wp2; go_ret; exact ⟨au11, au25⟩
           ·
            replace c13 := Bool.eq_false_iff.mpr c13; subst c13
            rw [sq_f] at H
            by_cases c14 : a0 = 30
            · rw [if_pos c14] at H; have c14b0 := beq_iff_eq.mpr c14; have c14b1 := bne_eq_false_iff_eq.mpr c14; clear c14; obtain rfl := Option.some.inj H; go_wp2; go_ret; exact ⟨au11, au25⟩
            ·
             rw [if_neg c14] at H; have c14b0 := beq_eq_false_iff_ne.mpr c14; have c14b1 := bne_iff_ne.mpr c14
             by_cases c15 : a0 = 32
             · rw [if_pos c15] at H; have c15b0 := beq_iff_eq.mpr c15; have c15b1 := bne_eq_false_iff_eq.mpr c15; clear c15; obtain rfl := Option.some.inj H; go_wp2; go_ret; exact ⟨au11, au25⟩
             ·
              rw [if_neg c15] at H; have c15b0 := beq_eq_false_iff_ne.mpr c15; have c15b1 := bne_iff_ne.mpr c15
              by_cases c16 : a0 = 28
              · rw [if_pos c16] at H; have c16b0 := beq_iff_eq.mpr c16; have c16b1 := bne_eq_false_iff_eq.mpr c16; clear c16; obtain rfl := Option.some.inj H; go_wp2; go_ret; exact ⟨au11, au25⟩
              · rw [if_neg c16] at H; have c16b0 := beq_eq_false_iff_ne.mpr c16; have c16b1 := bne_iff_ne.mpr c16; obtain rfl := Option.some.inj H; go_wp2; go_ret; exact ⟨au11, au25⟩

/-! ### op_Bounds: function 99 -/
def op_Bounds.f (k : Nat) (a0 : Int) : Option (Int × Int) := (op_Known.f a0).bind fun b => if b = true then (op_sign.f k a0).bind fun s => if 0 ≤ s ∧ s < 9 then some (rd gl1 (s * 2), rd gl1 (s * 2 + 1)) else none else some (0, -1)
theorem op_Bounds.mono : ∀ a0 k, LeO (op_Bounds.f k a0) (op_Bounds.f (k + 1) a0) := by
  intro a0 k
  unfold op_Bounds.f
  exact LeO.bind (LeO.refl _) fun b => LeO.ite (LeO.bind (op_sign.mono _ _) fun s => LeO.refl _) (LeO.refl _)
set_option maxHeartbeats 8000000 in
set_option maxRecDepth 100000 in
theorem op_Bounds.calls (k : Nat) (a0 : Int) (r1 : Int) (r2 : Int) (w : World) (hG : Gl w) (h : op_Bounds.f k a0 = some (r1, r2)) :
    Calls Tryd.prog 99 #[.int .u8 a0] w fun e w' => e = .returned (.tuple #[.int .i64 r1, .int .i64 r2]) ∧ Below w.heap.size w w' := by
  have HB := Aside0.mk (Below.refl w.heap.size w); have HR := Aside0.mk hG.g1; clear hG; obtain ⟨b, hk⟩ : ∃ b, op_Known.f a0 = some b := ⟨_, rfl⟩; have HK := Aside0.mk hk
  simp only [op_Bounds.f] at h
  rw [hk, Option.bind_some] at h
  clear hk
  cases b with
  | false =>
    rw [if_neg (by decide), Option.some.injEq, Prod.mk.injEq] at h
    obtain ⟨rfl, rfl⟩ := h
    go_enter Tryd.func99, Tryd.ntmps99
    go_wp2_with (first | (go_at_call 110; (with_reducible refine (op_Known.calls a0 false _ HK.out).mono ?_); rintro e w' ⟨rfl, ⟨nd, rfl⟩⟩))
    go_ret2
    exact ⟨rfl, by repeat (first | exact HB.out | apply below_alloc | apply pw_below_drewN | apply below_drew1)⟩
  | true =>
    rw [if_pos rfl] at h
    obtain ⟨s, hs⟩ : ∃ s, op_sign.f k a0 = some s := by
      cases e : op_sign.f k a0 with
      | none => rw [e] at h; cases h
      | some s => exact ⟨s, rfl⟩
    rw [hs, Option.bind_some] at h
    have hb : 0 ≤ s ∧ s < 9 := by
      by_cases c : 0 ≤ s ∧ s < 9
      · exact c
      · rw [if_neg c] at h; cases h
    rw [if_pos hb, Option.some.injEq, Prod.mk.injEq] at h
    obtain ⟨rfl, rfl⟩ := h; have HS := Aside0.mk hs; clear hs
    have hal : Tryd.prog.arrayLen 153 = 9 := by kernel_rfl
    have hc : ∀ j : Nat, j < 18 → w.cell? ⟨1, j, none⟩ = some (.int .i64 (rd gl1 j)) := by
      intro j hj; obtain ⟨ad, e, hx⟩ := Kd.at_int HR.out (j : Int) (by omega) (by have : gl1.length = 18 := rfl; omega)
      obtain rfl : (⟨1, 0, none⟩ : Addr) = ad := by injection e
      simp only [add_plain, Int.toNat_natCast] at hx; exact hx
    have hq0 : ∀ n : Nat, ((w.drewN n).alloc (Obj.cells #[Value.int IntKind.i64 0, Value.int IntKind.i64 0] 152)).cell? ⟨w.heap.size, 0, none⟩ = some (.int .i64 0) := fun n => blk_cell (blk_new (w.drewN n) (Obj.cells #[Value.int IntKind.i64 0, Value.int IntKind.i64 0] 152)) 0
    have hq1 : ∀ n : Nat, ((w.drewN n).alloc (Obj.cells #[Value.int IntKind.i64 0, Value.int IntKind.i64 0] 152)).cell? ⟨w.heap.size, 1, none⟩ = some (.int .i64 0) := fun n => blk_cell (blk_new (w.drewN n) (Obj.cells #[Value.int IntKind.i64 0, Value.int IntKind.i64 0] 152)) 1
    have hf0 : ∀ n i : Nat, ((w.drewN n).alloc (Obj.cells #[Value.int IntKind.i64 0, Value.int IntKind.i64 0] 152)).frozen? ⟨w.heap.size, i, none⟩ = false := fun n i => blk_frozen (blk_new (w.drewN n) (Obj.cells #[Value.int IntKind.i64 0, Value.int IntKind.i64 0] 152)) i
    have h9 : s = 0 ∨ s = 1 ∨ s = 2 ∨ s = 3 ∨ s = 4 ∨ s = 5 ∨ s = 6 ∨ s = 7 ∨ s = 8 := by omega
    rcases h9 with rfl | rfl | rfl | rfl | rfl | rfl | rfl | rfl | rfl
    · go_enter Tryd.func99, Tryd.ntmps99
      go_wp2_with (first | (go_at_call 110; (with_reducible refine (op_Known.calls a0 true _ HK.out).mono ?_); rintro e w' ⟨rfl, ⟨nd, rfl⟩⟩) | (go_at_call 117; (with_reducible refine (op_sign.calls k a0 0 _ HS.out).mono ?_); rintro e w' ⟨rfl, ⟨nd2, rfl⟩⟩))
      generalize hz : World.setCell _ _ _ = wz
      have BK : wz.heap[w.heap.size]? = some (.cells #[.int .i64 (rd gl1 0), .int .i64 (rd gl1 1)] 152 (0, 0)) := by
        rw [← hz]; refine blk_put (cs := #[.int .i64 (rd gl1 0), .int .i64 0]) ?_ 1 _ rfl; refine blk_put (cs := #[.int .i64 0, .int .i64 0]) ?_ 0 _ rfl; exact blk_new (w.drewN _) _
      have HB2 := Aside0.mk (show Below w.heap.size w wz from au108); have c0 : wz.cell? ⟨w.heap.size, 0, none⟩ = some (.int .i64 (rd gl1 0)) := (blk_cell BK 0).trans rfl; have c1 : wz.cell? ⟨w.heap.size, 1, none⟩ = some (.int .i64 (rd gl1 1)) := (blk_cell BK 1).trans rfl; clear hz BK hq0 hq1 hf0 hc; go_wp2
      repeat (go_quiet (fail); try go_wp2)
      go_ret2
      exact ⟨rfl, au121⟩
    · go_enter Tryd.func99, Tryd.ntmps99
      go_wp2_with (first | (go_at_call 110; (with_reducible refine (op_Known.calls a0 true _ HK.out).mono ?_); rintro e w' ⟨rfl, ⟨nd, rfl⟩⟩) | (go_at_call 117; (with_reducible refine (op_sign.calls k a0 1 _ HS.out).mono ?_); rintro e w' ⟨rfl, ⟨nd2, rfl⟩⟩))
      generalize hz : World.setCell _ _ _ = wz
      have BK : wz.heap[w.heap.size]? = some (.cells #[.int .i64 (rd gl1 2), .int .i64 (rd gl1 3)] 152 (0, 0)) := by
        rw [← hz]; refine blk_put (cs := #[.int .i64 (rd gl1 2), .int .i64 0]) ?_ 1 _ rfl; refine blk_put (cs := #[.int .i64 0, .int .i64 0]) ?_ 0 _ rfl; exact blk_new (w.drewN _) _
      have HB2 := Aside0.mk (show Below w.heap.size w wz from au108); have c0 : wz.cell? ⟨w.heap.size, 0, none⟩ = some (.int .i64 (rd gl1 2)) := (blk_cell BK 0).trans rfl; have c1 : wz.cell? ⟨w.heap.size, 1, none⟩ = some (.int .i64 (rd gl1 3)) := (blk_cell BK 1).trans rfl; clear hz BK hq0 hq1 hf0 hc; go_wp2
      repeat (go_quiet (fail); try go_wp2)
      go_ret2
      exact ⟨rfl, au121⟩
    · go_enter Tryd.func99, Tryd.ntmps99
      go_wp2_with (first | (go_at_call 110; (with_reducible refine (op_Known.calls a0 true _ HK.out).mono ?_); rintro e w' ⟨rfl, ⟨nd, rfl⟩⟩) | (go_at_call 117; (with_reducible refine (op_sign.calls k a0 2 _ HS.out).mono ?_); rintro e w' ⟨rfl, ⟨nd2, rfl⟩⟩))
      generalize hz : World.setCell _ _ _ = wz
      have BK : wz.heap[w.heap.size]? = some (.cells #[.int .i64 (rd gl1 4), .int .i64 (rd gl1 5)] 152 (0, 0)) := by
        rw [← hz]; refine blk_put (cs := #[.int .i64 (rd gl1 4), .int .i64 0]) ?_ 1 _ rfl; refine blk_put (cs := #[.int .i64 0, .int .i64 0]) ?_ 0 _ rfl; exact blk_new (w.drewN _) _
      have HB2 := Aside0.mk (show Below w.heap.size w wz from au108); have c0 : wz.cell? ⟨w.heap.size, 0, none⟩ = some (.int .i64 (rd gl1 4)) := (blk_cell BK 0).trans rfl; have c1 : wz.cell? ⟨w.heap.size, 1, none⟩ = some (.int .i64 (rd gl1 5)) := (blk_cell BK 1).trans rfl; clear hz BK hq0 hq1 hf0 hc; go_wp2
      repeat (go_quiet (fail); try go_wp2)
      go_ret2
      exact ⟨rfl, au121⟩
    · go_enter Tryd.func99, Tryd.ntmps99
      go_wp2_with (first | (go_at_call 110; (with_reducible refine (op_Known.calls a0 true _ HK.out).mono ?_); rintro e w' ⟨rfl, ⟨nd, rfl⟩⟩) | (go_at_call 117; (with_reducible refine (op_sign.calls k a0 3 _ HS.out).mono ?_); rintro e w' ⟨rfl, ⟨nd2, rfl⟩⟩))
      generalize hz : World.setCell _ _ _ = wz
      have BK : wz.heap[w.heap.size]? = some (.cells #[.int .i64 (rd gl1 6), .int .i64 (rd gl1 7)] 152 (0, 0)) := by
        rw [← hz]; refine blk_put (cs := #[.int .i64 (rd gl1 6), .int .i64 0]) ?_ 1 _ rfl; refine blk_put (cs := #[.int .i64 0, .int .i64 0]) ?_ 0 _ rfl; exact blk_new (w.drewN _) _
      have HB2 := Aside0.mk (show Below w.heap.size w wz from au108); have c0 : wz.cell? ⟨w.heap.size, 0, none⟩ = some (.int .i64 (rd gl1 6)) := (blk_cell BK 0).trans rfl; have c1 : wz.cell? ⟨w.heap.size, 1, none⟩ = some (.int .i64 (rd gl1 7)) := (blk_cell BK 1).trans rfl; clear hz BK hq0 hq1 hf0 hc; go_wp2
      repeat (go_quiet (fail); try go_wp2)
      go_ret2
      exact ⟨rfl, au121⟩
    · go_enter Tryd.func99, Tryd.ntmps99
      go_wp2_with (first | (go_at_call 110; (with_reducible refine (op_Known.calls a0 true _ HK.out).mono ?_); rintro e w' ⟨rfl, ⟨nd, rfl⟩⟩) | (go_at_call 117; (with_reducible refine (op_sign.calls k a0 4 _ HS.out).mono ?_); rintro e w' ⟨rfl, ⟨nd2, rfl⟩⟩))
      generalize hz : World.setCell _ _ _ = wz
      have BK : wz.heap[w.heap.size]? = some (.cells #[.int .i64 (rd gl1 8), .int .i64 (rd gl1 9)] 152 (0, 0)) := by
        rw [← hz]; refine blk_put (cs := #[.int .i64 (rd gl1 8), .int .i64 0]) ?_ 1 _ rfl; refine blk_put (cs := #[.int .i64 0, .int .i64 0]) ?_ 0 _ rfl; exact blk_new (w.drewN _) _
      have HB2 := Aside0.mk (show Below w.heap.size w wz from au108); have c0 : wz.cell? ⟨w.heap.size, 0, none⟩ = some (.int .i64 (rd gl1 8)) := (blk_cell BK 0).trans rfl; have c1 : wz.cell? ⟨w.heap.size, 1, none⟩ = some (.int .i64 (rd gl1 9)) := (blk_cell BK 1).trans rfl; clear hz BK hq0 hq1 hf0 hc; go_wp2
      repeat (go_quiet (fail); try go_wp2)
      go_ret2
      exact ⟨rfl, au121⟩
    · go_enter Tryd.func99, Tryd.ntmps99
      go_wp2_with (first | (go_at_call 110; (with_reducible refine (op_Known.calls a0 true _ HK.out).mono ?_); rintro e w' ⟨rfl, ⟨nd, rfl⟩⟩) | (go_at_call 117; (with_reducible refine (op_sign.calls k a0 5 _ HS.out).mono ?_); rintro e w' ⟨rfl, ⟨nd2, rfl⟩⟩))
      generalize hz : World.setCell _ _ _ = wz
      have BK : wz.heap[w.heap.size]? = some (.cells #[.int .i64 (rd gl1 10), .int .i64 (rd gl1 11)] 152 (0, 0)) := by
        rw [← hz]; refine blk_put (cs := #[.int .i64 (rd gl1 10), .int .i64 0]) ?_ 1 _ rfl; refine blk_put (cs := #[.int .i64 0, .int .i64 0]) ?_ 0 _ rfl; exact blk_new (w.drewN _) _
      have HB2 := Aside0.mk (show Below w.heap.size w wz from au108); have c0 : wz.cell? ⟨w.heap.size, 0, none⟩ = some (.int .i64 (rd gl1 10)) := (blk_cell BK 0).trans rfl; have c1 : wz.cell? ⟨w.heap.size, 1, none⟩ = some (.int .i64 (rd gl1 11)) := (blk_cell BK 1).trans rfl; clear hz BK hq0 hq1 hf0 hc; go_wp2
      repeat (go_quiet (fail); try go_wp2)
      go_ret2
      exact ⟨rfl, au121⟩
    · go_enter Tryd.func99, Tryd.ntmps99
      go_wp2_with (first | (go_at_call 110; (with_reducible refine (op_Known.calls a0 true _ HK.out).mono ?_); rintro e w' ⟨rfl, ⟨nd, rfl⟩⟩) | (go_at_call 117; (with_reducible refine (op_sign.calls k a0 6 _ HS.out).mono ?_); rintro e w' ⟨rfl, ⟨nd2, rfl⟩⟩))
      generalize hz : World.setCell _ _ _ = wz
      have BK : wz.heap[w.heap.size]? = some (.cells #[.int .i64 (rd gl1 12), .int .i64 (rd gl1 13)] 152 (0, 0)) := by
        rw [← hz]; refine blk_put (cs := #[.int .i64 (rd gl1 12), .int .i64 0]) ?_ 1 _ rfl; refine blk_put (cs := #[.int .i64 0, .int .i64 0]) ?_ 0 _ rfl; exact blk_new (w.drewN _) _
      have HB2 := Aside0.mk (show Below w.heap.size w wz from au108); have c0 : wz.cell? ⟨w.heap.size, 0, none⟩ = some (.int .i64 (rd gl1 12)) := (blk_cell BK 0).trans rfl; have c1 : wz.cell? ⟨w.heap.size, 1, none⟩ = some (.int .i64 (rd gl1 13)) := (blk_cell BK 1).trans rfl; clear hz BK hq0 hq1 hf0 hc; go_wp2
      repeat (go_quiet (fail); try go_wp2)
      go_ret2
      exact ⟨rfl, au121⟩
    · go_enter Tryd.func99, Tryd.ntmps99
      go_wp2_with (first | (go_at_call 110; (with_reducible refine (op_Known.calls a0 true _ HK.out).mono ?_); rintro e w' ⟨rfl, ⟨nd, rfl⟩⟩) | (go_at_call 117; (with_reducible refine (op_sign.calls k a0 7 _ HS.out).mono ?_); rintro e w' ⟨rfl, ⟨nd2, rfl⟩⟩))
      generalize hz : World.setCell _ _ _ = wz
      have BK : wz.heap[w.heap.size]? = some (.cells #[.int .i64 (rd gl1 14), .int .i64 (rd gl1 15)] 152 (0, 0)) := by
        rw [← hz]; refine blk_put (cs := #[.int .i64 (rd gl1 14), .int .i64 0]) ?_ 1 _ rfl; refine blk_put (cs := #[.int .i64 0, .int .i64 0]) ?_ 0 _ rfl; exact blk_new (w.drewN _) _
      have HB2 := Aside0.mk (show Below w.heap.size w wz from au108); have c0 : wz.cell? ⟨w.heap.size, 0, none⟩ = some (.int .i64 (rd gl1 14)) := (blk_cell BK 0).trans rfl; have c1 : wz.cell? ⟨w.heap.size, 1, none⟩ = some (.int .i64 (rd gl1 15)) := (blk_cell BK 1).trans rfl; clear hz BK hq0 hq1 hf0 hc; go_wp2
      repeat (go_quiet (fail); try go_wp2)
      go_ret2
      exact ⟨rfl, au121⟩
    · go_enter Tryd.func99, Tryd.ntmps99
      go_wp2_with (first | (go_at_call 110; (with_reducible refine (op_Known.calls a0 true _ HK.out).mono ?_); rintro e w' ⟨rfl, ⟨nd, rfl⟩⟩) | (go_at_call 117; (with_reducible refine (op_sign.calls k a0 8 _ HS.out).mono ?_); rintro e w' ⟨rfl, ⟨nd2, rfl⟩⟩))
      generalize hz : World.setCell _ _ _ = wz
      have BK : wz.heap[w.heap.size]? = some (.cells #[.int .i64 (rd gl1 16), .int .i64 (rd gl1 17)] 152 (0, 0)) := by
        rw [← hz]; refine blk_put (cs := #[.int .i64 (rd gl1 16), .int .i64 0]) ?_ 1 _ rfl; refine blk_put (cs := #[.int .i64 0, .int .i64 0]) ?_ 0 _ rfl; exact blk_new (w.drewN _) _
      have HB2 := Aside0.mk (show Below w.heap.size w wz from au108); have c0 : wz.cell? ⟨w.heap.size, 0, none⟩ = some (.int .i64 (rd gl1 16)) := (blk_cell BK 0).trans rfl; have c1 : wz.cell? ⟨w.heap.size, 1, none⟩ = some (.int .i64 (rd gl1 17)) := (blk_cell BK 1).trans rfl; clear hz BK hq0 hq1 hf0 hc; go_wp2
      repeat (go_quiet (fail); try go_wp2)
      go_ret2
      exact ⟨rfl, au121⟩

/-! ### op_May: function 98 -/
def op_May.f (k : Nat) (a0_0 : Int) (a0_1 : Int) (a0_2 : Int) : Option (Bool) := (op_Bounds.f k a0_0).bind fun bt453 => (if a0_1 ≥ bt453.1 then (if a0_1 ≤ bt453.2 then (some (a0_2 == 0)) else (some false)) else (some false))
theorem op_May.mono : ∀ a0 a1 a2 k, LeO (op_May.f k a0 a1 a2) (op_May.f (k + 1) a0 a1 a2) := by
 intro a0 a1 a2 k
 unfold op_May.f
 repeat' first | (with_reducible first | apply op_Bounds.mono | apply LeO.refl | apply LeO.none | refine LeO.ite ?_ ?_ | refine LeO.bind ?_ (fun _ => ?_)) | apply op_Bounds.mono | apply LeO.none | refine LeO.ite ?_ ?_ | refine LeO.bind ?_ (fun _ => ?_)
set_option maxHeartbeats 8000000 in
set_option maxRecDepth 100000 in
theorem op_May.calls (k : Nat) (a0_0 : Int) (a0_1 : Int) (a0_2 : Int) (r : Bool) (w : World) (hG : Gl w) (h : op_May.f k a0_0 a0_1 a0_2 = some r) :
  Calls Tryd.prog 98 #[.agg #[.int .u8 a0_0, .int .i64 a0_1, .int .i64 a0_2]] w fun e w' => e = .returned (.bool r) ∧ Below w.heap.size w w' := by
 have hu75 := Tryd.underlying75; have HG := Aside0.mk hG; clear hG; have HB := Aside0.mk (Below.refl w.heap.size w); have H := h; unfold op_May.f at H; clear h; obtain ⟨⟨t453, t454⟩, A2, H⟩ := sq_bind H; dsimp only at H
 by_cases c3 : a0_1 ≥ t453
 rotate_left
 ·
  rw [if_neg c3] at H; have c3b0 : decide (t453 ≤ a0_1) = false := decide_eq_false c3; clear c3; obtain rfl := Option.some.inj H
  go_enter Tryd.func98, Tryd.ntmps98
  go_wp2_with (first | ((with_reducible refine gate_dst (N := 1) rfl ?_); refine sq_box (N := 1) (cs := #[.int .u8 a0_0, .int .i64 a0_1, .int .i64 a0_2]) (t := 75) ?_; intro gb452 hg w13 hbox hb; have n_ := sq_n4 (below_step (au1) hb) hbox ((au26 : w.heap.size ≤ gb452)) ((au26 : w.heap.size ≤ gb452)); clear HB; obtain ⟨HB, BK452, GW452, GE452⟩ := n_; clear hb hbox hg; have hz14 := blk_all3 BK452.out) | ((with_reducible refine gate_callee (f := 99) rfl ?_); refine goesL_ (some 8) rfl rfl Tryd.func99 (by kernel_rfl) rfl #[.int .u8 a0_0] rfl (au2) ?_; (with_reducible refine (op_Bounds.calls k a0_0 t453 t454 _ ?side1 A2.out).mono ?_); (case side1 => exact au155); rintro e w15 ⟨rfl, hb⟩; refine ⟨_, rfl, ?_⟩; have n_ := sq_n2 (blk_below (by (with_reducible repeat (first | refine blk_drewN ?_ _ | refine blk_drew ?_ | refine blk_alloc ?_ _)); exact BK452.out) hb) (below_step (au56) hb); clear BK452 HB; obtain ⟨BK452, HB⟩ := n_; (try clear hb); have hz16 := blk_all3 BK452.out))
  go_ret; exact ⟨au4, au56⟩

 rw [if_pos c3] at H; have c3b0 : decide (t453 ≤ a0_1) = true := decide_eq_true c3; clear c3
 by_cases c4 : a0_1 ≤ t454
 ·
  rw [if_pos c4] at H; have c4b0 : decide (a0_1 ≤ t454) = true := decide_eq_true c4; clear c4; obtain rfl := Option.some.inj H
  go_enter Tryd.func98, Tryd.ntmps98
  go_wp2_with (first | ((with_reducible refine gate_dst (N := 1) rfl ?_); refine sq_box (N := 1) (cs := #[.int .u8 a0_0, .int .i64 a0_1, .int .i64 a0_2]) (t := 75) ?_; intro gb452 hg w5 hbox hb; have n_ := sq_n4 (below_step (au1) hb) hbox ((au26 : w.heap.size ≤ gb452)) ((au26 : w.heap.size ≤ gb452)); clear HB; obtain ⟨HB, BK452, GW452, GE452⟩ := n_; clear hb hbox hg; have hz6 := blk_all3 BK452.out) | ((with_reducible refine gate_callee (f := 99) rfl ?_); refine goesL_ (some 8) rfl rfl Tryd.func99 (by kernel_rfl) rfl #[.int .u8 a0_0] rfl (au2) ?_; (with_reducible refine (op_Bounds.calls k a0_0 t453 t454 _ ?side1 A2.out).mono ?_); (case side1 => exact au155); rintro e w7 ⟨rfl, hb⟩; refine ⟨_, rfl, ?_⟩; have n_ := sq_n2 (blk_below (by (with_reducible repeat (first | refine blk_drewN ?_ _ | refine blk_drew ?_ | refine blk_alloc ?_ _)); exact BK452.out) hb) (below_step (au56) hb); clear BK452 HB; obtain ⟨BK452, HB⟩ := n_; (try clear hb); have hz8 := blk_all3 BK452.out))
  go_ret; exact ⟨au4, au56⟩
 ·
  rw [if_neg c4] at H; have c4b0 : decide (a0_1 ≤ t454) = false := decide_eq_false c4; clear c4; obtain rfl := Option.some.inj H
  go_enter Tryd.func98, Tryd.ntmps98
  go_wp2_with (first | ((with_reducible refine gate_dst (N := 1) rfl ?_); refine sq_box (N := 1) (cs := #[.int .u8 a0_0, .int .i64 a0_1, .int .i64 a0_2]) (t := 75) ?_; intro gb452 hg w9 hbox hb; have n_ := sq_n4 (below_step (au1) hb) hbox ((au26 : w.heap.size ≤ gb452)) ((au26 : w.heap.size ≤ gb452)); clear HB; obtain ⟨HB, BK452, GW452, GE452⟩ := n_; clear hb hbox hg; have hz10 := blk_all3 BK452.out) | ((with_reducible refine gate_callee (f := 99) rfl ?_); refine goesL_ (some 8) rfl rfl Tryd.func99 (by kernel_rfl) rfl #[.int .u8 a0_0] rfl (au2) ?_; (with_reducible refine (op_Bounds.calls k a0_0 t453 t454 _ ?side1 A2.out).mono ?_); (case side1 => exact au155); rintro e w11 ⟨rfl, hb⟩; refine ⟨_, rfl, ?_⟩; have n_ := sq_n2 (blk_below (by (with_reducible repeat (first | refine blk_drewN ?_ _ | refine blk_drew ?_ | refine blk_alloc ?_ _)); exact BK452.out) hb) (below_step (au56) hb); clear BK452 HB; obtain ⟨BK452, HB⟩ := n_; (try clear hb); have hz12 := blk_all3 BK452.out))
  go_ret; exact ⟨au4, au56⟩
/-! ### code_May_1: function 97 -/
def code_May_1.f (k : Nat) (a0_0 : Int) (a0_1 : Int) (a0_2 : Int) : Option (Bool) := (op_May.f k a0_0 a0_1 a0_2).bind fun t456 => (some (!t456))
theorem code_May_1.mono : ∀ a0 a1 a2 k, LeO (code_May_1.f k a0 a1 a2) (code_May_1.f (k + 1) a0 a1 a2) := by
 intro a0 a1 a2 k
 unfold code_May_1.f
 repeat' first | (with_reducible first | apply op_May.mono | apply LeO.refl | apply LeO.none | refine LeO.ite ?_ ?_ | refine LeO.bind ?_ (fun _ => ?_)) | apply op_May.mono | apply LeO.none | refine LeO.ite ?_ ?_ | refine LeO.bind ?_ (fun _ => ?_)
set_option maxHeartbeats 8000000 in
set_option maxRecDepth 100000 in
theorem code_May_1.calls (k : Nat) (a0_0 : Int) (a0_1 : Int) (a0_2 : Int) (r : Bool) (w : World) (hG : Gl w) (h : code_May_1.f k a0_0 a0_1 a0_2 = some r) :
  Calls Tryd.prog 97 #[.agg #[.int .u8 a0_0, .int .i64 a0_1, .int .i64 a0_2]] w fun e w' => e = .returned (.bool r) ∧ Below w.heap.size w w' := by
 have hu75 := Tryd.underlying75; have HG := Aside0.mk hG; clear hG; have HB := Aside0.mk (Below.refl w.heap.size w); have H := h; unfold code_May_1.f at H; clear h; obtain ⟨t456, A2, H⟩ := sq_bind H; obtain rfl := Option.some.inj H
 go_enter Tryd.func97, Tryd.ntmps97
 go_wp2_with (first | ((with_reducible refine gate_dst (N := 1) rfl ?_); refine sq_box (N := 1) (cs := #[.int .u8 a0_0, .int .i64 a0_1, .int .i64 a0_2]) (t := 75) ?_; intro gb455 hg w3 hbox hb; have n_ := sq_n4 (below_step (au1) hb) hbox ((au26 : w.heap.size ≤ gb455)) ((au26 : w.heap.size ≤ gb455)); clear HB; obtain ⟨HB, BK455, GW455, GE455⟩ := n_; clear hb hbox hg; have hz4 := blk_all3 BK455.out) | ((with_reducible refine gate_callee (f := 98) rfl ?_); refine goesL_ (some 4) rfl rfl Tryd.func98 (by kernel_rfl) rfl #[.agg #[.int .u8 a0_0, .int .i64 a0_1, .int .i64 a0_2]] rfl (au2) ?_; (with_reducible refine (op_May.calls k a0_0 a0_1 a0_2 t456 _ ?side1 A2.out).mono ?_); (case side1 => first | exact HG.out | ((repeat (first | exact HG.out | exact Gl.below HG.out HB.out | (with_reducible refine Gl.alloc ?_ _) | (with_reducible refine Gl.drewN ?_ _) | (with_reducible refine Gl.drew ?_))); done) | exact Gl.below HG.out (au152)); rintro e w5 ⟨rfl, hb⟩; refine ⟨_, rfl, ?_⟩; have n_ := sq_n2 (blk_below (by (with_reducible repeat (first | refine blk_drewN ?_ _ | refine blk_drew ?_ | refine blk_alloc ?_ _)); exact BK455.out) hb) (below_step (au152) hb); clear BK455 HB; obtain ⟨BK455, HB⟩ := n_; (try clear hb)))
 go_ret; exact ⟨au4, au152⟩

/-! ### slices_IndexFunc_api_Instr_api_Instr: function 116 -/
def slices_IndexFunc_api_Instr_api_Instr.l0 : Nat → List (S75) → Int → Int → Option (Int)
 | 0, _, _, _ => none
 | k + 1, x0, x7, x8 => if x8 < x7 then (if 0 ≤ x8 then (if x8 < (x0.length : Int) then ((code_May_1.f k ((rd_T75 x0 x8).f0) ((rd_T75 x0 x8).f1) ((rd_T75 x0 x8).f2)).bind fun t458 => (if t458 = true then (some x8) else (slices_IndexFunc_api_Instr_api_Instr.l0 k x0 x7 (wrap64 (x8 + 1))))) else (none)) else (none)) else (some (-1))
def slices_IndexFunc_api_Instr_api_Instr.f (k : Nat) (l0 : List (S75))  : Option (Int) := slices_IndexFunc_api_Instr_api_Instr.l0 k l0 (l0.length : Int) 0
theorem slices_IndexFunc_api_Instr_api_Instr.mono_l : ∀ k, (∀ y0 y1 y2, LeO (slices_IndexFunc_api_Instr_api_Instr.l0 k y0 y1 y2) (slices_IndexFunc_api_Instr_api_Instr.l0 (k + 1) y0 y1 y2))
 | 0 => fun _ _ _ r h => by simp [slices_IndexFunc_api_Instr_api_Instr.l0] at h
 | k + 1 => by
  have ih0 := slices_IndexFunc_api_Instr_api_Instr.mono_l k
  ·
   intro y0 y1 y2
   unfold slices_IndexFunc_api_Instr_api_Instr.l0
   repeat' first | (with_reducible first | apply ih0 | apply code_May_1.mono | apply LeO.refl | apply LeO.none | refine LeO.ite ?_ ?_ | refine LeO.bind ?_ (fun _ => ?_)) | apply ih0 | apply code_May_1.mono | apply LeO.none | refine LeO.ite ?_ ?_ | refine LeO.bind ?_ (fun _ => ?_)
theorem slices_IndexFunc_api_Instr_api_Instr.mono : ∀ a0 k, LeO (slices_IndexFunc_api_Instr_api_Instr.f k a0) (slices_IndexFunc_api_Instr_api_Instr.f (k + 1) a0) := by
 intro a0 k; have ih0 := slices_IndexFunc_api_Instr_api_Instr.mono_l k
 unfold slices_IndexFunc_api_Instr_api_Instr.f
 repeat' first | (with_reducible first | apply ih0 | apply code_May_1.mono | apply LeO.refl | apply LeO.none | refine LeO.ite ?_ ?_ | refine LeO.bind ?_ (fun _ => ?_)) | apply ih0 | apply code_May_1.mono | apply LeO.none | refine LeO.ite ?_ ?_ | refine LeO.bind ?_ (fun _ => ?_)
set_option maxHeartbeats 8000000 in
set_option maxRecDepth 100000 in
theorem slices_IndexFunc_api_Instr_api_Instr.calls (k : Nat) (A0 : Option Addr) (c0 : Nat) (l0 : List (S75))  (r : Int) (w : World) (hG : Gl w) (hr0 : Kd.C k75 w A0 l0.length l0) (hc0 : l0.length ≤ c0) (h : slices_IndexFunc_api_Instr_api_Instr.f k l0 = some r) :
  Calls Tryd.prog 116 #[.slice A0 l0.length c0, .func (.func 97) #[] #[]] w fun e w' => e = .returned (.int .i64 r) ∧ Below w.heap.size w w' := by
 have hu75 := Tryd.underlying75; have HG := Aside0.mk hG; clear hG; have HR0 := Aside0.mk hr0; have HC0 := Aside0.mk hc0; clear hr0 hc0; have HB := Aside0.mk (Below.refl w.heap.size w); have H := h; unfold slices_IndexFunc_api_Instr_api_Instr.f at H; clear h; have H' := Aside0.mk H; clear H
 go_enter Tryd.func116, Tryd.ntmps116
 go_wp2
 go_loopg [8] k (fun kq v8 w' => ∃ (x8_1 : Int), v8 = .int .i64 x8_1 ∧ Aside0 (slices_IndexFunc_api_Instr_api_Instr.l0 kq l0 (l0.length : Int) x8_1 = some r) ∧ Aside0 (kq ≤ k) ∧ Aside0 (Below w.heap.size w w'))
 case atStart => exact ⟨(0), (au11), H', ⟨Nat.le_refl _⟩, ⟨au1⟩⟩
 case round =>
  clear H'; (try clear c1); (try clear p2); obtain ⟨x8_1, rfl, HA, HK1, HB⟩ := hrel
  cases gk with
  | zero => exact absurd HA.out (by simp [slices_IndexFunc_api_Instr_api_Instr.l0])
  | succ k1 =>
   have H := HA.out; clear HA; simp only [slices_IndexFunc_api_Instr_api_Instr.l0] at H
   by_cases c3 : x8_1 < (l0.length : Int)
   rotate_left
   · rw [if_neg c3] at H; have c3b0 : decide (x8_1 < (l0.length : Int)) = false := decide_eq_false c3; clear c3; obtain rfl := Option.some.inj H; go_wp2; go_ret; exact ⟨au4, au1⟩

   rw [if_pos c3] at H; have c3b0 : decide (x8_1 < (l0.length : Int)) = true := decide_eq_true c3; clear c3
   by_cases c4 : 0 ≤ x8_1
   rotate_left
   · rw [if_neg c4] at H; exact absurd H (by simp)
   rw [if_pos c4] at H; have c4b0 : decide (0 ≤ x8_1) = true := decide_eq_true c4; clear c4
   by_cases c5 : x8_1 < (l0.length : Int)
   rotate_left
   · rw [if_neg c5] at H; exact absurd H (by simp)
   rw [if_pos c5] at H; have c5b0 : decide (x8_1 < (l0.length : Int)) = true := decide_eq_true c5; clear c5; obtain ⟨t458, A6, H⟩ := sq_bind H
   by_cases c7 : t458 = true
   ·
    subst c7
    rw [if_pos rfl] at H; obtain rfl := Option.some.inj H; have p457 : 0 ≤ (x8_1 : Int) := of_decide_eq_true (au9); have q457 : x8_1 < (l0.length : Int) := of_decide_eq_true (au9); obtain ⟨ad457, e457, hx457_0, hx457_1, hx457_2⟩ := at_T75 HR0.out x8_1 p457 q457; cases e457; replace hx457_0 := sq_c HB hx457_0; replace hx457_1 := sq_c HB hx457_1; replace hx457_2 := sq_c HB hx457_2; replace p457 := eq_true p457; replace q457 := eq_true q457
    go_wp2_with (first | ((fail_if_success (have h_ := w8)); go_at_call 97; (with_reducible refine (code_May_1.calls k1 ((rd_T75 l0 x8_1).f0) ((rd_T75 l0 x8_1).f1) ((rd_T75 l0 x8_1).f2) true _ ?side1 A6.out).mono ?_); (case side1 => exact au79); rintro e w8 ⟨rfl, hb⟩; replace HB := Aside0.mk (below_step (au1) hb); (try clear hb)))
    go_ret; exact ⟨au4, au1⟩
   ·
    replace c7 := Bool.eq_false_iff.mpr c7; subst c7
    rw [sq_f] at H; have H' := Aside0.mk H; clear H; have p457 : 0 ≤ (x8_1 : Int) := of_decide_eq_true (au9); have q457 : x8_1 < (l0.length : Int) := of_decide_eq_true (au9); obtain ⟨ad457, e457, hx457_0, hx457_1, hx457_2⟩ := at_T75 HR0.out x8_1 p457 q457; cases e457; replace hx457_0 := sq_c HB hx457_0; replace hx457_1 := sq_c HB hx457_1; replace hx457_2 := sq_c HB hx457_2; replace p457 := eq_true p457; replace q457 := eq_true q457
    go_wp2_with (first | ((fail_if_success (have h_ := w9)); go_at_call 97; (with_reducible refine (code_May_1.calls k1 ((rd_T75 l0 x8_1).f0) ((rd_T75 l0 x8_1).f1) ((rd_T75 l0 x8_1).f2) false _ ?side1 A6.out).mono ?_); (case side1 => exact au79); rintro e w9 ⟨rfl, hb⟩; replace HB := Aside0.mk (below_step (au1) hb); (try clear hb)))
    go_roundg k1
    case measure => have := HK1.out; omega
    case rel => exact ⟨(wrap64 (x8_1 + 1)), (au11), H', ⟨by have := HK1.out; omega⟩, ⟨au1⟩⟩
/-! ### slices_ContainsFunc_api_Instr_api_Instr: function 96 -/
def slices_ContainsFunc_api_Instr_api_Instr.f (k : Nat) (l0 : List (S75))  : Option (Bool) := (slices_IndexFunc_api_Instr_api_Instr.f k l0).bind fun t459 => (some (decide (t459 ≥ 0)))
theorem slices_ContainsFunc_api_Instr_api_Instr.mono : ∀ a0 k, LeO (slices_ContainsFunc_api_Instr_api_Instr.f k a0) (slices_ContainsFunc_api_Instr_api_Instr.f (k + 1) a0) := by
 intro a0 k
 unfold slices_ContainsFunc_api_Instr_api_Instr.f
 repeat' first | (with_reducible first | apply slices_IndexFunc_api_Instr_api_Instr.mono | apply LeO.refl | apply LeO.none | refine LeO.ite ?_ ?_ | refine LeO.bind ?_ (fun _ => ?_)) | apply slices_IndexFunc_api_Instr_api_Instr.mono | apply LeO.none | refine LeO.ite ?_ ?_ | refine LeO.bind ?_ (fun _ => ?_)
set_option maxHeartbeats 8000000 in
set_option maxRecDepth 100000 in
theorem slices_ContainsFunc_api_Instr_api_Instr.calls (k : Nat) (A0 : Option Addr) (c0 : Nat) (l0 : List (S75))  (r : Bool) (w : World) (hG : Gl w) (hr0 : Kd.C k75 w A0 l0.length l0) (hc0 : l0.length ≤ c0) (h : slices_ContainsFunc_api_Instr_api_Instr.f k l0 = some r) :
  Calls Tryd.prog 96 #[.slice A0 l0.length c0, .func (.func 97) #[] #[]] w fun e w' => e = .returned (.bool r) ∧ Below w.heap.size w w' := by
 have HG := Aside0.mk hG; clear hG; have HR0 := Aside0.mk hr0; have HC0 := Aside0.mk hc0; clear hr0 hc0; have HB := Aside0.mk (Below.refl w.heap.size w); have H := h; unfold slices_ContainsFunc_api_Instr_api_Instr.f at H; clear h; obtain ⟨t459, A3, H⟩ := sq_bind H; obtain rfl := Option.some.inj H
 go_enter Tryd.func96, Tryd.ntmps96
 go_wp2_with (first | ((with_reducible refine gate_callee (f := 116) rfl ?_); refine goesL_ (some 7) rfl rfl Tryd.func116 (by kernel_rfl) rfl #[.slice A0 l0.length c0, .func (.func 97) #[] #[]] rfl (au2) ?_; (with_reducible refine (slices_IndexFunc_api_Instr_api_Instr.calls k _ _ l0  t459 _ ?side1 ?side2 ?side3 A3.out).mono ?_); (case side1 => exact au79); (case side2 => exact au62); (case side3 => exact HC0.out); rintro e w4 ⟨rfl, hb⟩; refine ⟨_, rfl, ?_⟩; replace HB := Aside0.mk (below_step (au1) hb); (try clear hb)))
 go_ret; exact ⟨au4, au1⟩

end Go.Proofs.YthmjblmdbcmjcaaDoor.P
