/- Contracts of the functions of this seat (each: the call of the function does what the plain Lean function of the same name tells; the conditions stand in each statement). Written by a program of this session and by hand; checked by Lean. -/
import Derived.Test.YtjnmomhkiknhdaaT0
import Derived.Test.YtjnmomhkiknhdaaT3
namespace Go.Proofs.Ytjnmomhkiknhdaa.T
open Go.RowKit Go.Proofs.YtjnmomhkiknhdaaW.PrintWords Go.Proofs.YtjnmomhkiknhdaaW.PrintLast Go.Proofs.YtjnmomhkiknhdaaW.PrintMore
attribute [local go_sem] max2_int min2_int max_two min_two max_three min_three max_four min_four   -- for this text's walks alone
set_option linter.unusedVariables false
set_option linter.unusedSimpArgs false

/-! ### capstanref07_May: function 26 -/
def capstanref07_May.j0 : Nat → Bool → List Int → List Int → Int → Bool → Int → Int → Int → List (S130) → Option (Bool)
 | 0, _, _, _, _, _, _, _, _, _ => none
 | k + 1, x28, x128000, x128001, x128002, x128003, x128004, x128005, x128006, x128007 => if x28 = true then (some false) else (if x128002 = 1 then (if x128004 ≥ 0 then (if x128004 ≤ 1048576 then (if x128005 ≥ 0 then (if x128005 ≤ 256 then (if x128006 ≥ 0 then (some (decide (x128006 ≤ 1024))) else (some false)) else (some false)) else (some false)) else (some false)) else (some false)) else (if x128002 = 2 then (if x128004 ≥ 0 then (if x128004 ≤ 1048576 then (if x128005 ≥ 0 then (if x128005 ≤ 256 then (if x128006 ≥ 0 then (some (decide (x128006 ≤ 1024))) else (some false)) else (some false)) else (some false)) else (some false)) else (some false)) else (some false)))
def capstanref07_May.f (k : Nat) (l0_0 : List Int) (l0_1 : List Int) (a0_2 : Int) (a0_3 : Bool) (a0_4 : Int) (a0_5 : Int) (a0_6 : Int) (l0_7 : List (S130)) : Option (Bool) := if (l0_0.length : Int) > 4 then (capstanref07_May.j0 k true l0_0 l0_1 a0_2 a0_3 a0_4 a0_5 a0_6 l0_7) else (if (l0_1.length : Int) > (wrap64 (16 - (l0_0.length : Int))) then (capstanref07_May.j0 k true l0_0 l0_1 a0_2 a0_3 a0_4 a0_5 a0_6 l0_7) else ((capstanref07_kinds.f k l0_0).bind fun t128 => (if t128 = true then ((capstanref07_kinds.f k l0_1).bind fun t129 => (capstanref07_May.j0 k (!t129) l0_0 l0_1 a0_2 a0_3 a0_4 a0_5 a0_6 l0_7)) else (capstanref07_May.j0 k true l0_0 l0_1 a0_2 a0_3 a0_4 a0_5 a0_6 l0_7))))
theorem capstanref07_May.mono_l : ∀ k, (∀ y0 y1 y2 y3 y4 y5 y6 y7 y8, LeO (capstanref07_May.j0 k y0 y1 y2 y3 y4 y5 y6 y7 y8) (capstanref07_May.j0 (k + 1) y0 y1 y2 y3 y4 y5 y6 y7 y8))
 | 0 => fun _ _ _ _ _ _ _ _ _ r h => by simp [capstanref07_May.j0] at h
 | k + 1 => by
  have ih0 := capstanref07_May.mono_l k
  ·
   intro y0 y1 y2 y3 y4 y5 y6 y7 y8
   unfold capstanref07_May.j0
   repeat' first
   | (with_reducible exact ih0 _ _ _ _ _ _ _ _ _)
   | (with_reducible exact capstanref07_kinds.mono _ _)
   | (with_reducible exact LeO.refl _)
   | (with_reducible exact LeO.none _)
   | (with_reducible refine LeO.ite ?_ ?_)
   | (with_reducible refine LeO.bind ?_ (fun _ => ?_))
   | exact ih0 _ _ _ _ _ _ _ _ _
   | exact capstanref07_kinds.mono _ _
   | exact LeO.none _
   | refine LeO.ite ?_ ?_
   | refine LeO.bind ?_ (fun _ => ?_)
theorem capstanref07_May.mono : ∀ a0 a1 a2 a3 a4 a5 a6 a7 k, LeO (capstanref07_May.f k a0 a1 a2 a3 a4 a5 a6 a7) (capstanref07_May.f (k + 1) a0 a1 a2 a3 a4 a5 a6 a7) := by
 intro a0 a1 a2 a3 a4 a5 a6 a7 k
 have ih0 := capstanref07_May.mono_l k
 unfold capstanref07_May.f
 repeat' first
   | (with_reducible exact ih0 _ _ _ _ _ _ _ _ _)
   | (with_reducible exact capstanref07_kinds.mono _ _)
   | (with_reducible exact LeO.refl _)
   | (with_reducible exact LeO.none _)
   | (with_reducible refine LeO.ite ?_ ?_)
   | (with_reducible refine LeO.bind ?_ (fun _ => ?_))
   | exact ih0 _ _ _ _ _ _ _ _ _
   | exact capstanref07_kinds.mono _ _
   | exact LeO.none _
   | refine LeO.ite ?_ ?_
   | refine LeO.bind ?_ (fun _ => ?_)
set_option maxHeartbeats 8000000 in
set_option maxRecDepth 100000 in
theorem capstanref07_May.calls (k : Nat) (A0_0 : Option Addr) (c0_0 : Nat) (l0_0 : List Int) (A0_1 : Option Addr) (c0_1 : Nat) (l0_1 : List Int) (a0_2 : Int) (a0_3 : Bool) (a0_4 : Int) (a0_5 : Int) (a0_6 : Int) (A0_7 : Option Addr) (c0_7 : Nat) (l0_7 : List (S130)) (r : Bool) (w : World) (hr0_0 : Kd.C (Kd.int .u8) w A0_0 l0_0.length l0_0) (hc0_0 : l0_0.length ≤ c0_0) (hr0_1 : Kd.C (Kd.int .u8) w A0_1 l0_1.length l0_1) (hc0_1 : l0_1.length ≤ c0_1) (hr0_7 : Kd.C k130 w A0_7 l0_7.length l0_7) (hc0_7 : l0_7.length ≤ c0_7) (h : capstanref07_May.f k l0_0 l0_1 a0_2 a0_3 a0_4 a0_5 a0_6 l0_7 = some r) :
  Calls Try.prog 26 #[.agg #[.slice A0_0 l0_0.length c0_0, .slice A0_1 l0_1.length c0_1, .int .u8 a0_2, .bool a0_3, .int .i64 a0_4, .int .i64 a0_5, .int .i64 a0_6, .slice A0_7 l0_7.length c0_7]] w fun e w' => e = .returned (.bool r) ∧ Below w.heap.size w w' := by
 have hu25 := Try.underlying25
 have HR0_0 := Aside0.mk hr0_0
 have HC0_0 := Aside0.mk hc0_0
 clear hr0_0 hc0_0
 have HR0_1 := Aside0.mk hr0_1
 have HC0_1 := Aside0.mk hc0_1
 clear hr0_1 hc0_1
 have HR0_7 := Aside0.mk hr0_7
 have HC0_7 := Aside0.mk hc0_7
 clear hr0_7 hc0_7
 have HB := Aside0.mk (Below.refl w.heap.size w)
 have H : (if (l0_0.length : Int) > 4 then (capstanref07_May.j0 k true l0_0 l0_1 a0_2 a0_3 a0_4 a0_5 a0_6 l0_7) else (if (l0_1.length : Int) > (wrap64 (16 - (l0_0.length : Int))) then (capstanref07_May.j0 k true l0_0 l0_1 a0_2 a0_3 a0_4 a0_5 a0_6 l0_7) else ((capstanref07_kinds.f k l0_0).bind fun t128 => (if t128 = true then ((capstanref07_kinds.f k l0_1).bind fun t129 => (capstanref07_May.j0 k (!t129) l0_0 l0_1 a0_2 a0_3 a0_4 a0_5 a0_6 l0_7)) else (capstanref07_May.j0 k true l0_0 l0_1 a0_2 a0_3 a0_4 a0_5 a0_6 l0_7))))) = some r := h
 clear h
 have HC2 := Aside0.mk H
 clear H
 go_enter Try.func26, Try.ntmps26
 go_upto_region 1 with (first | ((with_reducible refine gate_dst (N := 1) rfl ?_); (try (refine gate_guard (by rfl) ?_; dsimp only)); refine box_event ?hg (N := 1) ?hd (cs := #[.slice A0_0 l0_0.length c0_0, .slice A0_1 l0_1.length c0_1, .int .u8 a0_2, .bool a0_3, .int .i64 a0_4, .int .i64 a0_5, .int .i64 a0_6, .slice A0_7 l0_7.length c0_7]) (t := 25) ?hr ?_; (case hd => rfl); (case hg => rfl); (case hr => first | (go_simp; done) | (go_simp; rfl)); intro gb127 hg w3 hbox hb; have n0_ := Aside0.mk (below_step (au1) hb); have n1_ := Aside0.mk (hbox); have n2_ := Aside0.mk ((au24 : w.heap.size ≤ gb127)); have n3_ := Aside0.mk ((au24 : w.heap.size ≤ gb127)); clear HB; have HB := n0_; have BK127 := n1_; have GW127 := n2_; have GE127 := n3_; clear n0_ n1_ n2_ n3_; clear hb hbox hg))
 (try simp only [Act.put, List.setIfInBounds_toArray, List.set_cons_zero, List.set_cons_succ])
 go_cut [28] (fun v28 wc => ∃ (kq : Nat) (x28_1 : Bool), v28 = .bool x28_1 ∧ Aside0 (capstanref07_May.j0 kq x28_1 l0_0 l0_1 a0_2 a0_3 a0_4 a0_5 a0_6 l0_7 = some r) ∧ Aside0 (kq ≤ k) ∧ Aside0 (wc.heap[gb127]? = some (.cells #[(.slice A0_0 l0_0.length c0_0), (.slice A0_1 l0_1.length c0_1), .int .u8 a0_2, .bool a0_3, .int .i64 a0_4, .int .i64 a0_5, .int .i64 a0_6, (.slice A0_7 l0_7.length c0_7)] 25 (0, 0))) ∧ Aside0 (Below w.heap.size w wc))
 case first =>
  have H := HC2.out
  clear HC2
  by_cases c4 : (l0_0.length : Int) > 4
  ·
   rw [if_pos c4] at H
   have c4b0 : decide (4 < (l0_0.length : Int)) = true := decide_eq_true c4
   have c4b1 : decide (4 < l0_0.length) = true := decide_eq_true (by omega)
   clear c4
   (first | rw [c4b0] | (simp only [i64_w, i32_w]; rw [c4b0]) | skip)
   have H' := Aside0.mk H
   clear H
   obtain ⟨hcz5_0, hcz5_1, hcz5_2, hcz5_3, hcz5_4, hcz5_5, hcz5_6, hcz5_7, hfz5_0, hfz5_1, hfz5_2, hfz5_3, hfz5_4, hfz5_5, hfz5_6, hfz5_7⟩ := blk_all8 BK127.out
   go_wp2
   go_meet
   case rel => exact ⟨_, (true), (au19), H', ⟨au80⟩, ⟨au114⟩, ⟨au14⟩⟩
  ·
   rw [if_neg c4] at H
   have c4b0 : decide (4 < (l0_0.length : Int)) = false := decide_eq_false c4
   have c4b1 : decide (4 < l0_0.length) = false := decide_eq_false (by omega)
   clear c4
   (first | rw [c4b0] | (simp only [i64_w, i32_w]; rw [c4b0]) | skip)
   by_cases c6 : (l0_1.length : Int) > (wrap64 (16 - (l0_0.length : Int)))
   ·
    rw [if_pos c6] at H
    have c6b0 : decide ((wrap64 (16 - (l0_0.length : Int))) < (l0_1.length : Int)) = true := decide_eq_true c6
    clear c6
    have H' := Aside0.mk H
    clear H
    obtain ⟨hcz7_0, hcz7_1, hcz7_2, hcz7_3, hcz7_4, hcz7_5, hcz7_6, hcz7_7, hfz7_0, hfz7_1, hfz7_2, hfz7_3, hfz7_4, hfz7_5, hfz7_6, hfz7_7⟩ := blk_all8 BK127.out
    go_wp2
    go_meet
    case rel => exact ⟨_, (true), (au19), H', ⟨au80⟩, ⟨au114⟩, ⟨au14⟩⟩
   ·
    rw [if_neg c6] at H
    have c6b0 : decide ((wrap64 (16 - (l0_0.length : Int))) < (l0_1.length : Int)) = false := decide_eq_false c6
    clear c6
    replace H := Option.bind_eq_some_iff.mp H
    obtain ⟨t128, A80, H⟩ := H
    replace H : (if t128 = true then ((capstanref07_kinds.f k l0_1).bind fun t129 => (capstanref07_May.j0 k (!t129) l0_0 l0_1 a0_2 a0_3 a0_4 a0_5 a0_6 l0_7)) else (capstanref07_May.j0 k true l0_0 l0_1 a0_2 a0_3 a0_4 a0_5 a0_6 l0_7)) = some r := H
    have A8 := Aside0.mk A80
    clear A80
    by_cases c9 : t128 = true
    ·
     subst c9
     have H1 : ((capstanref07_kinds.f k l0_1).bind fun t129 => (capstanref07_May.j0 k (!t129) l0_0 l0_1 a0_2 a0_3 a0_4 a0_5 a0_6 l0_7)) = some r := by rw [if_pos rfl] at H; exact H
     clear H
     have H := H1
     clear H1
     replace H := Option.bind_eq_some_iff.mp H
     obtain ⟨t129, A100, H⟩ := H
     replace H : (capstanref07_May.j0 k (!t129) l0_0 l0_1 a0_2 a0_3 a0_4 a0_5 a0_6 l0_7) = some r := H
     have A10 := Aside0.mk A100
     clear A100
     have H' := Aside0.mk H
     clear H
     obtain ⟨hcz11_0, hcz11_1, hcz11_2, hcz11_3, hcz11_4, hcz11_5, hcz11_6, hcz11_7, hfz11_0, hfz11_1, hfz11_2, hfz11_3, hfz11_4, hfz11_5, hfz11_6, hfz11_7⟩ := blk_all8 BK127.out
     go_wp2_with (first | (go_at_call 57; (with_reducible refine (capstanref07_kinds.calls k _ _ l0_0 true _ ?side1 ?side2 A8.out).mono ?_); (case side1 => exact au6); (case side2 => exact HC0_0.out); rintro e w' ⟨rfl, ⟨nd, rfl⟩⟩) | (go_at_call 57; (with_reducible refine (capstanref07_kinds.calls k _ _ l0_1 t129 _ ?side1 ?side2 A10.out).mono ?_); (case side1 => repeat (first | exact (Kd.C_below HR0_1.out (au14)) | (with_reducible refine Kd.C_alloc ?_ _) | (with_reducible refine Kd.C_drewN ?_ _) | (with_reducible refine Kd.C_drew ?_))); (case side2 => exact HC0_1.out); rintro e w' ⟨rfl, ⟨nd, rfl⟩⟩))
     go_meet
     case rel => exact ⟨_, (!t129), (au19), H', ⟨au80⟩, ⟨au114⟩, ⟨au14⟩⟩
    ·
     replace c9 := Bool.eq_false_iff.mpr c9
     subst c9
     have H1 : (capstanref07_May.j0 k true l0_0 l0_1 a0_2 a0_3 a0_4 a0_5 a0_6 l0_7) = some r := by rw [if_neg (show ¬ (false = true) by decide)] at H; exact H
     clear H
     have H := H1
     clear H1
     have H' := Aside0.mk H
     clear H
     obtain ⟨hcz12_0, hcz12_1, hcz12_2, hcz12_3, hcz12_4, hcz12_5, hcz12_6, hcz12_7, hfz12_0, hfz12_1, hfz12_2, hfz12_3, hfz12_4, hfz12_5, hfz12_6, hfz12_7⟩ := blk_all8 BK127.out
     go_wp2_with (first | (go_at_call 57; (with_reducible refine (capstanref07_kinds.calls k _ _ l0_0 false _ ?side1 ?side2 A8.out).mono ?_); (case side1 => exact au6); (case side2 => exact HC0_0.out); rintro e w' ⟨rfl, ⟨nd, rfl⟩⟩))
     go_meet
     case rel => exact ⟨_, (true), (au19), H', ⟨au80⟩, ⟨au114⟩, ⟨au14⟩⟩
 case rest =>
  clear HC2
  try clear c2
  try clear p2
  try clear c4
  try clear c4b0
  try clear c4b1
  try clear c6
  try clear c6b0
  try clear p6
  try clear c9
  try clear hcz11_0
  try clear hcz11_1
  try clear hcz11_2
  try clear hcz11_3
  try clear hcz11_4
  try clear hcz11_5
  try clear hcz11_6
  try clear hcz11_7
  try clear hcz12_0
  try clear hcz12_1
  try clear hcz12_2
  try clear hcz12_3
  try clear hcz12_4
  try clear hcz12_5
  try clear hcz12_6
  try clear hcz12_7
  try clear hcz5_0
  try clear hcz5_1
  try clear hcz5_2
  try clear hcz5_3
  try clear hcz5_4
  try clear hcz5_5
  try clear hcz5_6
  try clear hcz5_7
  try clear hcz7_0
  try clear hcz7_1
  try clear hcz7_2
  try clear hcz7_3
  try clear hcz7_4
  try clear hcz7_5
  try clear hcz7_6
  try clear hcz7_7
  try clear hfz11_0
  try clear hfz11_1
  try clear hfz11_2
  try clear hfz11_3
  try clear hfz11_4
  try clear hfz11_5
  try clear hfz11_6
  try clear hfz11_7
  try clear hfz12_0
  try clear hfz12_1
  try clear hfz12_2
  try clear hfz12_3
  try clear hfz12_4
  try clear hfz12_5
  try clear hfz12_6
  try clear hfz12_7
  try clear hfz5_0
  try clear hfz5_1
  try clear hfz5_2
  try clear hfz5_3
  try clear hfz5_4
  try clear hfz5_5
  try clear hfz5_6
  try clear hfz5_7
  try clear hfz7_0
  try clear hfz7_1
  try clear hfz7_2
  try clear hfz7_3
  try clear hfz7_4
  try clear hfz7_5
  try clear hfz7_6
  try clear hfz7_7
  obtain ⟨kq, x28_1, rfl, HA, HJ1, BK127, HB⟩ := hcut
  cases kq with
  | zero => exact absurd HA.out (by simp [capstanref07_May.j0])
  | succ kj1 =>
   have H := HA.out
   clear HA
   simp only [capstanref07_May.j0] at H
   by_cases c13 : x28_1 = true
   ·
    subst c13
    have H1 : (some false) = some r := by rw [if_pos rfl] at H; exact H
    clear H
    have H := H1
    clear H1
    obtain rfl := Option.some.inj H
    go_wp2
    go_ret
    exact ⟨au5, au14⟩
   ·
    replace c13 := Bool.eq_false_iff.mpr c13
    subst c13
    have H1 : (if a0_2 = 1 then (if a0_4 ≥ 0 then (if a0_4 ≤ 1048576 then (if a0_5 ≥ 0 then (if a0_5 ≤ 256 then (if a0_6 ≥ 0 then (some (decide (a0_6 ≤ 1024))) else (some false)) else (some false)) else (some false)) else (some false)) else (some false)) else (if a0_2 = 2 then (if a0_4 ≥ 0 then (if a0_4 ≤ 1048576 then (if a0_5 ≥ 0 then (if a0_5 ≤ 256 then (if a0_6 ≥ 0 then (some (decide (a0_6 ≤ 1024))) else (some false)) else (some false)) else (some false)) else (some false)) else (some false)) else (some false))) = some r := by rw [if_neg (show ¬ (false = true) by decide)] at H; exact H
    clear H
    have H := H1
    clear H1
    by_cases c14 : a0_2 = 1
    ·
     rw [if_pos c14] at H
     have c14b0 : (a0_2 == 1) = true := beq_iff_eq.mpr c14
     have c14b1 : (a0_2 != 1) = false := bne_eq_false_iff_eq.mpr c14
     clear c14
     by_cases c15 : a0_4 ≥ 0
     ·
      rw [if_pos c15] at H
      have c15b0 : decide (0 ≤ a0_4) = true := decide_eq_true c15
      clear c15
      by_cases c16 : a0_4 ≤ 1048576
      ·
       rw [if_pos c16] at H
       have c16b0 : decide (a0_4 ≤ 1048576) = true := decide_eq_true c16
       clear c16
       by_cases c17 : a0_5 ≥ 0
       ·
        rw [if_pos c17] at H
        have c17b0 : decide (0 ≤ a0_5) = true := decide_eq_true c17
        clear c17
        by_cases c18 : a0_5 ≤ 256
        ·
         rw [if_pos c18] at H
         have c18b0 : decide (a0_5 ≤ 256) = true := decide_eq_true c18
         clear c18
         by_cases c19 : a0_6 ≥ 0
         ·
          rw [if_pos c19] at H
          have c19b0 : decide (0 ≤ a0_6) = true := decide_eq_true c19
          clear c19
          obtain rfl := Option.some.inj H
          obtain ⟨hcz20_0, hcz20_1, hcz20_2, hcz20_3, hcz20_4, hcz20_5, hcz20_6, hcz20_7, hfz20_0, hfz20_1, hfz20_2, hfz20_3, hfz20_4, hfz20_5, hfz20_6, hfz20_7⟩ := blk_all8 BK127.out
          go_wp2
          go_ret
          exact ⟨au5, au14⟩
         ·
          rw [if_neg c19] at H
          have c19b0 : decide (0 ≤ a0_6) = false := decide_eq_false c19
          clear c19
          obtain rfl := Option.some.inj H
          obtain ⟨hcz21_0, hcz21_1, hcz21_2, hcz21_3, hcz21_4, hcz21_5, hcz21_6, hcz21_7, hfz21_0, hfz21_1, hfz21_2, hfz21_3, hfz21_4, hfz21_5, hfz21_6, hfz21_7⟩ := blk_all8 BK127.out
          go_wp2
          go_ret
          exact ⟨au5, au14⟩
        ·
         rw [if_neg c18] at H
         have c18b0 : decide (a0_5 ≤ 256) = false := decide_eq_false c18
         clear c18
         obtain rfl := Option.some.inj H
         obtain ⟨hcz22_0, hcz22_1, hcz22_2, hcz22_3, hcz22_4, hcz22_5, hcz22_6, hcz22_7, hfz22_0, hfz22_1, hfz22_2, hfz22_3, hfz22_4, hfz22_5, hfz22_6, hfz22_7⟩ := blk_all8 BK127.out
         go_wp2
         go_ret
         exact ⟨au5, au14⟩
       ·
        rw [if_neg c17] at H
        have c17b0 : decide (0 ≤ a0_5) = false := decide_eq_false c17
        clear c17
        obtain rfl := Option.some.inj H
        obtain ⟨hcz23_0, hcz23_1, hcz23_2, hcz23_3, hcz23_4, hcz23_5, hcz23_6, hcz23_7, hfz23_0, hfz23_1, hfz23_2, hfz23_3, hfz23_4, hfz23_5, hfz23_6, hfz23_7⟩ := blk_all8 BK127.out
        go_wp2
        go_ret
        exact ⟨au5, au14⟩
      ·
       rw [if_neg c16] at H
       have c16b0 : decide (a0_4 ≤ 1048576) = false := decide_eq_false c16
       clear c16
       obtain rfl := Option.some.inj H
       obtain ⟨hcz24_0, hcz24_1, hcz24_2, hcz24_3, hcz24_4, hcz24_5, hcz24_6, hcz24_7, hfz24_0, hfz24_1, hfz24_2, hfz24_3, hfz24_4, hfz24_5, hfz24_6, hfz24_7⟩ := blk_all8 BK127.out
       go_wp2
       go_ret
       exact ⟨au5, au14⟩
     ·
      rw [if_neg c15] at H
      have c15b0 : decide (0 ≤ a0_4) = false := decide_eq_false c15
      clear c15
      obtain rfl := Option.some.inj H
      obtain ⟨hcz25_0, hcz25_1, hcz25_2, hcz25_3, hcz25_4, hcz25_5, hcz25_6, hcz25_7, hfz25_0, hfz25_1, hfz25_2, hfz25_3, hfz25_4, hfz25_5, hfz25_6, hfz25_7⟩ := blk_all8 BK127.out
      go_wp2
      go_ret
      exact ⟨au5, au14⟩
    ·
     rw [if_neg c14] at H
     have c14b0 : (a0_2 == 1) = false := beq_eq_false_iff_ne.mpr c14
     have c14b1 : (a0_2 != 1) = true := bne_iff_ne.mpr c14
     by_cases c26 : a0_2 = 2
     ·
      rw [if_pos c26] at H
      have c26b0 : (a0_2 == 2) = true := beq_iff_eq.mpr c26
      have c26b1 : (a0_2 != 2) = false := bne_eq_false_iff_eq.mpr c26
      clear c26
      by_cases c27 : a0_4 ≥ 0
      ·
       rw [if_pos c27] at H
       have c27b0 : decide (0 ≤ a0_4) = true := decide_eq_true c27
       clear c27
       by_cases c28 : a0_4 ≤ 1048576
       ·
        rw [if_pos c28] at H
        have c28b0 : decide (a0_4 ≤ 1048576) = true := decide_eq_true c28
        clear c28
        by_cases c29 : a0_5 ≥ 0
        ·
         rw [if_pos c29] at H
         have c29b0 : decide (0 ≤ a0_5) = true := decide_eq_true c29
         clear c29
         by_cases c30 : a0_5 ≤ 256
         ·
          rw [if_pos c30] at H
          have c30b0 : decide (a0_5 ≤ 256) = true := decide_eq_true c30
          clear c30
          by_cases c31 : a0_6 ≥ 0
          ·
           rw [if_pos c31] at H
           have c31b0 : decide (0 ≤ a0_6) = true := decide_eq_true c31
           clear c31
           obtain rfl := Option.some.inj H
           obtain ⟨hcz32_0, hcz32_1, hcz32_2, hcz32_3, hcz32_4, hcz32_5, hcz32_6, hcz32_7, hfz32_0, hfz32_1, hfz32_2, hfz32_3, hfz32_4, hfz32_5, hfz32_6, hfz32_7⟩ := blk_all8 BK127.out
           go_wp2
           go_ret
           exact ⟨au5, au14⟩
          ·
           rw [if_neg c31] at H
           have c31b0 : decide (0 ≤ a0_6) = false := decide_eq_false c31
           clear c31
           obtain rfl := Option.some.inj H
           obtain ⟨hcz33_0, hcz33_1, hcz33_2, hcz33_3, hcz33_4, hcz33_5, hcz33_6, hcz33_7, hfz33_0, hfz33_1, hfz33_2, hfz33_3, hfz33_4, hfz33_5, hfz33_6, hfz33_7⟩ := blk_all8 BK127.out
           go_wp2
           go_ret
           exact ⟨au5, au14⟩
         ·
          rw [if_neg c30] at H
          have c30b0 : decide (a0_5 ≤ 256) = false := decide_eq_false c30
          clear c30
          obtain rfl := Option.some.inj H
          obtain ⟨hcz34_0, hcz34_1, hcz34_2, hcz34_3, hcz34_4, hcz34_5, hcz34_6, hcz34_7, hfz34_0, hfz34_1, hfz34_2, hfz34_3, hfz34_4, hfz34_5, hfz34_6, hfz34_7⟩ := blk_all8 BK127.out
          go_wp2
          go_ret
          exact ⟨au5, au14⟩
        ·
         rw [if_neg c29] at H
         have c29b0 : decide (0 ≤ a0_5) = false := decide_eq_false c29
         clear c29
         obtain rfl := Option.some.inj H
         obtain ⟨hcz35_0, hcz35_1, hcz35_2, hcz35_3, hcz35_4, hcz35_5, hcz35_6, hcz35_7, hfz35_0, hfz35_1, hfz35_2, hfz35_3, hfz35_4, hfz35_5, hfz35_6, hfz35_7⟩ := blk_all8 BK127.out
         go_wp2
         go_ret
         exact ⟨au5, au14⟩
       ·
        rw [if_neg c28] at H
        have c28b0 : decide (a0_4 ≤ 1048576) = false := decide_eq_false c28
        clear c28
        obtain rfl := Option.some.inj H
        obtain ⟨hcz36_0, hcz36_1, hcz36_2, hcz36_3, hcz36_4, hcz36_5, hcz36_6, hcz36_7, hfz36_0, hfz36_1, hfz36_2, hfz36_3, hfz36_4, hfz36_5, hfz36_6, hfz36_7⟩ := blk_all8 BK127.out
        go_wp2
        go_ret
        exact ⟨au5, au14⟩
      ·
       rw [if_neg c27] at H
       have c27b0 : decide (0 ≤ a0_4) = false := decide_eq_false c27
       clear c27
       obtain rfl := Option.some.inj H
       obtain ⟨hcz37_0, hcz37_1, hcz37_2, hcz37_3, hcz37_4, hcz37_5, hcz37_6, hcz37_7, hfz37_0, hfz37_1, hfz37_2, hfz37_3, hfz37_4, hfz37_5, hfz37_6, hfz37_7⟩ := blk_all8 BK127.out
       go_wp2
       go_ret
       exact ⟨au5, au14⟩
     ·
      rw [if_neg c26] at H
      have c26b0 : (a0_2 == 2) = false := beq_eq_false_iff_ne.mpr c26
      have c26b1 : (a0_2 != 2) = true := bne_iff_ne.mpr c26
      obtain rfl := Option.some.inj H
      obtain ⟨hcz38_0, hcz38_1, hcz38_2, hcz38_3, hcz38_4, hcz38_5, hcz38_6, hcz38_7, hfz38_0, hfz38_1, hfz38_2, hfz38_3, hfz38_4, hfz38_5, hfz38_6, hfz38_7⟩ := blk_all8 BK127.out
      go_wp2
      go_ret
      exact ⟨au5, au14⟩

/-! ### capstanref01_Put: function 54 -/
mutual
def capstanref01_Put.j0 : Nat → Int → Int → Bool → Option (List Int × Int)
 | 0, _, _, _ => none
 | k + 1, x0, x1, x13 => if x13 = true then (some (([] : List Int), 2)) else (if x1 < 0 then (some (([] : List Int), 11)) else (capstanref01_Put.l0 k x0 x1 ([] : List Int) 0))
def capstanref01_Put.l0 : Nat → Int → Int → List Int → Int → Option (List Int × Int)
 | 0, _, _, _, _ => none
 | k + 1, x0, x1, x6, x7 => if x7 < x0 then (if x6.length < 140737488355328 then (capstanref01_Put.l0 k x0 (wrap64 (Int.tdiv x1 256)) (x6 ++ [(Int.tmod x1 256) % 256]) (wrap64 (x7 + 1))) else (none)) else (if x1 > 0 then (some (([] : List Int), 11)) else (some (x6, 0)))
end
def capstanref01_Put.f (k : Nat) (a0 : Int) (a1 : Int) : Option (List Int × Int) := if a0 < 1 then (capstanref01_Put.j0 k a0 a1 true) else (capstanref01_Put.j0 k a0 a1 (decide (a0 > 8)))
theorem capstanref01_Put.mono_l : ∀ k, (∀ y0 y1 y2, LeO (capstanref01_Put.j0 k y0 y1 y2) (capstanref01_Put.j0 (k + 1) y0 y1 y2)) ∧ (∀ y0 y1 y2 y3, LeO (capstanref01_Put.l0 k y0 y1 y2 y3) (capstanref01_Put.l0 (k + 1) y0 y1 y2 y3))
 | 0 => ⟨fun _ _ _ r h => by simp [capstanref01_Put.j0] at h, fun _ _ _ _ r h => by simp [capstanref01_Put.l0] at h⟩
 | k + 1 => by
  obtain ⟨ih0, ih1⟩ := capstanref01_Put.mono_l k
  refine ⟨?_, ?_⟩
  ·
   intro y0 y1 y2
   unfold capstanref01_Put.j0
   repeat' first
   | (with_reducible exact ih0 _ _ _)
   | (with_reducible exact ih1 _ _ _ _)
   | (with_reducible exact LeO.refl _)
   | (with_reducible exact LeO.none _)
   | (with_reducible refine LeO.ite ?_ ?_)
   | (with_reducible refine LeO.bind ?_ (fun _ => ?_))
   | exact ih0 _ _ _
   | exact ih1 _ _ _ _
   | exact LeO.none _
   | refine LeO.ite ?_ ?_
   | refine LeO.bind ?_ (fun _ => ?_)
  ·
   intro y0 y1 y2 y3
   unfold capstanref01_Put.l0
   repeat' first
   | (with_reducible exact ih0 _ _ _)
   | (with_reducible exact ih1 _ _ _ _)
   | (with_reducible exact LeO.refl _)
   | (with_reducible exact LeO.none _)
   | (with_reducible refine LeO.ite ?_ ?_)
   | (with_reducible refine LeO.bind ?_ (fun _ => ?_))
   | exact ih0 _ _ _
   | exact ih1 _ _ _ _
   | exact LeO.none _
   | refine LeO.ite ?_ ?_
   | refine LeO.bind ?_ (fun _ => ?_)
theorem capstanref01_Put.mono : ∀ a0 a1 k, LeO (capstanref01_Put.f k a0 a1) (capstanref01_Put.f (k + 1) a0 a1) := by
 intro a0 a1 k
 obtain ⟨ih0, ih1⟩ := capstanref01_Put.mono_l k
 unfold capstanref01_Put.f
 repeat' first
   | (with_reducible exact ih0 _ _ _)
   | (with_reducible exact ih1 _ _ _ _)
   | (with_reducible exact LeO.refl _)
   | (with_reducible exact LeO.none _)
   | (with_reducible refine LeO.ite ?_ ?_)
   | (with_reducible refine LeO.bind ?_ (fun _ => ?_))
   | exact ih0 _ _ _
   | exact ih1 _ _ _ _
   | exact LeO.none _
   | refine LeO.ite ?_ ?_
   | refine LeO.bind ?_ (fun _ => ?_)
set_option maxHeartbeats 8000000 in
set_option maxRecDepth 100000 in
theorem capstanref01_Put.calls (k : Nat) (a0 : Int) (a1 : Int) (r1 : List Int) (r2 : Int) (w : World) (h : capstanref01_Put.f k a0 a1 = some (r1, r2)) :
  Calls Try.prog 54 #[.int .i64 a0, .int .i64 a1] w fun e w' => ∃ v0_ : Value, e = .returned (.tuple #[v0_, .int .i64 r2]) ∧ Kd.R (Kd.int .u8) 5 w' w.heap.size (fun _ => True) v0_ r1 ∧ Below w.heap.size w w' := by
 have HB := Aside0.mk (Below.refl w.heap.size w)
 have H : (if a0 < 1 then (capstanref01_Put.j0 k a0 a1 true) else (capstanref01_Put.j0 k a0 a1 (decide (a0 > 8)))) = some (r1, r2) := h
 clear h
 have HC3 := Aside0.mk H
 clear H
 go_enter Try.func54, Try.ntmps54
 go_upto_region 1 with (fail)
 go_cut [13] (fun v13 wc => ∃ (kq : Nat) (x13_2 : Bool), v13 = .bool x13_2 ∧ Aside0 (capstanref01_Put.j0 kq a0 a1 x13_2 = some (r1, r2)) ∧ Aside0 (kq ≤ k) ∧ Aside0 (Below w.heap.size w wc))
 case first =>
  have H := HC3.out
  clear HC3
  by_cases c4 : a0 < 1
  ·
   rw [if_pos c4] at H
   have c4b0 : decide (a0 < 1) = true := decide_eq_true c4
   clear c4
   (first | rw [c4b0] | (simp only [i64_w, i32_w]; rw [c4b0]) | skip)
   have H' := Aside0.mk H
   clear H
   go_wp2
   go_meet
   case rel => exact ⟨_, (true), (au19), H', ⟨au80⟩, ⟨au1⟩⟩
  ·
   rw [if_neg c4] at H
   have c4b0 : decide (a0 < 1) = false := decide_eq_false c4
   clear c4
   (first | rw [c4b0] | (simp only [i64_w, i32_w]; rw [c4b0]) | skip)
   have H' := Aside0.mk H
   clear H
   go_wp2
   go_meet
   case rel => exact ⟨_, (decide (a0 > 8)), (au19), H', ⟨au80⟩, ⟨au1⟩⟩
 case rest =>
  clear HC3
  try clear p2
  try clear c4
  try clear c4b0
  obtain ⟨kq, x13_2, rfl, HA, HJ2, HB⟩ := hcut
  cases kq with
  | zero => exact absurd HA.out (by simp [capstanref01_Put.j0])
  | succ kj2 =>
   have H := HA.out
   clear HA
   simp only [capstanref01_Put.j0] at H
   by_cases c5 : x13_2 = true
   ·
    subst c5
    have H1 : (some (([] : List Int), 2)) = some (r1, r2) := by rw [if_pos rfl] at H; exact H
    clear H
    have H := H1
    clear H1
    simp only [Option.some.injEq, Prod.mk.injEq] at H
    obtain ⟨rfl, rfl⟩ := H
    go_wp2
    go_ret2
    exact ⟨_, au5, au40, au1⟩
   ·
    replace c5 := Bool.eq_false_iff.mpr c5
    subst c5
    have H1 : (if a1 < 0 then (some (([] : List Int), 11)) else (capstanref01_Put.l0 kj2 a0 a1 ([] : List Int) 0)) = some (r1, r2) := by rw [if_neg (show ¬ (false = true) by decide)] at H; exact H
    clear H
    have H := H1
    clear H1
    by_cases c6 : a1 < 0
    ·
     rw [if_pos c6] at H
     have c6b0 : decide (a1 < 0) = true := decide_eq_true c6
     clear c6
     simp only [Option.some.injEq, Prod.mk.injEq] at H
     obtain ⟨rfl, rfl⟩ := H
     go_wp2
     go_ret2
     exact ⟨_, au5, au40, au1⟩
    ·
     rw [if_neg c6] at H
     have c6b0 : decide (a1 < 0) = false := decide_eq_false c6
     clear c6
     have H' := Aside0.mk H
     clear H
     go_wp2
     go_loopg [1, 6, 7] kj2 (fun kq v1 v6 v7 w' => ∃ (x1_2 : Int) (x6_2 : List Int) (x7_2 : Int), v1 = .int .i64 x1_2 ∧ v7 = .int .i64 x7_2 ∧ Aside0 (capstanref01_Put.l0 kq a0 x1_2 x6_2 x7_2 = some (r1, r2)) ∧ Aside0 (kq ≤ kj2) ∧ Aside0 (Kd.R (Kd.int .u8) 5 w' w.heap.size (fun _ => True) v6 x6_2) ∧ Aside0 (Below w.heap.size w w'))
     case atStart => exact ⟨(a1), (([] : List Int)), (0), (au19), (au19), H', ⟨Nat.le_refl _⟩, ⟨au40⟩, ⟨au1⟩⟩
     case round =>
      clear H'
      try clear p2
      try clear c4
      try clear c4b0
      try clear c5
      try clear c6
      try clear c6b0
      try clear p2
      obtain ⟨x1_2, x6_2, x7_2, rfl, rfl, HA, HK2, HO_6, HB⟩ := hrel
      cases gk with
      | zero => exact absurd HA.out (by simp [capstanref01_Put.l0])
      | succ k2 =>
       have H := HA.out
       clear HA
       simp only [capstanref01_Put.l0] at H
       by_cases c7 : x7_2 < a0
       ·
        rw [if_pos c7] at H
        have c7b0 : decide (x7_2 < a0) = true := decide_eq_true c7
        clear c7
        by_cases c8 : x6_2.length < 140737488355328
        ·
         rw [if_pos c8] at H
         have LMc8 := Aside0.mk c8
         clear c8
         obtain ⟨y130, hy130⟩ : ∃ y_ : List Int, y_ = (x6_2 ++ [(Int.tmod x1_2 256) % 256]) := ⟨_, rfl⟩
         replace H : (capstanref01_Put.l0 k2 a0 (wrap64 (Int.tdiv x1_2 256)) y130 (wrap64 (x7_2 + 1))) = some (r1, r2) := by first | (rw [hy130]; with_reducible exact H) | (have H2_ := (Option.bind_some _ _).symm.trans H; rw [hy130]; with_reducible exact H2_) | (have H2_ := (Option.bind_some _ _).symm.trans H; with_reducible exact H2_) | with_reducible exact H | (rw [hy130]; exact H) | exact H
         have Ny130 := Aside0.mk hy130
         clear hy130
         have H' := Aside0.mk H
         clear H
         go_wp2_with (first | ((with_reducible refine gate_builtin (b := .append) (xs := #[.tmp 21, .tmp 25]) rfl ?_); at_builtin; refine Kd.R_append (Kd.int .u8) (w0 := w) w.heap.size rfl (.tmp 21) (.tmp 25) 22 5 (.int .u8 0) 1 rfl Try.underlying22 info5 rfl (by decide) (by omega) u6 x6_2 ((Int.tmod x1_2 256) % 256) [.int .u8 ((Int.tmod x1_2 256) % 256)] (fun _ => True) (fun _ => False) rfl rfl ?aP (fun _ hk => hk.elim) ?aF ?aO ?aB ?aS ?aL ?_; (case aP => exact rfl); (case aB => exact (au1)); (case aF => exact (fun _ _ => trivial)); (case aO => exact (au117)); (case aS => exact (below_size (au1))); (case aL => have := LMc8.out; omega); intro v131 w9 ho hb hg hat; rw [← Ny130.out] at ho; have n0_ := Aside0.mk (hb); have n1_ := Aside0.mk (ho); clear HB; clear HO_6; have HB := n0_; have HO132 := n1_; clear n0_ n1_; clear ho hb hg hat))
         go_roundg k2
         case measure => have := HJ2.out; have := HK2.out; omega
         case rel => exact ⟨(wrap64 (Int.tdiv x1_2 256)), (y130), (wrap64 (x7_2 + 1)), (au19), (au19), H', ⟨by have := HJ2.out; have := HK2.out; omega⟩, ⟨by (with_reducible repeat (first | apply Kd.R_alloc | apply Kd.R_drewN | apply Kd.R_drew)); exact HO132.out⟩, ⟨au1⟩⟩
        ·
         rw [if_neg c8] at H
         exact absurd H (by simp)
       ·
        rw [if_neg c7] at H
        have c7b0 : decide (x7_2 < a0) = false := decide_eq_false c7
        clear c7
        by_cases c10 : x1_2 > 0
        ·
         rw [if_pos c10] at H
         have c10b0 : decide (0 < x1_2) = true := decide_eq_true c10
         clear c10
         simp only [Option.some.injEq, Prod.mk.injEq] at H
         obtain ⟨rfl, rfl⟩ := H
         go_wp2
         go_ret2
         exact ⟨_, au5, au40, au1⟩
        ·
         rw [if_neg c10] at H
         have c10b0 : decide (0 < x1_2) = false := decide_eq_false c10
         clear c10
         simp only [Option.some.injEq, Prod.mk.injEq] at H
         obtain ⟨rfl, rfl⟩ := H
         go_wp2
         go_ret2
         exact ⟨_, au5, au117, au1⟩

end Go.Proofs.Ytjnmomhkiknhdaa.T
