/- Contracts of the functions of this seat (each: the call of the function does what the plain Lean function of the same name tells; the conditions stand in each statement). Written by a program of this session and by hand; checked by Lean. -/
import Derived.Test.YtkmnachdibhdhaaU0
namespace Go.Proofs.Ytkmnachdibhdhaa.U
open Go.RowKit Go.Proofs.YtkmnachdibhdhaaW.PrintWords Go.Proofs.YtkmnachdibhdhaaW.PrintLast Go.Proofs.YtkmnachdibhdhaaW.PrintMore
attribute [local go_sem] max2_int min2_int max_two min_two max_three min_three max_four min_four   -- for this text's walks alone
set_option linter.unusedVariables false
set_option linter.unusedSimpArgs false

/-! ### capstanref13_Stores: function 13 -/
mutual
def capstanref13_Stores.j0 : Nat → Int → Bool → List (S86) → List (S86) → List (S52) → Int → Option (Bool × Int)
 | 0, _, _, _, _, _, _ => none
 | k + 1, x1, x15, x142000, x142001, x142002, x142003 => if x15 = true then (some (false, 2)) else (capstanref13_Stores.l0 k x1 0 x142000 x142001 x142002 x142003)
def capstanref13_Stores.l0 : Nat → Int → Int → List (S86) → List (S86) → List (S52) → Int → Option (Bool × Int)
 | 0, _, _, _, _, _, _ => none
 | k + 1, x1, x6, x142000, x142001, x142002, x142003 => if 0 ≤ x1 then (if x1 < (x142002.length : Int) then (if x6 < (((rd_T52 x142002 x1).f7).length : Int) then (if 0 ≤ x6 then (if ((rd_T70 ((rd_T52 x142002 x1).f7) x6).f0) = 5 then (some (true, 0)) else (capstanref13_Stores.l0 k x1 (wrap64 (x6 + 1)) x142000 x142001 x142002 x142003)) else (none)) else (some (false, 0))) else (none)) else (none)
end
def capstanref13_Stores.f (k : Nat) (l0_0 : List (S86)) (l0_1 : List (S86)) (l0_2 : List (S52)) (a0_3 : Int) (a1 : Int) : Option (Bool × Int) := if a1 < 0 then (capstanref13_Stores.j0 k a1 true l0_0 l0_1 l0_2 a0_3) else (capstanref13_Stores.j0 k a1 (decide (a1 ≥ (l0_2.length : Int))) l0_0 l0_1 l0_2 a0_3)
theorem capstanref13_Stores.mono_l : ∀ k, (∀ y0 y1 y2 y3 y4 y5, LeO (capstanref13_Stores.j0 k y0 y1 y2 y3 y4 y5) (capstanref13_Stores.j0 (k + 1) y0 y1 y2 y3 y4 y5)) ∧ (∀ y0 y1 y2 y3 y4 y5, LeO (capstanref13_Stores.l0 k y0 y1 y2 y3 y4 y5) (capstanref13_Stores.l0 (k + 1) y0 y1 y2 y3 y4 y5))
 | 0 => ⟨fun _ _ _ _ _ _ r h => by simp [capstanref13_Stores.j0] at h, fun _ _ _ _ _ _ r h => by simp [capstanref13_Stores.l0] at h⟩
 | k + 1 => by
  obtain ⟨ih0, ih1⟩ := capstanref13_Stores.mono_l k; refine ⟨?_, ?_⟩
  ·
   intro y0 y1 y2 y3 y4 y5
   unfold capstanref13_Stores.j0
   repeat' first
   | (with_reducible exact ih0 _ _ _ _ _ _)
   | (with_reducible exact ih1 _ _ _ _ _ _)
   | (with_reducible exact LeO.refl _)
   | (with_reducible exact LeO.none _)
   | (with_reducible refine LeO.ite ?_ ?_)
   | (with_reducible refine LeO.bind ?_ (fun _ => ?_))
   | exact ih0 _ _ _ _ _ _
   | exact ih1 _ _ _ _ _ _
   | exact LeO.none _
   | refine LeO.ite ?_ ?_
   | refine LeO.bind ?_ (fun _ => ?_)
  ·
   intro y0 y1 y2 y3 y4 y5
   unfold capstanref13_Stores.l0
   repeat' first
   | (with_reducible exact ih0 _ _ _ _ _ _)
   | (with_reducible exact ih1 _ _ _ _ _ _)
   | (with_reducible exact LeO.refl _)
   | (with_reducible exact LeO.none _)
   | (with_reducible refine LeO.ite ?_ ?_)
   | (with_reducible refine LeO.bind ?_ (fun _ => ?_))
   | exact ih0 _ _ _ _ _ _
   | exact ih1 _ _ _ _ _ _
   | exact LeO.none _
   | refine LeO.ite ?_ ?_
   | refine LeO.bind ?_ (fun _ => ?_)
theorem capstanref13_Stores.mono : ∀ a0 a1 a2 a3 a4 k, LeO (capstanref13_Stores.f k a0 a1 a2 a3 a4) (capstanref13_Stores.f (k + 1) a0 a1 a2 a3 a4) := by
 intro a0 a1 a2 a3 a4 k; obtain ⟨ih0, ih1⟩ := capstanref13_Stores.mono_l k
 unfold capstanref13_Stores.f
 repeat' first
   | (with_reducible exact ih0 _ _ _ _ _ _)
   | (with_reducible exact ih1 _ _ _ _ _ _)
   | (with_reducible exact LeO.refl _)
   | (with_reducible exact LeO.none _)
   | (with_reducible refine LeO.ite ?_ ?_)
   | (with_reducible refine LeO.bind ?_ (fun _ => ?_))
   | exact ih0 _ _ _ _ _ _
   | exact ih1 _ _ _ _ _ _
   | exact LeO.none _
   | refine LeO.ite ?_ ?_
   | refine LeO.bind ?_ (fun _ => ?_)
set_option maxHeartbeats 8000000 in
set_option maxRecDepth 100000 in
theorem capstanref13_Stores.calls (k : Nat) (A0_0 : Option Addr) (c0_0 : Nat) (l0_0 : List (S86)) (A0_1 : Option Addr) (c0_1 : Nat) (l0_1 : List (S86)) (A0_2 : Option Addr) (c0_2 : Nat) (l0_2 : List (S52)) (a0_3 : Int) (a1 : Int) (r1 : Bool) (r2 : Int) (w : World) (hr0_0 : Kd.C k86 w A0_0 l0_0.length l0_0) (hc0_0 : l0_0.length ≤ c0_0) (hr0_1 : Kd.C k86 w A0_1 l0_1.length l0_1) (hc0_1 : l0_1.length ≤ c0_1) (hr0_2 : Kd.C k52 w A0_2 l0_2.length l0_2) (hc0_2 : l0_2.length ≤ c0_2) (h : capstanref13_Stores.f k l0_0 l0_1 l0_2 a0_3 a1 = some (r1, r2)) :
  Calls Try.prog 13 #[.agg #[.slice A0_0 l0_0.length c0_0, .slice A0_1 l0_1.length c0_1, .slice A0_2 l0_2.length c0_2, .int .i64 a0_3], .int .i64 a1] w fun e w' => e = .returned (.tuple #[.bool r1, .int .i64 r2]) ∧ Below w.heap.size w w' := by
 have hu25 := Try.underlying25; have HR0_0 := Aside0.mk hr0_0; have HC0_0 := Aside0.mk hc0_0; clear hr0_0 hc0_0; have HR0_1 := Aside0.mk hr0_1; have HC0_1 := Aside0.mk hc0_1; clear hr0_1 hc0_1; have HR0_2 := Aside0.mk hr0_2; have HC0_2 := Aside0.mk hc0_2; clear hr0_2 hc0_2; have HB := Aside0.mk (Below.refl w.heap.size w); have H : (if a1 < 0 then (capstanref13_Stores.j0 k a1 true l0_0 l0_1 l0_2 a0_3) else (capstanref13_Stores.j0 k a1 (decide (a1 ≥ (l0_2.length : Int))) l0_0 l0_1 l0_2 a0_3)) = some (r1, r2) := h; clear h; have HC3 := Aside0.mk H; clear H
 go_enter Try.func13, Try.ntmps13
 go_upto_region 1 with (first | ((with_reducible refine gate_dst (N := 2) rfl ?_); (try (refine gate_guard (by rfl) ?_; dsimp only)); refine box_event ?hg (N := 2) ?hd (cs := #[.slice A0_0 l0_0.length c0_0, .slice A0_1 l0_1.length c0_1, .slice A0_2 l0_2.length c0_2, .int .i64 a0_3]) (t := 25) ?hr ?_; (case hd => rfl); (case hg => rfl); (case hr => first | (go_simp; done) | (go_simp; rfl)); intro gb141 hg w4 hbox hb; have n0_ := Aside0.mk (below_step (au1) hb); have n1_ := Aside0.mk (hbox); have n2_ := Aside0.mk ((au28 : w.heap.size ≤ gb141)); have n3_ := Aside0.mk ((au28 : w.heap.size ≤ gb141)); clear HB; have HB := n0_; have BK141 := n1_; have GW141 := n2_; have GE141 := n3_; clear n0_ n1_ n2_ n3_; clear hb hbox hg))
 (try simp only [Act.put, List.setIfInBounds_toArray, List.set_cons_zero, List.set_cons_succ])
 go_cut [15] (fun v15 wc => ∃ (kq : Nat) (x15_2 : Bool), v15 = .bool x15_2 ∧ Aside0 (capstanref13_Stores.j0 kq a1 x15_2 l0_0 l0_1 l0_2 a0_3 = some (r1, r2)) ∧ Aside0 (kq ≤ k) ∧ Aside0 (wc.heap[gb141]? = some (.cells #[(.slice A0_0 l0_0.length c0_0), (.slice A0_1 l0_1.length c0_1), (.slice A0_2 l0_2.length c0_2), .int .i64 a0_3] 25 (0, 0))) ∧ Aside0 (Below w.heap.size w wc))
 case first =>
  have H := HC3.out; clear HC3
  by_cases c5 : a1 < 0
  ·
   rw [if_pos c5] at H; have c5b0 : decide (a1 < 0) = true := decide_eq_true c5; clear c5
   (first | rw [c5b0] | (simp only [i64_w, i32_w]; rw [c5b0]) | skip)
   have H' := Aside0.mk H; clear H; go_wp2; go_meet
   case rel => exact ⟨_, (true), (au17), H', ⟨au99⟩, ⟨au97⟩, ⟨au35⟩⟩
  ·
   rw [if_neg c5] at H; have c5b0 : decide (a1 < 0) = false := decide_eq_false c5; clear c5
   (first | rw [c5b0] | (simp only [i64_w, i32_w]; rw [c5b0]) | skip)
   have H' := Aside0.mk H; clear H; obtain ⟨hcz6_0, hcz6_1, hcz6_2, hcz6_3, hfz6_0, hfz6_1, hfz6_2, hfz6_3⟩ := blk_all4 BK141.out; go_wp2; go_meet
   case rel => exact ⟨_, (decide (a1 ≥ (l0_2.length : Int))), (au17), H', ⟨au99⟩, ⟨au97⟩, ⟨au35⟩⟩
 case rest =>
  clear HC3; (try clear c1); (try clear p2); (try clear c5); (try clear c5b0); (try clear hcz6_0); (try clear hcz6_1); (try clear hcz6_2); (try clear hcz6_3); (try clear hfz6_0); (try clear hfz6_1); (try clear hfz6_2); (try clear hfz6_3); obtain ⟨kq, x15_2, rfl, HA, HJ2, BK141, HB⟩ := hcut
  cases kq with
  | zero => exact absurd HA.out (by simp [capstanref13_Stores.j0])
  | succ kj2 =>
   have H := HA.out; clear HA; simp only [capstanref13_Stores.j0] at H
   by_cases c7 : x15_2 = true
   ·
    subst c7
    have H1 : (some (false, 2)) = some (r1, r2) := by rw [if_pos rfl] at H; exact H
    clear H; have H := H1; clear H1; simp only [Option.some.injEq, Prod.mk.injEq] at H; obtain ⟨rfl, rfl⟩ := H; go_wp2
    go_ret2
    exact ⟨au13, au35⟩
   ·
    replace c7 := Bool.eq_false_iff.mpr c7; subst c7
    have H1 : (capstanref13_Stores.l0 kj2 a1 0 l0_0 l0_1 l0_2 a0_3) = some (r1, r2) := by rw [if_neg (show ¬ (false = true) by decide)] at H; exact H
    clear H; have H := H1; clear H1; have H' := Aside0.mk H; clear H; go_wp2
    go_loopg [6] kj2 (fun kq v6 w' => ∃ (x6_2 : Int), v6 = .int .i64 x6_2 ∧ Aside0 (capstanref13_Stores.l0 kq a1 x6_2 l0_0 l0_1 l0_2 a0_3 = some (r1, r2)) ∧ Aside0 (kq ≤ kj2) ∧ Aside0 (w'.heap[gb141]? = some (.cells #[(.slice A0_0 l0_0.length c0_0), (.slice A0_1 l0_1.length c0_1), (.slice A0_2 l0_2.length c0_2), .int .i64 a0_3] 25 (0, 0))) ∧ Aside0 (Below w.heap.size w w'))
    case atStart => exact ⟨(0), (au17), H', ⟨Nat.le_refl _⟩, ⟨au97⟩, ⟨au35⟩⟩
    case round =>
     clear H'; (try clear c1); (try clear p2); (try clear c5); (try clear c5b0); (try clear c7); (try clear hcz6_0); (try clear hcz6_1); (try clear hcz6_2); (try clear hcz6_3); (try clear hfz6_0); (try clear hfz6_1); (try clear hfz6_2); (try clear hfz6_3); (try clear p2); obtain ⟨x6_2, rfl, HA, HK2, BK141, HB⟩ := hrel
     cases gk with
     | zero => exact absurd HA.out (by simp [capstanref13_Stores.l0])
     | succ k2 =>
      have H := HA.out; clear HA; simp only [capstanref13_Stores.l0] at H
      by_cases c8 : 0 ≤ a1
      rotate_left
      · rw [if_neg c8] at H; exact absurd H (by simp)

      rw [if_pos c8] at H; have c8b0 : decide (0 ≤ a1) = true := decide_eq_true c8; clear c8
      by_cases c9 : a1 < (l0_2.length : Int)
      rotate_left
      · rw [if_neg c9] at H; exact absurd H (by simp)
      rw [if_pos c9] at H; have c9b0 : decide (a1 < (l0_2.length : Int)) = true := decide_eq_true c9; clear c9
      by_cases c10 : x6_2 < (((rd_T52 l0_2 a1).f7).length : Int)
      rotate_left
      ·
       rw [if_neg c10] at H; have c10b0 : decide (x6_2 < (((rd_T52 l0_2 a1).f7).length : Int)) = false := decide_eq_false c10; clear c10; simp only [Option.some.injEq, Prod.mk.injEq] at H; obtain ⟨rfl, rfl⟩ := H; obtain ⟨hcz15_0, hcz15_1, hcz15_2, hcz15_3, hfz15_0, hfz15_1, hfz15_2, hfz15_3⟩ := blk_all4 BK141.out; have p142 : 0 ≤ (a1 : Int) := of_decide_eq_true (au3); have q142 : a1 < (l0_2.length : Int) := of_decide_eq_true (au3); obtain ⟨ad142, A142_0, c142_0, A142_1, c142_1, A142_7, c142_7, e142, hx142_0, hx142_1, hx142_2, hx142_3, hx142_4, hx142_5, hx142_6, hx142_7, hl142_0, hi142_0, hl142_1, hi142_1, hl142_7, hi142_7⟩ := at_T52 HR0_2.out a1 p142 q142; cases e142; replace hx142_0 := (HB.out.cell (World.block_lt_of_cell? w _ hx142_0)).trans hx142_0; replace hx142_1 := (HB.out.cell (World.block_lt_of_cell? w _ hx142_1)).trans hx142_1; replace hx142_2 := (HB.out.cell (World.block_lt_of_cell? w _ hx142_2)).trans hx142_2; replace hx142_3 := (HB.out.cell (World.block_lt_of_cell? w _ hx142_3)).trans hx142_3; replace hx142_4 := (HB.out.cell (World.block_lt_of_cell? w _ hx142_4)).trans hx142_4; replace hx142_5 := (HB.out.cell (World.block_lt_of_cell? w _ hx142_5)).trans hx142_5; replace hx142_6 := (HB.out.cell (World.block_lt_of_cell? w _ hx142_6)).trans hx142_6; replace hx142_7 := (HB.out.cell (World.block_lt_of_cell? w _ hx142_7)).trans hx142_7; have HR142_0 := Aside0.mk hi142_0; have HC142_0 := Aside0.mk hl142_0; clear hi142_0 hl142_0; have HR142_1 := Aside0.mk hi142_1; have HC142_1 := Aside0.mk hl142_1; clear hi142_1 hl142_1; have HR142_7 := Aside0.mk hi142_7
       have HC142_7 := Aside0.mk hl142_7; clear hi142_7 hl142_7; replace p142 := eq_true p142; replace q142 := eq_true q142; go_wp2
       go_ret2
       exact ⟨au13, au35⟩
      rw [if_pos c10] at H; have c10b0 : decide (x6_2 < (((rd_T52 l0_2 a1).f7).length : Int)) = true := decide_eq_true c10; clear c10
      by_cases c11 : 0 ≤ x6_2
      rotate_left
      · rw [if_neg c11] at H; exact absurd H (by simp)
      rw [if_pos c11] at H; have c11b0 : decide (0 ≤ x6_2) = true := decide_eq_true c11; clear c11
      by_cases c12 : ((rd_T70 ((rd_T52 l0_2 a1).f7) x6_2).f0) = 5
      ·
       rw [if_pos c12] at H; have c12b0 : (((rd_T70 ((rd_T52 l0_2 a1).f7) x6_2).f0) == 5) = true := beq_iff_eq.mpr c12; have c12b1 : (((rd_T70 ((rd_T52 l0_2 a1).f7) x6_2).f0) != 5) = false := bne_eq_false_iff_eq.mpr c12; clear c12; simp only [Option.some.injEq, Prod.mk.injEq] at H; obtain ⟨rfl, rfl⟩ := H; obtain ⟨hcz13_0, hcz13_1, hcz13_2, hcz13_3, hfz13_0, hfz13_1, hfz13_2, hfz13_3⟩ := blk_all4 BK141.out; have p142 : 0 ≤ (a1 : Int) := of_decide_eq_true (au3); have q142 : a1 < (l0_2.length : Int) := of_decide_eq_true (au3); obtain ⟨ad142, A142_0, c142_0, A142_1, c142_1, A142_7, c142_7, e142, hx142_0, hx142_1, hx142_2, hx142_3, hx142_4, hx142_5, hx142_6, hx142_7, hl142_0, hi142_0, hl142_1, hi142_1, hl142_7, hi142_7⟩ := at_T52 HR0_2.out a1 p142 q142; cases e142; replace hx142_0 := (HB.out.cell (World.block_lt_of_cell? w _ hx142_0)).trans hx142_0; replace hx142_1 := (HB.out.cell (World.block_lt_of_cell? w _ hx142_1)).trans hx142_1; replace hx142_2 := (HB.out.cell (World.block_lt_of_cell? w _ hx142_2)).trans hx142_2; replace hx142_3 := (HB.out.cell (World.block_lt_of_cell? w _ hx142_3)).trans hx142_3; replace hx142_4 := (HB.out.cell (World.block_lt_of_cell? w _ hx142_4)).trans hx142_4; replace hx142_5 := (HB.out.cell (World.block_lt_of_cell? w _ hx142_5)).trans hx142_5; replace hx142_6 := (HB.out.cell (World.block_lt_of_cell? w _ hx142_6)).trans hx142_6; replace hx142_7 := (HB.out.cell (World.block_lt_of_cell? w _ hx142_7)).trans hx142_7; have HR142_0 := Aside0.mk hi142_0; have HC142_0 := Aside0.mk hl142_0; clear hi142_0 hl142_0
       have HR142_1 := Aside0.mk hi142_1; have HC142_1 := Aside0.mk hl142_1; clear hi142_1 hl142_1; have HR142_7 := Aside0.mk hi142_7; have HC142_7 := Aside0.mk hl142_7; clear hi142_7 hl142_7; replace p142 := eq_true p142; replace q142 := eq_true q142; have p143 : 0 ≤ (a1 : Int) := of_decide_eq_true (au3); have q143 : a1 < (l0_2.length : Int) := of_decide_eq_true (au3); obtain ⟨ad143, A143_0, c143_0, A143_1, c143_1, A143_7, c143_7, e143, hx143_0, hx143_1, hx143_2, hx143_3, hx143_4, hx143_5, hx143_6, hx143_7, hl143_0, hi143_0, hl143_1, hi143_1, hl143_7, hi143_7⟩ := at_T52 HR0_2.out a1 p143 q143; obtain rfl : ad142 = ad143 := (by injection e143); replace hx143_0 := (HB.out.cell (World.block_lt_of_cell? w _ hx143_0)).trans hx143_0; replace hx143_1 := (HB.out.cell (World.block_lt_of_cell? w _ hx143_1)).trans hx143_1; replace hx143_2 := (HB.out.cell (World.block_lt_of_cell? w _ hx143_2)).trans hx143_2; replace hx143_3 := (HB.out.cell (World.block_lt_of_cell? w _ hx143_3)).trans hx143_3; replace hx143_4 := (HB.out.cell (World.block_lt_of_cell? w _ hx143_4)).trans hx143_4; replace hx143_5 := (HB.out.cell (World.block_lt_of_cell? w _ hx143_5)).trans hx143_5; replace hx143_6 := (HB.out.cell (World.block_lt_of_cell? w _ hx143_6)).trans hx143_6; replace hx143_7 := (HB.out.cell (World.block_lt_of_cell? w _ hx143_7)).trans hx143_7; have HR143_0 := Aside0.mk hi143_0; have HC143_0 := Aside0.mk hl143_0; clear hi143_0 hl143_0; have HR143_1 := Aside0.mk hi143_1; have HC143_1 := Aside0.mk hl143_1; clear hi143_1 hl143_1; have HR143_7 := Aside0.mk hi143_7
       have HC143_7 := Aside0.mk hl143_7; clear hi143_7 hl143_7; replace p143 := eq_true p143; replace q143 := eq_true q143; have ea_ := Option.some.inj (hx142_0.symm.trans hx143_0)
       injection ea_ with ea_ en_ ec_
       subst ea_; subst ec_; clear en_; have ea_ := Option.some.inj (hx142_1.symm.trans hx143_1)
       injection ea_ with ea_ en_ ec_
       subst ea_; subst ec_; clear en_; have ea_ := Option.some.inj (hx142_7.symm.trans hx143_7)
       injection ea_ with ea_ en_ ec_
       subst ea_; subst ec_; clear en_; have p144 : 0 ≤ (x6_2 : Int) := of_decide_eq_true (au3); have q144 : x6_2 < (((rd_T52 l0_2 a1).f7).length : Int) := of_decide_eq_true (au3); obtain ⟨ad144, e144, hx144_0, hx144_1, hx144_2⟩ := at_T70 HR143_7.out x6_2 p144 q144; cases e144; replace hx144_0 := (HB.out.cell (World.block_lt_of_cell? w _ hx144_0)).trans hx144_0; replace hx144_1 := (HB.out.cell (World.block_lt_of_cell? w _ hx144_1)).trans hx144_1; replace hx144_2 := (HB.out.cell (World.block_lt_of_cell? w _ hx144_2)).trans hx144_2; replace p144 := eq_true p144; replace q144 := eq_true q144; go_wp2
       go_ret2
       exact ⟨au13, au35⟩
      ·
       rw [if_neg c12] at H; have c12b0 : (((rd_T70 ((rd_T52 l0_2 a1).f7) x6_2).f0) == 5) = false := beq_eq_false_iff_ne.mpr c12; have c12b1 : (((rd_T70 ((rd_T52 l0_2 a1).f7) x6_2).f0) != 5) = true := bne_iff_ne.mpr c12; have H' := Aside0.mk H; clear H; obtain ⟨hcz14_0, hcz14_1, hcz14_2, hcz14_3, hfz14_0, hfz14_1, hfz14_2, hfz14_3⟩ := blk_all4 BK141.out; have p142 : 0 ≤ (a1 : Int) := of_decide_eq_true (au3); have q142 : a1 < (l0_2.length : Int) := of_decide_eq_true (au3); obtain ⟨ad142, A142_0, c142_0, A142_1, c142_1, A142_7, c142_7, e142, hx142_0, hx142_1, hx142_2, hx142_3, hx142_4, hx142_5, hx142_6, hx142_7, hl142_0, hi142_0, hl142_1, hi142_1, hl142_7, hi142_7⟩ := at_T52 HR0_2.out a1 p142 q142; cases e142; replace hx142_0 := (HB.out.cell (World.block_lt_of_cell? w _ hx142_0)).trans hx142_0; replace hx142_1 := (HB.out.cell (World.block_lt_of_cell? w _ hx142_1)).trans hx142_1; replace hx142_2 := (HB.out.cell (World.block_lt_of_cell? w _ hx142_2)).trans hx142_2; replace hx142_3 := (HB.out.cell (World.block_lt_of_cell? w _ hx142_3)).trans hx142_3; replace hx142_4 := (HB.out.cell (World.block_lt_of_cell? w _ hx142_4)).trans hx142_4; replace hx142_5 := (HB.out.cell (World.block_lt_of_cell? w _ hx142_5)).trans hx142_5; replace hx142_6 := (HB.out.cell (World.block_lt_of_cell? w _ hx142_6)).trans hx142_6; replace hx142_7 := (HB.out.cell (World.block_lt_of_cell? w _ hx142_7)).trans hx142_7; have HR142_0 := Aside0.mk hi142_0; have HC142_0 := Aside0.mk hl142_0; clear hi142_0 hl142_0; have HR142_1 := Aside0.mk hi142_1; have HC142_1 := Aside0.mk hl142_1
       clear hi142_1 hl142_1; have HR142_7 := Aside0.mk hi142_7; have HC142_7 := Aside0.mk hl142_7; clear hi142_7 hl142_7; replace p142 := eq_true p142; replace q142 := eq_true q142; have p143 : 0 ≤ (a1 : Int) := of_decide_eq_true (au3); have q143 : a1 < (l0_2.length : Int) := of_decide_eq_true (au3); obtain ⟨ad143, A143_0, c143_0, A143_1, c143_1, A143_7, c143_7, e143, hx143_0, hx143_1, hx143_2, hx143_3, hx143_4, hx143_5, hx143_6, hx143_7, hl143_0, hi143_0, hl143_1, hi143_1, hl143_7, hi143_7⟩ := at_T52 HR0_2.out a1 p143 q143; obtain rfl : ad142 = ad143 := (by injection e143); replace hx143_0 := (HB.out.cell (World.block_lt_of_cell? w _ hx143_0)).trans hx143_0; replace hx143_1 := (HB.out.cell (World.block_lt_of_cell? w _ hx143_1)).trans hx143_1; replace hx143_2 := (HB.out.cell (World.block_lt_of_cell? w _ hx143_2)).trans hx143_2; replace hx143_3 := (HB.out.cell (World.block_lt_of_cell? w _ hx143_3)).trans hx143_3; replace hx143_4 := (HB.out.cell (World.block_lt_of_cell? w _ hx143_4)).trans hx143_4; replace hx143_5 := (HB.out.cell (World.block_lt_of_cell? w _ hx143_5)).trans hx143_5; replace hx143_6 := (HB.out.cell (World.block_lt_of_cell? w _ hx143_6)).trans hx143_6; replace hx143_7 := (HB.out.cell (World.block_lt_of_cell? w _ hx143_7)).trans hx143_7; have HR143_0 := Aside0.mk hi143_0; have HC143_0 := Aside0.mk hl143_0; clear hi143_0 hl143_0; have HR143_1 := Aside0.mk hi143_1; have HC143_1 := Aside0.mk hl143_1; clear hi143_1 hl143_1; have HR143_7 := Aside0.mk hi143_7; have HC143_7 := Aside0.mk hl143_7; clear hi143_7 hl143_7; replace p143 := eq_true p143
       replace q143 := eq_true q143; have ea_ := Option.some.inj (hx142_0.symm.trans hx143_0)
       injection ea_ with ea_ en_ ec_
       subst ea_; subst ec_; clear en_; have ea_ := Option.some.inj (hx142_1.symm.trans hx143_1)
       injection ea_ with ea_ en_ ec_
       subst ea_; subst ec_; clear en_; have ea_ := Option.some.inj (hx142_7.symm.trans hx143_7)
       injection ea_ with ea_ en_ ec_
       subst ea_; subst ec_; clear en_; have p144 : 0 ≤ (x6_2 : Int) := of_decide_eq_true (au3); have q144 : x6_2 < (((rd_T52 l0_2 a1).f7).length : Int) := of_decide_eq_true (au3); obtain ⟨ad144, e144, hx144_0, hx144_1, hx144_2⟩ := at_T70 HR143_7.out x6_2 p144 q144; cases e144; replace hx144_0 := (HB.out.cell (World.block_lt_of_cell? w _ hx144_0)).trans hx144_0; replace hx144_1 := (HB.out.cell (World.block_lt_of_cell? w _ hx144_1)).trans hx144_1; replace hx144_2 := (HB.out.cell (World.block_lt_of_cell? w _ hx144_2)).trans hx144_2; replace p144 := eq_true p144; replace q144 := eq_true q144; go_wp2
       go_roundg k2
       case measure => have := HJ2.out; have := HK2.out; omega
       case rel => exact ⟨(wrap64 (x6_2 + 1)), (au17), H', ⟨by have := HJ2.out; have := HK2.out; omega⟩, ⟨au97⟩, ⟨au35⟩⟩
/-! ### capstanref11_calls: function 52 -/
def capstanref11_calls.l0 : Nat → Int → Int → List Int → List Int → Int → Bool → Int → Int → Int → List (S70) → Option (Bool)
 | 0, _, _, _, _, _, _, _, _, _, _ => none
 | k + 1, x1, x5, x146000, x146001, x146002, x146003, x146004, x146005, x146006, x146007 => if x5 < (x146007.length : Int) then (if 0 ≤ x5 then (if ((rd_T70 x146007 x5).f0) = 30 then (if ((rd_T70 x146007 x5).f1) = x1 then (some true) else (capstanref11_calls.l0 k x1 (wrap64 (x5 + 1)) x146000 x146001 x146002 x146003 x146004 x146005 x146006 x146007)) else (capstanref11_calls.l0 k x1 (wrap64 (x5 + 1)) x146000 x146001 x146002 x146003 x146004 x146005 x146006 x146007)) else (none)) else (some false)
def capstanref11_calls.f (k : Nat) (l0_0 : List Int) (l0_1 : List Int) (a0_2 : Int) (a0_3 : Bool) (a0_4 : Int) (a0_5 : Int) (a0_6 : Int) (l0_7 : List (S70)) (a1 : Int) : Option (Bool) := capstanref11_calls.l0 k a1 0 l0_0 l0_1 a0_2 a0_3 a0_4 a0_5 a0_6 l0_7
theorem capstanref11_calls.mono_l : ∀ k, (∀ y0 y1 y2 y3 y4 y5 y6 y7 y8 y9, LeO (capstanref11_calls.l0 k y0 y1 y2 y3 y4 y5 y6 y7 y8 y9) (capstanref11_calls.l0 (k + 1) y0 y1 y2 y3 y4 y5 y6 y7 y8 y9))
 | 0 => fun _ _ _ _ _ _ _ _ _ _ r h => by simp [capstanref11_calls.l0] at h
 | k + 1 => by
  have ih0 := capstanref11_calls.mono_l k
  ·
   intro y0 y1 y2 y3 y4 y5 y6 y7 y8 y9
   unfold capstanref11_calls.l0
   repeat' first
   | (with_reducible exact ih0 _ _ _ _ _ _ _ _ _ _)
   | (with_reducible exact LeO.refl _)
   | (with_reducible exact LeO.none _)
   | (with_reducible refine LeO.ite ?_ ?_)
   | (with_reducible refine LeO.bind ?_ (fun _ => ?_))
   | exact ih0 _ _ _ _ _ _ _ _ _ _
   | exact LeO.none _
   | refine LeO.ite ?_ ?_
   | refine LeO.bind ?_ (fun _ => ?_)
theorem capstanref11_calls.mono : ∀ a0 a1 a2 a3 a4 a5 a6 a7 a8 k, LeO (capstanref11_calls.f k a0 a1 a2 a3 a4 a5 a6 a7 a8) (capstanref11_calls.f (k + 1) a0 a1 a2 a3 a4 a5 a6 a7 a8) := by
 intro a0 a1 a2 a3 a4 a5 a6 a7 a8 k; have ih0 := capstanref11_calls.mono_l k
 unfold capstanref11_calls.f
 repeat' first
   | (with_reducible exact ih0 _ _ _ _ _ _ _ _ _ _)
   | (with_reducible exact LeO.refl _)
   | (with_reducible exact LeO.none _)
   | (with_reducible refine LeO.ite ?_ ?_)
   | (with_reducible refine LeO.bind ?_ (fun _ => ?_))
   | exact ih0 _ _ _ _ _ _ _ _ _ _
   | exact LeO.none _
   | refine LeO.ite ?_ ?_
   | refine LeO.bind ?_ (fun _ => ?_)
set_option maxHeartbeats 8000000 in
set_option maxRecDepth 100000 in
theorem capstanref11_calls.calls (k : Nat) (A0_0 : Option Addr) (c0_0 : Nat) (l0_0 : List Int) (A0_1 : Option Addr) (c0_1 : Nat) (l0_1 : List Int) (a0_2 : Int) (a0_3 : Bool) (a0_4 : Int) (a0_5 : Int) (a0_6 : Int) (A0_7 : Option Addr) (c0_7 : Nat) (l0_7 : List (S70)) (a1 : Int) (r : Bool) (w : World) (hr0_0 : Kd.C (Kd.int .u8) w A0_0 l0_0.length l0_0) (hc0_0 : l0_0.length ≤ c0_0) (hr0_1 : Kd.C (Kd.int .u8) w A0_1 l0_1.length l0_1) (hc0_1 : l0_1.length ≤ c0_1) (hr0_7 : Kd.C k70 w A0_7 l0_7.length l0_7) (hc0_7 : l0_7.length ≤ c0_7) (h : capstanref11_calls.f k l0_0 l0_1 a0_2 a0_3 a0_4 a0_5 a0_6 l0_7 a1 = some r) :
  Calls Try.prog 52 #[.agg #[.slice A0_0 l0_0.length c0_0, .slice A0_1 l0_1.length c0_1, .int .u8 a0_2, .bool a0_3, .int .i64 a0_4, .int .i64 a0_5, .int .i64 a0_6, .slice A0_7 l0_7.length c0_7], .int .i64 a1] w fun e w' => e = .returned (.bool r) ∧ Below w.heap.size w w' := by
 have hu52 := Try.underlying52; have HR0_0 := Aside0.mk hr0_0; have HC0_0 := Aside0.mk hc0_0; clear hr0_0 hc0_0; have HR0_1 := Aside0.mk hr0_1; have HC0_1 := Aside0.mk hc0_1; clear hr0_1 hc0_1; have HR0_7 := Aside0.mk hr0_7; have HC0_7 := Aside0.mk hc0_7; clear hr0_7 hc0_7; have HB := Aside0.mk (Below.refl w.heap.size w); have H : (capstanref11_calls.l0 k a1 0 l0_0 l0_1 a0_2 a0_3 a0_4 a0_5 a0_6 l0_7) = some r := h; clear h; have H' := Aside0.mk H; clear H
 go_enter Try.func52, Try.ntmps52
 go_wp2_with (first | ((with_reducible refine gate_dst (N := 2) rfl ?_); refine box_event ?hg (N := 2) ?hd (cs := #[.slice A0_0 l0_0.length c0_0, .slice A0_1 l0_1.length c0_1, .int .u8 a0_2, .bool a0_3, .int .i64 a0_4, .int .i64 a0_5, .int .i64 a0_6, .slice A0_7 l0_7.length c0_7]) (t := 52) ?hr ?_; (case hd => rfl); (case hg => rfl); (case hr => first | (go_simp; done) | (go_simp; rfl)); intro gb145 hg w3 hbox hb; have n0_ := Aside0.mk (below_step (au1) hb); have n1_ := Aside0.mk (hbox); have n2_ := Aside0.mk ((au28 : w.heap.size ≤ gb145)); have n3_ := Aside0.mk ((au28 : w.heap.size ≤ gb145)); clear HB; have HB := n0_; have BK145 := n1_; have GW145 := n2_; have GE145 := n3_; clear n0_ n1_ n2_ n3_; clear hb hbox hg))
 go_loopg [5] k (fun kq v5 w' => ∃ (x5_1 : Int), v5 = .int .i64 x5_1 ∧ Aside0 (capstanref11_calls.l0 kq a1 x5_1 l0_0 l0_1 a0_2 a0_3 a0_4 a0_5 a0_6 l0_7 = some r) ∧ Aside0 (kq ≤ k) ∧ Aside0 (w'.heap[gb145]? = some (.cells #[(.slice A0_0 l0_0.length c0_0), (.slice A0_1 l0_1.length c0_1), .int .u8 a0_2, .bool a0_3, .int .i64 a0_4, .int .i64 a0_5, .int .i64 a0_6, (.slice A0_7 l0_7.length c0_7)] 52 (0, 0))) ∧ Aside0 (Below w.heap.size w w'))
 case atStart => exact ⟨(0), (au17), H', ⟨Nat.le_refl _⟩, ⟨by (with_reducible repeat (first | refine blk_drewN ?_ _ | refine blk_drew ?_ | refine blk_alloc ?_ _)); exact BK145.out⟩, ⟨au47⟩⟩
 case round =>
  clear H'; (try clear p2); obtain ⟨x5_1, rfl, HA, HK1, BK145, HB⟩ := hrel
  cases gk with
  | zero => exact absurd HA.out (by simp [capstanref11_calls.l0])
  | succ k1 =>
   have H := HA.out; clear HA; simp only [capstanref11_calls.l0] at H
   by_cases c4 : x5_1 < (l0_7.length : Int)
   rotate_left
   · rw [if_neg c4] at H; have c4b0 : decide (x5_1 < (l0_7.length : Int)) = false := decide_eq_false c4; clear c4; obtain rfl := Option.some.inj H; obtain ⟨hcz11_0, hcz11_1, hcz11_2, hcz11_3, hcz11_4, hcz11_5, hcz11_6, hcz11_7, hfz11_0, hfz11_1, hfz11_2, hfz11_3, hfz11_4, hfz11_5, hfz11_6, hfz11_7⟩ := blk_all8 BK145.out; go_wp2; go_ret; exact ⟨au13, au47⟩

   rw [if_pos c4] at H; have c4b0 : decide (x5_1 < (l0_7.length : Int)) = true := decide_eq_true c4; clear c4
   by_cases c5 : 0 ≤ x5_1
   rotate_left
   · rw [if_neg c5] at H; exact absurd H (by simp)
   rw [if_pos c5] at H; have c5b0 : decide (0 ≤ x5_1) = true := decide_eq_true c5; clear c5
   by_cases c6 : ((rd_T70 l0_7 x5_1).f0) = 30
   rotate_left
   ·
    rw [if_neg c6] at H; have c6b0 : (((rd_T70 l0_7 x5_1).f0) == 30) = false := beq_eq_false_iff_ne.mpr c6; have c6b1 : (((rd_T70 l0_7 x5_1).f0) != 30) = true := bne_iff_ne.mpr c6; have H' := Aside0.mk H; clear H; obtain ⟨hcz10_0, hcz10_1, hcz10_2, hcz10_3, hcz10_4, hcz10_5, hcz10_6, hcz10_7, hfz10_0, hfz10_1, hfz10_2, hfz10_3, hfz10_4, hfz10_5, hfz10_6, hfz10_7⟩ := blk_all8 BK145.out; have p146 : 0 ≤ (x5_1 : Int) := of_decide_eq_true (au3); have q146 : x5_1 < (l0_7.length : Int) := of_decide_eq_true (au3); obtain ⟨ad146, e146, hx146_0, hx146_1, hx146_2⟩ := at_T70 HR0_7.out x5_1 p146 q146; cases e146; replace hx146_0 := (HB.out.cell (World.block_lt_of_cell? w _ hx146_0)).trans hx146_0; replace hx146_1 := (HB.out.cell (World.block_lt_of_cell? w _ hx146_1)).trans hx146_1; replace hx146_2 := (HB.out.cell (World.block_lt_of_cell? w _ hx146_2)).trans hx146_2; replace p146 := eq_true p146; replace q146 := eq_true q146; go_wp2
    go_roundg k1
    case measure => have := HK1.out; omega
    case rel => exact ⟨(wrap64 (x5_1 + 1)), (au17), H', ⟨by have := HK1.out; omega⟩, ⟨by (with_reducible repeat (first | refine blk_drewN ?_ _ | refine blk_drew ?_ | refine blk_alloc ?_ _)); exact BK145.out⟩, ⟨au47⟩⟩
   rw [if_pos c6] at H; have c6b0 : (((rd_T70 l0_7 x5_1).f0) == 30) = true := beq_iff_eq.mpr c6; have c6b1 : (((rd_T70 l0_7 x5_1).f0) != 30) = false := bne_eq_false_iff_eq.mpr c6; clear c6
   by_cases c7 : ((rd_T70 l0_7 x5_1).f1) = a1
   · rw [if_pos c7] at H; have c7b0 : (((rd_T70 l0_7 x5_1).f1) == a1) = true := beq_iff_eq.mpr c7; have c7b1 : (((rd_T70 l0_7 x5_1).f1) != a1) = false := bne_eq_false_iff_eq.mpr c7; clear c7; obtain rfl := Option.some.inj H; obtain ⟨hcz8_0, hcz8_1, hcz8_2, hcz8_3, hcz8_4, hcz8_5, hcz8_6, hcz8_7, hfz8_0, hfz8_1, hfz8_2, hfz8_3, hfz8_4, hfz8_5, hfz8_6, hfz8_7⟩ := blk_all8 BK145.out; have p146 : 0 ≤ (x5_1 : Int) := of_decide_eq_true (au3); have q146 : x5_1 < (l0_7.length : Int) := of_decide_eq_true (au3); obtain ⟨ad146, e146, hx146_0, hx146_1, hx146_2⟩ := at_T70 HR0_7.out x5_1 p146 q146; cases e146; replace hx146_0 := (HB.out.cell (World.block_lt_of_cell? w _ hx146_0)).trans hx146_0; replace hx146_1 := (HB.out.cell (World.block_lt_of_cell? w _ hx146_1)).trans hx146_1; replace hx146_2 := (HB.out.cell (World.block_lt_of_cell? w _ hx146_2)).trans hx146_2; replace p146 := eq_true p146; replace q146 := eq_true q146; have p147 : 0 ≤ (x5_1 : Int) := of_decide_eq_true (au3); have q147 : x5_1 < (l0_7.length : Int) := of_decide_eq_true (au3); obtain ⟨ad147, e147, hx147_0, hx147_1, hx147_2⟩ := at_T70 HR0_7.out x5_1 p147 q147; obtain rfl : ad146 = ad147 := (by injection e147); replace hx147_0 := (HB.out.cell (World.block_lt_of_cell? w _ hx147_0)).trans hx147_0; replace hx147_1 := (HB.out.cell (World.block_lt_of_cell? w _ hx147_1)).trans hx147_1; replace hx147_2 := (HB.out.cell (World.block_lt_of_cell? w _ hx147_2)).trans hx147_2; replace p147 := eq_true p147; replace q147 := eq_true q147; go_wp2; go_ret; exact ⟨au13, au47⟩
   ·
    rw [if_neg c7] at H; have c7b0 : (((rd_T70 l0_7 x5_1).f1) == a1) = false := beq_eq_false_iff_ne.mpr c7; have c7b1 : (((rd_T70 l0_7 x5_1).f1) != a1) = true := bne_iff_ne.mpr c7; have H' := Aside0.mk H; clear H; obtain ⟨hcz9_0, hcz9_1, hcz9_2, hcz9_3, hcz9_4, hcz9_5, hcz9_6, hcz9_7, hfz9_0, hfz9_1, hfz9_2, hfz9_3, hfz9_4, hfz9_5, hfz9_6, hfz9_7⟩ := blk_all8 BK145.out; have p146 : 0 ≤ (x5_1 : Int) := of_decide_eq_true (au3); have q146 : x5_1 < (l0_7.length : Int) := of_decide_eq_true (au3); obtain ⟨ad146, e146, hx146_0, hx146_1, hx146_2⟩ := at_T70 HR0_7.out x5_1 p146 q146; cases e146; replace hx146_0 := (HB.out.cell (World.block_lt_of_cell? w _ hx146_0)).trans hx146_0; replace hx146_1 := (HB.out.cell (World.block_lt_of_cell? w _ hx146_1)).trans hx146_1; replace hx146_2 := (HB.out.cell (World.block_lt_of_cell? w _ hx146_2)).trans hx146_2; replace p146 := eq_true p146; replace q146 := eq_true q146; have p147 : 0 ≤ (x5_1 : Int) := of_decide_eq_true (au3); have q147 : x5_1 < (l0_7.length : Int) := of_decide_eq_true (au3); obtain ⟨ad147, e147, hx147_0, hx147_1, hx147_2⟩ := at_T70 HR0_7.out x5_1 p147 q147; obtain rfl : ad146 = ad147 := (by injection e147); replace hx147_0 := (HB.out.cell (World.block_lt_of_cell? w _ hx147_0)).trans hx147_0; replace hx147_1 := (HB.out.cell (World.block_lt_of_cell? w _ hx147_1)).trans hx147_1; replace hx147_2 := (HB.out.cell (World.block_lt_of_cell? w _ hx147_2)).trans hx147_2; replace p147 := eq_true p147; replace q147 := eq_true q147; go_wp2
    go_roundg k1
    case measure => have := HK1.out; omega
    case rel => exact ⟨(wrap64 (x5_1 + 1)), (au17), H', ⟨by have := HK1.out; omega⟩, ⟨by (with_reducible repeat (first | refine blk_drewN ?_ _ | refine blk_drew ?_ | refine blk_alloc ?_ _)); exact BK145.out⟩, ⟨au47⟩⟩
end Go.Proofs.Ytkmnachdibhdhaa.U
