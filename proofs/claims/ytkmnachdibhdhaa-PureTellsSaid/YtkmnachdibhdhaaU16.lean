/- Contracts of the functions of this seat (each: the call of the function does what the plain Lean function of the same name tells; the conditions stand in each statement). Written by a program of this session and by hand; checked by Lean. -/
import Derived.Test.YtkmnachdibhdhaaU0
import Derived.Test.YtkmnachdibhdhaaU5
import Derived.Test.YtkmnachdibhdhaaU6
namespace Go.Proofs.Ytkmnachdibhdhaa.U
open Go.RowKit Go.Proofs.YtkmnachdibhdhaaW.PrintWords Go.Proofs.YtkmnachdibhdhaaW.PrintLast Go.Proofs.YtkmnachdibhdhaaW.PrintMore
attribute [local go_sem] max2_int min2_int max_two min_two max_three min_three max_four min_four   -- for this text's walks alone
set_option linter.unusedVariables false
set_option linter.unusedSimpArgs false

/-! ### capstanref13_Check: function 22 -/
mutual
def capstanref13_Check.l0 : Nat → Int → List (S86) → List (S86) → List (S52) → Int → Option (Int)
 | 0, _, _, _, _, _ => none
 | k + 1, x3, x258000, x258001, x258002, x258003 => if x3 < (x258002.length : Int) then ((capstanref11_Whom.f k x258000 x258001 x258002 x258003 x3).bind fun bt258 => (if bt258.2 = 0 then (capstanref13_Check.l0 k (wrap64 (x3 + 1)) x258000 x258001 x258002 x258003) else (some bt258.2))) else (capstanref13_Check.l1 k 0 x258000 x258001 x258002 x258003)
def capstanref13_Check.l1 : Nat → Int → List (S86) → List (S86) → List (S52) → Int → Option (Int)
 | 0, _, _, _, _, _ => none
 | k + 1, x6, x258000, x258001, x258002, x258003 => if x6 < (x258002.length : Int) then (if 0 ≤ x6 then (if ((rd_T52 x258002 x6).f3 = true) then ((capstanref13_Stores.f k x258000 x258001 x258002 x258003 x6).bind fun bt263 => (capstanref13_Check.j2 k x6 bt263.1 x258000 x258001 x258002 x258003)) else (capstanref13_Check.l1 k (wrap64 (x6 + 1)) x258000 x258001 x258002 x258003)) else (none)) else (some 0)
def capstanref13_Check.j2 : Nat → Int → Bool → List (S86) → List (S86) → List (S52) → Int → Option (Int)
 | 0, _, _, _, _, _, _ => none
 | k + 1, x6, x7, x258000, x258001, x258002, x258003 => (capstanref11_Whom.f k x258000 x258001 x258002 x258003 x6).bind fun bt265 => (capstanref13_Check.l2 k x6 x7 bt265.1 0 x258000 x258001 x258002 x258003)
def capstanref13_Check.l2 : Nat → Int → Bool → List Int → Int → List (S86) → List (S86) → List (S52) → Int → Option (Int)
 | 0, _, _, _, _, _, _, _, _ => none
 | k + 1, x6, x7, x9, x11, x258000, x258001, x258002, x258003 => if x11 < (x9.length : Int) then (if x7 = true then (capstanref13_Check.l2 k x6 true x9 (wrap64 (x11 + 1)) x258000 x258001 x258002 x258003) else (if 0 ≤ x11 then (if 0 ≤ (rd x9 x11) then (if (rd x9 x11) < (x258002.length : Int) then (capstanref13_Check.l2 k x6 (!((rd_T52 x258002 (rd x9 x11)).f3)) x9 (wrap64 (x11 + 1)) x258000 x258001 x258002 x258003) else (none)) else (none)) else (none))) else (if x7 = true then (some 130) else (capstanref13_Check.l1 k (wrap64 (x6 + 1)) x258000 x258001 x258002 x258003))
end
def capstanref13_Check.f (k : Nat) (l0_0 : List (S86)) (l0_1 : List (S86)) (l0_2 : List (S52)) (a0_3 : Int) : Option (Int) := capstanref13_Check.l0 k 0 l0_0 l0_1 l0_2 a0_3
theorem capstanref13_Check.mono_l : ∀ k, (∀ y0 y1 y2 y3 y4, LeO (capstanref13_Check.l0 k y0 y1 y2 y3 y4) (capstanref13_Check.l0 (k + 1) y0 y1 y2 y3 y4)) ∧ (∀ y0 y1 y2 y3 y4, LeO (capstanref13_Check.l1 k y0 y1 y2 y3 y4) (capstanref13_Check.l1 (k + 1) y0 y1 y2 y3 y4)) ∧ (∀ y0 y1 y2 y3 y4 y5, LeO (capstanref13_Check.j2 k y0 y1 y2 y3 y4 y5) (capstanref13_Check.j2 (k + 1) y0 y1 y2 y3 y4 y5)) ∧ (∀ y0 y1 y2 y3 y4 y5 y6 y7, LeO (capstanref13_Check.l2 k y0 y1 y2 y3 y4 y5 y6 y7) (capstanref13_Check.l2 (k + 1) y0 y1 y2 y3 y4 y5 y6 y7))
 | 0 => ⟨fun _ _ _ _ _ r h => by simp [capstanref13_Check.l0] at h, fun _ _ _ _ _ r h => by simp [capstanref13_Check.l1] at h, fun _ _ _ _ _ _ r h => by simp [capstanref13_Check.j2] at h, fun _ _ _ _ _ _ _ _ r h => by simp [capstanref13_Check.l2] at h⟩
 | k + 1 => by
  obtain ⟨ih0, ih1, ih2, ih3⟩ := capstanref13_Check.mono_l k; refine ⟨?_, ?_, ?_, ?_⟩
  ·
   intro y0 y1 y2 y3 y4
   unfold capstanref13_Check.l0
   repeat' first
   | (with_reducible exact ih0 _ _ _ _ _)
   | (with_reducible exact ih1 _ _ _ _ _)
   | (with_reducible exact ih2 _ _ _ _ _ _)
   | (with_reducible exact ih3 _ _ _ _ _ _ _ _)
   | (with_reducible exact capstanref11_Whom.mono _ _ _ _ _ _)
   | (with_reducible exact capstanref13_Stores.mono _ _ _ _ _ _)
   | (with_reducible exact LeO.refl _)
   | (with_reducible exact LeO.none _)
   | (with_reducible refine LeO.ite ?_ ?_)
   | (with_reducible refine LeO.bind ?_ (fun _ => ?_))
   | exact ih0 _ _ _ _ _
   | exact ih1 _ _ _ _ _
   | exact ih2 _ _ _ _ _ _
   | exact ih3 _ _ _ _ _ _ _ _
   | exact capstanref11_Whom.mono _ _ _ _ _ _
   | exact capstanref13_Stores.mono _ _ _ _ _ _
   | exact LeO.none _
   | refine LeO.ite ?_ ?_
   | refine LeO.bind ?_ (fun _ => ?_)
  ·
   intro y0 y1 y2 y3 y4
   unfold capstanref13_Check.l1
   repeat' first
   | (with_reducible exact ih0 _ _ _ _ _)
   | (with_reducible exact ih1 _ _ _ _ _)
   | (with_reducible exact ih2 _ _ _ _ _ _)
   | (with_reducible exact ih3 _ _ _ _ _ _ _ _)
   | (with_reducible exact capstanref11_Whom.mono _ _ _ _ _ _)
   | (with_reducible exact capstanref13_Stores.mono _ _ _ _ _ _)
   | (with_reducible exact LeO.refl _)
   | (with_reducible exact LeO.none _)
   | (with_reducible refine LeO.ite ?_ ?_)
   | (with_reducible refine LeO.bind ?_ (fun _ => ?_))
   | exact ih0 _ _ _ _ _
   | exact ih1 _ _ _ _ _
   | exact ih2 _ _ _ _ _ _
   | exact ih3 _ _ _ _ _ _ _ _
   | exact capstanref11_Whom.mono _ _ _ _ _ _
   | exact capstanref13_Stores.mono _ _ _ _ _ _
   | exact LeO.none _
   | refine LeO.ite ?_ ?_
   | refine LeO.bind ?_ (fun _ => ?_)
  ·
   intro y0 y1 y2 y3 y4 y5
   unfold capstanref13_Check.j2
   repeat' first
   | (with_reducible exact ih0 _ _ _ _ _)
   | (with_reducible exact ih1 _ _ _ _ _)
   | (with_reducible exact ih2 _ _ _ _ _ _)
   | (with_reducible exact ih3 _ _ _ _ _ _ _ _)
   | (with_reducible exact capstanref11_Whom.mono _ _ _ _ _ _)
   | (with_reducible exact capstanref13_Stores.mono _ _ _ _ _ _)
   | (with_reducible exact LeO.refl _)
   | (with_reducible exact LeO.none _)
   | (with_reducible refine LeO.ite ?_ ?_)
   | (with_reducible refine LeO.bind ?_ (fun _ => ?_))
   | exact ih0 _ _ _ _ _
   | exact ih1 _ _ _ _ _
   | exact ih2 _ _ _ _ _ _
   | exact ih3 _ _ _ _ _ _ _ _
   | exact capstanref11_Whom.mono _ _ _ _ _ _
   | exact capstanref13_Stores.mono _ _ _ _ _ _
   | exact LeO.none _
   | refine LeO.ite ?_ ?_
   | refine LeO.bind ?_ (fun _ => ?_)
  ·
   intro y0 y1 y2 y3 y4 y5 y6 y7
   unfold capstanref13_Check.l2
   repeat' first
   | (with_reducible exact ih0 _ _ _ _ _)
   | (with_reducible exact ih1 _ _ _ _ _)
   | (with_reducible exact ih2 _ _ _ _ _ _)
   | (with_reducible exact ih3 _ _ _ _ _ _ _ _)
   | (with_reducible exact capstanref11_Whom.mono _ _ _ _ _ _)
   | (with_reducible exact capstanref13_Stores.mono _ _ _ _ _ _)
   | (with_reducible exact LeO.refl _)
   | (with_reducible exact LeO.none _)
   | (with_reducible refine LeO.ite ?_ ?_)
   | (with_reducible refine LeO.bind ?_ (fun _ => ?_))
   | exact ih0 _ _ _ _ _
   | exact ih1 _ _ _ _ _
   | exact ih2 _ _ _ _ _ _
   | exact ih3 _ _ _ _ _ _ _ _
   | exact capstanref11_Whom.mono _ _ _ _ _ _
   | exact capstanref13_Stores.mono _ _ _ _ _ _
   | exact LeO.none _
   | refine LeO.ite ?_ ?_
   | refine LeO.bind ?_ (fun _ => ?_)
theorem capstanref13_Check.mono : ∀ a0 a1 a2 a3 k, LeO (capstanref13_Check.f k a0 a1 a2 a3) (capstanref13_Check.f (k + 1) a0 a1 a2 a3) := by
 intro a0 a1 a2 a3 k; obtain ⟨ih0, ih1, ih2, ih3⟩ := capstanref13_Check.mono_l k
 unfold capstanref13_Check.f
 repeat' first
   | (with_reducible exact ih0 _ _ _ _ _)
   | (with_reducible exact ih1 _ _ _ _ _)
   | (with_reducible exact ih2 _ _ _ _ _ _)
   | (with_reducible exact ih3 _ _ _ _ _ _ _ _)
   | (with_reducible exact capstanref11_Whom.mono _ _ _ _ _ _)
   | (with_reducible exact capstanref13_Stores.mono _ _ _ _ _ _)
   | (with_reducible exact LeO.refl _)
   | (with_reducible exact LeO.none _)
   | (with_reducible refine LeO.ite ?_ ?_)
   | (with_reducible refine LeO.bind ?_ (fun _ => ?_))
   | exact ih0 _ _ _ _ _
   | exact ih1 _ _ _ _ _
   | exact ih2 _ _ _ _ _ _
   | exact ih3 _ _ _ _ _ _ _ _
   | exact capstanref11_Whom.mono _ _ _ _ _ _
   | exact capstanref13_Stores.mono _ _ _ _ _ _
   | exact LeO.none _
   | refine LeO.ite ?_ ?_
   | refine LeO.bind ?_ (fun _ => ?_)
set_option maxHeartbeats 8000000 in
set_option maxRecDepth 100000 in
theorem capstanref13_Check.calls (k : Nat) (A0_0 : Option Addr) (c0_0 : Nat) (l0_0 : List (S86)) (A0_1 : Option Addr) (c0_1 : Nat) (l0_1 : List (S86)) (A0_2 : Option Addr) (c0_2 : Nat) (l0_2 : List (S52)) (a0_3 : Int) (r : Int) (w : World) (hr0_0 : Kd.C k86 w A0_0 l0_0.length l0_0) (hc0_0 : l0_0.length ≤ c0_0) (hr0_1 : Kd.C k86 w A0_1 l0_1.length l0_1) (hc0_1 : l0_1.length ≤ c0_1) (hr0_2 : Kd.C k52 w A0_2 l0_2.length l0_2) (hc0_2 : l0_2.length ≤ c0_2) (h : capstanref13_Check.f k l0_0 l0_1 l0_2 a0_3 = some r) :
  Calls Try.prog 22 #[.agg #[.slice A0_0 l0_0.length c0_0, .slice A0_1 l0_1.length c0_1, .slice A0_2 l0_2.length c0_2, .int .i64 a0_3]] w fun e w' => e = .returned (.int .i64 r) ∧ Below w.heap.size w w' := by
 have hu25 := Try.underlying25; have HR0_0 := Aside0.mk hr0_0; have HC0_0 := Aside0.mk hc0_0; clear hr0_0 hc0_0; have HR0_1 := Aside0.mk hr0_1; have HC0_1 := Aside0.mk hc0_1; clear hr0_1 hc0_1; have HR0_2 := Aside0.mk hr0_2; have HC0_2 := Aside0.mk hc0_2; clear hr0_2 hc0_2; have HB := Aside0.mk (Below.refl w.heap.size w); have H : (capstanref13_Check.l0 k 0 l0_0 l0_1 l0_2 a0_3) = some r := h; clear h; have H' := Aside0.mk H; clear H
 go_enter Try.func22, Try.ntmps22
 go_wp2_with (first | ((with_reducible refine gate_dst (N := 1) rfl ?_); refine box_event ?hg (N := 1) ?hd (cs := #[.slice A0_0 l0_0.length c0_0, .slice A0_1 l0_1.length c0_1, .slice A0_2 l0_2.length c0_2, .int .i64 a0_3]) (t := 25) ?hr ?_; (case hd => rfl); (case hg => rfl); (case hr => first | (go_simp; done) | (go_simp; rfl)); intro gb257 hg w2 hbox hb; have n0_ := Aside0.mk (below_step (au1) hb); have n1_ := Aside0.mk (hbox); have n2_ := Aside0.mk ((au28 : w.heap.size ≤ gb257)); have n3_ := Aside0.mk ((au28 : w.heap.size ≤ gb257)); clear HB; have HB := n0_; have BK257 := n1_; have GW257 := n2_; have GE257 := n3_; clear n0_ n1_ n2_ n3_; clear hb hbox hg))
 repeat (go_quiet (first | ((with_reducible refine gate_dst (N := 1) rfl ?_); refine box_event ?hg (N := 1) ?hd (cs := #[.slice A0_0 l0_0.length c0_0, .slice A0_1 l0_1.length c0_1, .slice A0_2 l0_2.length c0_2, .int .i64 a0_3]) (t := 25) ?hr ?_; (case hd => rfl); (case hg => rfl); (case hr => first | (go_simp; done) | (go_simp; rfl)); intro gb257 hg w2 hbox hb; have n0_ := Aside0.mk (below_step (au1) hb); have n1_ := Aside0.mk (hbox); have n2_ := Aside0.mk ((au28 : w.heap.size ≤ gb257)); have n3_ := Aside0.mk ((au28 : w.heap.size ≤ gb257)); clear HB; have HB := n0_; have BK257 := n1_; have GW257 := n2_; have GE257 := n3_; clear n0_ n1_ n2_ n3_; clear hb hbox hg)); try go_wp2_with (first | ((with_reducible refine gate_dst (N := 1) rfl ?_); refine box_event ?hg (N := 1) ?hd (cs := #[.slice A0_0 l0_0.length c0_0, .slice A0_1 l0_1.length c0_1, .slice A0_2 l0_2.length c0_2, .int .i64 a0_3]) (t := 25) ?hr ?_; (case hd => rfl); (case hg => rfl); (case hr => first | (go_simp; done) | (go_simp; rfl)); intro gb257 hg w2 hbox hb; have n0_ := Aside0.mk (below_step (au1) hb); have n1_ := Aside0.mk (hbox); have n2_ := Aside0.mk ((au28 : w.heap.size ≤ gb257)); have n3_ := Aside0.mk ((au28 : w.heap.size ≤ gb257)); clear HB; have HB := n0_; have BK257 := n1_; have GW257 := n2_; have GE257 := n3_; clear n0_ n1_ n2_ n3_; clear hb hbox hg)))
 go_loopg [3] k (fun kq v3 w' => ∃ (x3_1 : Int), v3 = .int .i64 x3_1 ∧ Aside0 (capstanref13_Check.l0 kq x3_1 l0_0 l0_1 l0_2 a0_3 = some r) ∧ Aside0 (kq ≤ k) ∧ Aside0 (w'.heap[gb257]? = some (.cells #[(.slice A0_0 l0_0.length c0_0), (.slice A0_1 l0_1.length c0_1), (.slice A0_2 l0_2.length c0_2), .int .i64 a0_3] 25 (0, 0))) ∧ Aside0 (Below w.heap.size w w'))
 case atStart => exact ⟨(0), (au17), H', ⟨Nat.le_refl _⟩, ⟨au26⟩, ⟨au2⟩⟩
 case round =>
  clear H'; (try clear c2); (try clear p2); obtain ⟨x3_1, rfl, HA, HK1, BK257, HB⟩ := hrel
  cases gk with
  | zero => exact absurd HA.out (by simp [capstanref13_Check.l0])
  | succ k1 =>
   have H := HA.out; clear HA; simp only [capstanref13_Check.l0] at H
   by_cases c3 : x3_1 < (l0_2.length : Int)
   ·
    rw [if_pos c3] at H; have c3b0 : decide (x3_1 < (l0_2.length : Int)) = true := decide_eq_true c3; clear c3; replace H := Option.bind_eq_some_iff.mp H; obtain ⟨⟨t258, t261⟩, A40, H⟩ := H; replace H : (if t261 = 0 then (capstanref13_Check.l0 k1 (wrap64 (x3_1 + 1)) l0_0 l0_1 l0_2 a0_3) else (some t261)) = some r := H; have A4 := Aside0.mk A40; clear A40
    by_cases c5 : t261 = 0
    rotate_left
    ·
     rw [if_neg c5] at H; have c5b0 : (t261 == 0) = false := beq_eq_false_iff_ne.mpr c5; have c5b1 : (t261 != 0) = true := bne_iff_ne.mpr c5; obtain rfl := Option.some.inj H; obtain ⟨hcz8_0, hcz8_1, hcz8_2, hcz8_3, hfz8_0, hfz8_1, hfz8_2, hfz8_3⟩ := blk_all4 BK257.out
     go_wp2_with (first | ((fail_if_success (have h_ := w9)); go_at_call 25; (with_reducible refine (capstanref11_Whom.calls k1 _ _ l0_0 _ _ l0_1 _ _ l0_2 a0_3 x3_1 t258 t261 _ ?side1 ?side2 ?side3 ?side4 ?side5 ?side6 A4.out).mono ?_); (case side1 => exact au4); (case side2 => exact HC0_0.out); (case side3 => exact au12); (case side4 => exact HC0_1.out); (case side5 => exact au14); (case side6 => exact HC0_2.out); rintro e w9 ⟨v259, rfl, ho0, hb⟩; have n0_ := Aside0.mk (Kd.R_lower ho0 (below_size (au2))); have n1_ := Aside0.mk (blk_below (g := gb257) (o := .cells #[.slice A0_0 l0_0.length c0_0, .slice A0_1 l0_1.length c0_1, .slice A0_2 l0_2.length c0_2, .int .i64 a0_3] 25 (0, 0)) (au26) hb); have n2_ := Aside0.mk (below_step (au2) hb); clear BK257; clear HB; have HO260 := n0_; have BK257 := n1_; have HB := n2_; clear n0_ n1_ n2_; (try clear hb); (try clear hb2); (try clear hk); (try clear hi); (try clear ho0)))
     repeat (go_quiet (first | ((fail_if_success (have h_ := w9)); go_at_call 25; (with_reducible refine (capstanref11_Whom.calls k1 _ _ l0_0 _ _ l0_1 _ _ l0_2 a0_3 x3_1 t258 t261 _ ?side1 ?side2 ?side3 ?side4 ?side5 ?side6 A4.out).mono ?_); (case side1 => exact au4); (case side2 => exact HC0_0.out); (case side3 => exact au12); (case side4 => exact HC0_1.out); (case side5 => exact au14); (case side6 => exact HC0_2.out); rintro e w9 ⟨v259, rfl, ho0, hb⟩; have n0_ := Aside0.mk (Kd.R_lower ho0 (below_size (au2))); have n1_ := Aside0.mk (blk_below (g := gb257) (o := .cells #[.slice A0_0 l0_0.length c0_0, .slice A0_1 l0_1.length c0_1, .slice A0_2 l0_2.length c0_2, .int .i64 a0_3] 25 (0, 0)) (au26) hb); have n2_ := Aside0.mk (below_step (au2) hb); clear BK257; clear HB; have HO260 := n0_; have BK257 := n1_; have HB := n2_; clear n0_ n1_ n2_; (try clear hb); (try clear hb2); (try clear hk); (try clear hi); (try clear ho0))); try go_wp2_with (first | ((fail_if_success (have h_ := w9)); go_at_call 25; (with_reducible refine (capstanref11_Whom.calls k1 _ _ l0_0 _ _ l0_1 _ _ l0_2 a0_3 x3_1 t258 t261 _ ?side1 ?side2 ?side3 ?side4 ?side5 ?side6 A4.out).mono ?_); (case side1 => exact au4); (case side2 => exact HC0_0.out); (case side3 => exact au12); (case side4 => exact HC0_1.out); (case side5 => exact au14); (case side6 => exact HC0_2.out); rintro e w9 ⟨v259, rfl, ho0, hb⟩; have n0_ := Aside0.mk (Kd.R_lower ho0 (below_size (au2))); have n1_ := Aside0.mk (blk_below (g := gb257) (o := .cells #[.slice A0_0 l0_0.length c0_0, .slice A0_1 l0_1.length c0_1, .slice A0_2 l0_2.length c0_2, .int .i64 a0_3] 25 (0, 0)) (au26) hb); have n2_ := Aside0.mk (below_step (au2) hb); clear BK257; clear HB; have HO260 := n0_; have BK257 := n1_; have HB := n2_; clear n0_ n1_ n2_; (try clear hb); (try clear hb2); (try clear hk); (try clear hi); (try clear ho0))))
     go_ret; exact ⟨au13, au2⟩
    rw [if_pos c5] at H; have c5b0 : (t261 == 0) = true := beq_iff_eq.mpr c5; have c5b1 : (t261 != 0) = false := bne_eq_false_iff_eq.mpr c5; clear c5; have H' := Aside0.mk H; clear H; obtain ⟨hcz6_0, hcz6_1, hcz6_2, hcz6_3, hfz6_0, hfz6_1, hfz6_2, hfz6_3⟩ := blk_all4 BK257.out
    go_wp2_with (first | ((fail_if_success (have h_ := w7)); go_at_call 25; (with_reducible refine (capstanref11_Whom.calls k1 _ _ l0_0 _ _ l0_1 _ _ l0_2 a0_3 x3_1 t258 t261 _ ?side1 ?side2 ?side3 ?side4 ?side5 ?side6 A4.out).mono ?_); (case side1 => exact au4); (case side2 => exact HC0_0.out); (case side3 => exact au12); (case side4 => exact HC0_1.out); (case side5 => exact au14); (case side6 => exact HC0_2.out); rintro e w7 ⟨v259, rfl, ho0, hb⟩; have n0_ := Aside0.mk (Kd.R_lower ho0 (below_size (au2))); have n1_ := Aside0.mk (blk_below (g := gb257) (o := .cells #[.slice A0_0 l0_0.length c0_0, .slice A0_1 l0_1.length c0_1, .slice A0_2 l0_2.length c0_2, .int .i64 a0_3] 25 (0, 0)) (au26) hb); have n2_ := Aside0.mk (below_step (au2) hb); clear BK257; clear HB; have HO260 := n0_; have BK257 := n1_; have HB := n2_; clear n0_ n1_ n2_; (try clear hb); (try clear hb2); (try clear hk); (try clear hi); (try clear ho0)))
    repeat (go_quiet (first | ((fail_if_success (have h_ := w7)); go_at_call 25; (with_reducible refine (capstanref11_Whom.calls k1 _ _ l0_0 _ _ l0_1 _ _ l0_2 a0_3 x3_1 t258 t261 _ ?side1 ?side2 ?side3 ?side4 ?side5 ?side6 A4.out).mono ?_); (case side1 => exact au4); (case side2 => exact HC0_0.out); (case side3 => exact au12); (case side4 => exact HC0_1.out); (case side5 => exact au14); (case side6 => exact HC0_2.out); rintro e w7 ⟨v259, rfl, ho0, hb⟩; have n0_ := Aside0.mk (Kd.R_lower ho0 (below_size (au2))); have n1_ := Aside0.mk (blk_below (g := gb257) (o := .cells #[.slice A0_0 l0_0.length c0_0, .slice A0_1 l0_1.length c0_1, .slice A0_2 l0_2.length c0_2, .int .i64 a0_3] 25 (0, 0)) (au26) hb); have n2_ := Aside0.mk (below_step (au2) hb); clear BK257; clear HB; have HO260 := n0_; have BK257 := n1_; have HB := n2_; clear n0_ n1_ n2_; (try clear hb); (try clear hb2); (try clear hk); (try clear hi); (try clear ho0))); try go_wp2_with (first | ((fail_if_success (have h_ := w7)); go_at_call 25; (with_reducible refine (capstanref11_Whom.calls k1 _ _ l0_0 _ _ l0_1 _ _ l0_2 a0_3 x3_1 t258 t261 _ ?side1 ?side2 ?side3 ?side4 ?side5 ?side6 A4.out).mono ?_); (case side1 => exact au4); (case side2 => exact HC0_0.out); (case side3 => exact au12); (case side4 => exact HC0_1.out); (case side5 => exact au14); (case side6 => exact HC0_2.out); rintro e w7 ⟨v259, rfl, ho0, hb⟩; have n0_ := Aside0.mk (Kd.R_lower ho0 (below_size (au2))); have n1_ := Aside0.mk (blk_below (g := gb257) (o := .cells #[.slice A0_0 l0_0.length c0_0, .slice A0_1 l0_1.length c0_1, .slice A0_2 l0_2.length c0_2, .int .i64 a0_3] 25 (0, 0)) (au26) hb); have n2_ := Aside0.mk (below_step (au2) hb); clear BK257; clear HB; have HO260 := n0_; have BK257 := n1_; have HB := n2_; clear n0_ n1_ n2_; (try clear hb); (try clear hb2); (try clear hk); (try clear hi); (try clear ho0))))
    go_roundg k1
    case measure => have := HK1.out; omega
    case rel => exact ⟨(wrap64 (x3_1 + 1)), (au17), H', ⟨by have := HK1.out; omega⟩, ⟨au26⟩, ⟨au2⟩⟩
   ·
    rw [if_neg c3] at H; have c3b0 : decide (x3_1 < (l0_2.length : Int)) = false := decide_eq_false c3; clear c3; have H' := Aside0.mk H; clear H; obtain ⟨hcz10_0, hcz10_1, hcz10_2, hcz10_3, hfz10_0, hfz10_1, hfz10_2, hfz10_3⟩ := blk_all4 BK257.out; go_wp2
    repeat (go_quiet (fail); try go_wp2)
    go_loopg [6] k1 (fun kq v6 w' => ∃ (x6_2 : Int), v6 = .int .i64 x6_2 ∧ Aside0 (capstanref13_Check.l1 kq x6_2 l0_0 l0_1 l0_2 a0_3 = some r) ∧ Aside0 (kq ≤ k1) ∧ Aside0 (w'.heap[gb257]? = some (.cells #[(.slice A0_0 l0_0.length c0_0), (.slice A0_1 l0_1.length c0_1), (.slice A0_2 l0_2.length c0_2), .int .i64 a0_3] 25 (0, 0))) ∧ Aside0 (Below w.heap.size w w'))
    case atStart => exact ⟨(0), (au17), H', ⟨Nat.le_refl _⟩, ⟨au26⟩, ⟨au2⟩⟩
    case round =>
     clear H'; (try clear c2); (try clear p2); (try clear c3); (try clear c3b0); (try clear c5); (try clear c5b0); (try clear c5b1); (try clear p6); (try clear hcz10_0); (try clear hcz10_1); (try clear hcz10_2); (try clear hcz10_3); (try clear hcz6_0); (try clear hcz6_1); (try clear hcz6_2); (try clear hcz6_3); (try clear hcz8_0); (try clear hcz8_1); (try clear hcz8_2); (try clear hcz8_3); (try clear hfz10_0); (try clear hfz10_1); (try clear hfz10_2); (try clear hfz10_3); (try clear hfz6_0); (try clear hfz6_1); (try clear hfz6_2); (try clear hfz6_3); (try clear hfz8_0); (try clear hfz8_1); (try clear hfz8_2); (try clear hfz8_3); (try clear p2); obtain ⟨x6_2, rfl, HA, HK2, BK257, HB⟩ := hrel
     cases gk with
     | zero => exact absurd HA.out (by simp [capstanref13_Check.l1])
     | succ k2 =>
      have H := HA.out; clear HA; simp only [capstanref13_Check.l1] at H
      by_cases c11 : x6_2 < (l0_2.length : Int)
      rotate_left
      ·
       rw [if_neg c11] at H; have c11b0 : decide (x6_2 < (l0_2.length : Int)) = false := decide_eq_false c11; clear c11; obtain rfl := Option.some.inj H; obtain ⟨hcz35_0, hcz35_1, hcz35_2, hcz35_3, hfz35_0, hfz35_1, hfz35_2, hfz35_3⟩ := blk_all4 BK257.out; go_wp2
       repeat (go_quiet (fail); try go_wp2)
       go_ret; exact ⟨au13, au2⟩

      rw [if_pos c11] at H; have c11b0 : decide (x6_2 < (l0_2.length : Int)) = true := decide_eq_true c11; clear c11
      by_cases c12 : 0 ≤ x6_2
      rotate_left
      · rw [if_neg c12] at H; exact absurd H (by simp)
      rw [if_pos c12] at H; have c12b0 : decide (0 ≤ x6_2) = true := decide_eq_true c12; clear c12; obtain ⟨bq13, hbq13⟩ : ∃ b_ : Bool, b_ = ((rd_T52 l0_2 x6_2).f3) := ⟨_, rfl⟩
      replace H : (if (bq13 = true) then ((capstanref13_Stores.f k2 l0_0 l0_1 l0_2 a0_3 x6_2).bind fun bt263 => (capstanref13_Check.j2 k2 x6_2 bt263.1 l0_0 l0_1 l0_2 a0_3)) else (capstanref13_Check.l1 k2 (wrap64 (x6_2 + 1)) l0_0 l0_1 l0_2 a0_3)) = some r := by rw [← hbq13] at H; exact H
      have Nbq13 := Aside0.mk hbq13; clear hbq13
      by_cases c14 : (bq13 = true)
      rotate_left
      ·
       replace c14 := Bool.eq_false_iff.mpr c14; subst c14
       have H1 : (capstanref13_Check.l1 k2 (wrap64 (x6_2 + 1)) l0_0 l0_1 l0_2 a0_3) = some r := by rw [if_neg (show ¬ (false = true) by decide)] at H; exact H
       clear H; have H := H1; clear H1; have H' := Aside0.mk H; clear H; obtain ⟨hcz34_0, hcz34_1, hcz34_2, hcz34_3, hfz34_0, hfz34_1, hfz34_2, hfz34_3⟩ := blk_all4 BK257.out; have p262 : 0 ≤ (x6_2 : Int) := of_decide_eq_true (au3); have q262 : x6_2 < (l0_2.length : Int) := of_decide_eq_true (au3); obtain ⟨ad262, A262_0, c262_0, A262_1, c262_1, A262_7, c262_7, e262, hx262_0, hx262_1, hx262_2, hx262_3, hx262_4, hx262_5, hx262_6, hx262_7, hl262_0, hi262_0, hl262_1, hi262_1, hl262_7, hi262_7⟩ := at_T52 HR0_2.out x6_2 p262 q262; (try rw [← Nbq13.out] at hx262_3); cases e262; replace hx262_0 := (HB.out.cell (World.block_lt_of_cell? w _ hx262_0)).trans hx262_0; replace hx262_1 := (HB.out.cell (World.block_lt_of_cell? w _ hx262_1)).trans hx262_1; replace hx262_2 := (HB.out.cell (World.block_lt_of_cell? w _ hx262_2)).trans hx262_2; replace hx262_3 := (HB.out.cell (World.block_lt_of_cell? w _ hx262_3)).trans hx262_3; replace hx262_4 := (HB.out.cell (World.block_lt_of_cell? w _ hx262_4)).trans hx262_4; replace hx262_5 := (HB.out.cell (World.block_lt_of_cell? w _ hx262_5)).trans hx262_5; replace hx262_6 := (HB.out.cell (World.block_lt_of_cell? w _ hx262_6)).trans hx262_6; replace hx262_7 := (HB.out.cell (World.block_lt_of_cell? w _ hx262_7)).trans hx262_7; have HR262_0 := Aside0.mk hi262_0; have HC262_0 := Aside0.mk hl262_0; clear hi262_0 hl262_0; have HR262_1 := Aside0.mk hi262_1; have HC262_1 := Aside0.mk hl262_1; clear hi262_1 hl262_1; have HR262_7 := Aside0.mk hi262_7; have HC262_7 := Aside0.mk hl262_7; clear hi262_7 hl262_7; replace p262 := eq_true p262
       replace q262 := eq_true q262; go_wp2
       repeat (go_quiet (fail); try go_wp2)
       go_roundg k2
       case measure => have := HK1.out; have := HK2.out; omega
       case rel => exact ⟨(wrap64 (x6_2 + 1)), (au17), H', ⟨by have := HK1.out; have := HK2.out; omega⟩, ⟨au26⟩, ⟨au2⟩⟩
      subst c14
      have H1 : ((capstanref13_Stores.f k2 l0_0 l0_1 l0_2 a0_3 x6_2).bind fun bt263 => (capstanref13_Check.j2 k2 x6_2 bt263.1 l0_0 l0_1 l0_2 a0_3)) = some r := by rw [if_pos rfl] at H; exact H
      clear H; have H := H1; clear H1; have HC15 := Aside0.mk H; clear H; obtain ⟨hcz16_0, hcz16_1, hcz16_2, hcz16_3, hfz16_0, hfz16_1, hfz16_2, hfz16_3⟩ := blk_all4 BK257.out; have p262 : 0 ≤ (x6_2 : Int) := of_decide_eq_true (au3); have q262 : x6_2 < (l0_2.length : Int) := of_decide_eq_true (au3); obtain ⟨ad262, A262_0, c262_0, A262_1, c262_1, A262_7, c262_7, e262, hx262_0, hx262_1, hx262_2, hx262_3, hx262_4, hx262_5, hx262_6, hx262_7, hl262_0, hi262_0, hl262_1, hi262_1, hl262_7, hi262_7⟩ := at_T52 HR0_2.out x6_2 p262 q262; (try rw [← Nbq13.out] at hx262_3); cases e262; replace hx262_0 := (HB.out.cell (World.block_lt_of_cell? w _ hx262_0)).trans hx262_0; replace hx262_1 := (HB.out.cell (World.block_lt_of_cell? w _ hx262_1)).trans hx262_1; replace hx262_2 := (HB.out.cell (World.block_lt_of_cell? w _ hx262_2)).trans hx262_2; replace hx262_3 := (HB.out.cell (World.block_lt_of_cell? w _ hx262_3)).trans hx262_3; replace hx262_4 := (HB.out.cell (World.block_lt_of_cell? w _ hx262_4)).trans hx262_4; replace hx262_5 := (HB.out.cell (World.block_lt_of_cell? w _ hx262_5)).trans hx262_5; replace hx262_6 := (HB.out.cell (World.block_lt_of_cell? w _ hx262_6)).trans hx262_6; replace hx262_7 := (HB.out.cell (World.block_lt_of_cell? w _ hx262_7)).trans hx262_7; have HR262_0 := Aside0.mk hi262_0; have HC262_0 := Aside0.mk hl262_0; clear hi262_0 hl262_0; have HR262_1 := Aside0.mk hi262_1; have HC262_1 := Aside0.mk hl262_1; clear hi262_1 hl262_1; have HR262_7 := Aside0.mk hi262_7; have HC262_7 := Aside0.mk hl262_7; clear hi262_7 hl262_7; replace p262 := eq_true p262
      replace q262 := eq_true q262
      go_upto_region 11 with (fail)
      repeat (go_quiet (fail); go_upto_region 11 with (fail))
      go_cut [7] (fun v7 wc => ∃ (kq : Nat) (x7_14 : Bool), v7 = .bool x7_14 ∧ Aside0 (capstanref13_Check.j2 kq x6_2 x7_14 l0_0 l0_1 l0_2 a0_3 = some r) ∧ Aside0 (kq ≤ k2) ∧ Aside0 (wc.heap[gb257]? = some (.cells #[(.slice A0_0 l0_0.length c0_0), (.slice A0_1 l0_1.length c0_1), (.slice (some ad262) l0_2.length c0_2), .int .i64 a0_3] 25 (0, 0))) ∧ Aside0 (Below w.heap.size w wc))
      case first =>
       have H := HC15.out; clear HC15; replace H := Option.bind_eq_some_iff.mp H; obtain ⟨⟨t263, t264⟩, A170, H⟩ := H; replace H : (capstanref13_Check.j2 k2 x6_2 t263 l0_0 l0_1 l0_2 a0_3) = some r := H; have A17 := Aside0.mk A170; clear A170; have H' := Aside0.mk H; clear H; obtain ⟨hcz18_0, hcz18_1, hcz18_2, hcz18_3, hfz18_0, hfz18_1, hfz18_2, hfz18_3⟩ := blk_all4 BK257.out
       go_wp2_with (first | ((fail_if_success (have h_ := w19)); go_at_call 13; (with_reducible refine (capstanref13_Stores.calls k2 _ _ l0_0 _ _ l0_1 _ _ l0_2 a0_3 x6_2 t263 t264 _ ?side1 ?side2 ?side3 ?side4 ?side5 ?side6 A17.out).mono ?_); (case side1 => exact au4); (case side2 => exact HC0_0.out); (case side3 => exact au12); (case side4 => exact HC0_1.out); (case side5 => exact au14); (case side6 => exact HC0_2.out); rintro e w19 ⟨rfl, hb⟩; have n0_ := Aside0.mk (blk_below (g := gb257) (o := .cells #[.slice A0_0 l0_0.length c0_0, .slice A0_1 l0_1.length c0_1, .slice (some ad262) l0_2.length c0_2, .int .i64 a0_3] 25 (0, 0)) (au26) hb); have n1_ := Aside0.mk (below_step (au2) hb); clear BK257; clear HB; have BK257 := n0_; have HB := n1_; clear n0_ n1_; (try clear hb); (try clear hb2); (try clear hk); (try clear hi)))
       repeat (go_quiet (first | ((fail_if_success (have h_ := w19)); go_at_call 13; (with_reducible refine (capstanref13_Stores.calls k2 _ _ l0_0 _ _ l0_1 _ _ l0_2 a0_3 x6_2 t263 t264 _ ?side1 ?side2 ?side3 ?side4 ?side5 ?side6 A17.out).mono ?_); (case side1 => exact au4); (case side2 => exact HC0_0.out); (case side3 => exact au12); (case side4 => exact HC0_1.out); (case side5 => exact au14); (case side6 => exact HC0_2.out); rintro e w19 ⟨rfl, hb⟩; have n0_ := Aside0.mk (blk_below (g := gb257) (o := .cells #[.slice A0_0 l0_0.length c0_0, .slice A0_1 l0_1.length c0_1, .slice (some ad262) l0_2.length c0_2, .int .i64 a0_3] 25 (0, 0)) (au26) hb); have n1_ := Aside0.mk (below_step (au2) hb); clear BK257; clear HB; have BK257 := n0_; have HB := n1_; clear n0_ n1_; (try clear hb); (try clear hb2); (try clear hk); (try clear hi))); try go_wp2_with (first | ((fail_if_success (have h_ := w19)); go_at_call 13; (with_reducible refine (capstanref13_Stores.calls k2 _ _ l0_0 _ _ l0_1 _ _ l0_2 a0_3 x6_2 t263 t264 _ ?side1 ?side2 ?side3 ?side4 ?side5 ?side6 A17.out).mono ?_); (case side1 => exact au4); (case side2 => exact HC0_0.out); (case side3 => exact au12); (case side4 => exact HC0_1.out); (case side5 => exact au14); (case side6 => exact HC0_2.out); rintro e w19 ⟨rfl, hb⟩; have n0_ := Aside0.mk (blk_below (g := gb257) (o := .cells #[.slice A0_0 l0_0.length c0_0, .slice A0_1 l0_1.length c0_1, .slice (some ad262) l0_2.length c0_2, .int .i64 a0_3] 25 (0, 0)) (au26) hb); have n1_ := Aside0.mk (below_step (au2) hb); clear BK257; clear HB; have BK257 := n0_; have HB := n1_; clear n0_ n1_; (try clear hb); (try clear hb2); (try clear hk); (try clear hi))))
       go_meet
       case rel => exact ⟨_, (t263), (au17), H', ⟨by have := HK1.out; have := HK2.out; first | omega | exact Nat.le_refl _⟩, ⟨au26⟩, ⟨au2⟩⟩
      case rest =>
       clear HC15; (try clear c1); (try clear q1); (try clear c2); (try clear p2); (try clear q2); (try clear hx2); (try clear c3); (try clear c3b0); (try clear c5); (try clear c5b0); (try clear c5b1); (try clear p6); (try clear c11); (try clear c11b0); (try clear c12); (try clear c12b0); (try clear q13); (try clear c14); (try clear hcz10_0); (try clear hcz10_1); (try clear hcz10_2); (try clear hcz10_3); (try clear hcz16_0); (try clear hcz16_1); (try clear hcz16_2); (try clear hcz16_3); (try clear hcz18_0); (try clear hcz18_1); (try clear hcz18_2); (try clear hcz18_3); (try clear hcz6_0); (try clear hcz6_1); (try clear hcz6_2); (try clear hcz6_3); (try clear hcz8_0); (try clear hcz8_1); (try clear hcz8_2); (try clear hcz8_3); (try clear hfz10_0); (try clear hfz10_1); (try clear hfz10_2); (try clear hfz10_3); (try clear hfz16_0); (try clear hfz16_1); (try clear hfz16_2); (try clear hfz16_3); (try clear hfz18_0); (try clear hfz18_1); (try clear hfz18_2); (try clear hfz18_3); (try clear hfz6_0); (try clear hfz6_1); (try clear hfz6_2); (try clear hfz6_3); (try clear hfz8_0); (try clear hfz8_1); (try clear hfz8_2); (try clear hfz8_3); (try clear hx262_0); (try clear hx262_1); (try clear hx262_2); (try clear hx262_3); (try clear hx262_4); (try clear hx262_5); (try clear hx262_6); (try clear hx262_7); (try clear p2); (try clear p262); (try clear p6); (try clear q262); obtain ⟨kq, x7_14, rfl, HA, HJ14, BK257, HB⟩ := hcut
       cases kq with
       | zero => exact absurd HA.out (by simp [capstanref13_Check.j2])
       | succ kj14 =>
        have H := HA.out; clear HA; simp only [capstanref13_Check.j2] at H; replace H := Option.bind_eq_some_iff.mp H; obtain ⟨⟨t265, t268⟩, A200, H⟩ := H; replace H : (capstanref13_Check.l2 kj14 x6_2 x7_14 t265 0 l0_0 l0_1 l0_2 a0_3) = some r := H; have A20 := Aside0.mk A200; clear A200; have H' := Aside0.mk H; clear H; obtain ⟨hcz21_0, hcz21_1, hcz21_2, hcz21_3, hfz21_0, hfz21_1, hfz21_2, hfz21_3⟩ := blk_all4 BK257.out
        go_wp2_with (first | ((fail_if_success (have h_ := w22)); go_at_call 25; (with_reducible refine (capstanref11_Whom.calls kj14 _ _ l0_0 _ _ l0_1 _ _ l0_2 a0_3 x6_2 t265 t268 _ ?side1 ?side2 ?side3 ?side4 ?side5 ?side6 A20.out).mono ?_); (case side1 => exact au4); (case side2 => exact HC0_0.out); (case side3 => exact au12); (case side4 => exact HC0_1.out); (case side5 => exact au14); (case side6 => exact HC0_2.out); rintro e w22 ⟨v266, rfl, ho0, hb⟩; have n0_ := Aside0.mk (Kd.R_lower ho0 (below_size (au2))); have n1_ := Aside0.mk (blk_below (g := gb257) (o := .cells #[.slice A0_0 l0_0.length c0_0, .slice A0_1 l0_1.length c0_1, .slice (some ad262) l0_2.length c0_2, .int .i64 a0_3] 25 (0, 0)) (au26) hb); have n2_ := Aside0.mk (below_step (au2) hb); clear BK257; clear HB; have HO267 := n0_; have BK257 := n1_; have HB := n2_; clear n0_ n1_ n2_; (try clear hb); (try clear hb2); (try clear hk); (try clear hi); (try clear ho0)))
        repeat (go_quiet (first | ((fail_if_success (have h_ := w22)); go_at_call 25; (with_reducible refine (capstanref11_Whom.calls kj14 _ _ l0_0 _ _ l0_1 _ _ l0_2 a0_3 x6_2 t265 t268 _ ?side1 ?side2 ?side3 ?side4 ?side5 ?side6 A20.out).mono ?_); (case side1 => exact au4); (case side2 => exact HC0_0.out); (case side3 => exact au12); (case side4 => exact HC0_1.out); (case side5 => exact au14); (case side6 => exact HC0_2.out); rintro e w22 ⟨v266, rfl, ho0, hb⟩; have n0_ := Aside0.mk (Kd.R_lower ho0 (below_size (au2))); have n1_ := Aside0.mk (blk_below (g := gb257) (o := .cells #[.slice A0_0 l0_0.length c0_0, .slice A0_1 l0_1.length c0_1, .slice (some ad262) l0_2.length c0_2, .int .i64 a0_3] 25 (0, 0)) (au26) hb); have n2_ := Aside0.mk (below_step (au2) hb); clear BK257; clear HB; have HO267 := n0_; have BK257 := n1_; have HB := n2_; clear n0_ n1_ n2_; (try clear hb); (try clear hb2); (try clear hk); (try clear hi); (try clear ho0))); try go_wp2_with (first | ((fail_if_success (have h_ := w22)); go_at_call 25; (with_reducible refine (capstanref11_Whom.calls kj14 _ _ l0_0 _ _ l0_1 _ _ l0_2 a0_3 x6_2 t265 t268 _ ?side1 ?side2 ?side3 ?side4 ?side5 ?side6 A20.out).mono ?_); (case side1 => exact au4); (case side2 => exact HC0_0.out); (case side3 => exact au12); (case side4 => exact HC0_1.out); (case side5 => exact au14); (case side6 => exact HC0_2.out); rintro e w22 ⟨v266, rfl, ho0, hb⟩; have n0_ := Aside0.mk (Kd.R_lower ho0 (below_size (au2))); have n1_ := Aside0.mk (blk_below (g := gb257) (o := .cells #[.slice A0_0 l0_0.length c0_0, .slice A0_1 l0_1.length c0_1, .slice (some ad262) l0_2.length c0_2, .int .i64 a0_3] 25 (0, 0)) (au26) hb); have n2_ := Aside0.mk (below_step (au2) hb); clear BK257; clear HB; have HO267 := n0_; have BK257 := n1_; have HB := n2_; clear n0_ n1_ n2_; (try clear hb); (try clear hb2); (try clear hk); (try clear hi); (try clear ho0))))
        go_loopg [7, 11] kj14 (fun kq v7 v11 w' => ∃ (x7_4 : Bool) (x11_4 : Int), v7 = .bool x7_4 ∧ v11 = .int .i64 x11_4 ∧ Aside0 (capstanref13_Check.l2 kq x6_2 x7_4 t265 x11_4 l0_0 l0_1 l0_2 a0_3 = some r) ∧ Aside0 (kq ≤ kj14) ∧ Aside0 (Kd.R (Kd.int .i64) 3 w' w.heap.size (fun _ => True) v266 t265) ∧ Aside0 (w'.heap[gb257]? = some (.cells #[(.slice A0_0 l0_0.length c0_0), (.slice A0_1 l0_1.length c0_1), (.slice (some ad262) l0_2.length c0_2), .int .i64 a0_3] 25 (0, 0))) ∧ Aside0 (Below w.heap.size w w'))
        case atStart => exact ⟨(x7_14), (0), (au17), (au17), H', ⟨Nat.le_refl _⟩, ⟨by (with_reducible repeat (first | apply Kd.R_alloc | apply Kd.R_drewN | apply Kd.R_drew)); first | exact HO267.out | exact Kd.R_mono (HO267.out) (fun _ h_ => h_.2)⟩, ⟨au26⟩, ⟨au2⟩⟩
        case round =>
         clear H'; (try clear c1); (try clear q1); (try clear c2); (try clear p2); (try clear q2); (try clear hx2); (try clear c3); (try clear c3b0); (try clear c5); (try clear c5b0); (try clear c5b1); (try clear p6); (try clear c11); (try clear c11b0); (try clear c12); (try clear c12b0); (try clear q13); (try clear c14); (try clear c22); (try clear hcz10_0); (try clear hcz10_1); (try clear hcz10_2); (try clear hcz10_3); (try clear hcz16_0); (try clear hcz16_1); (try clear hcz16_2); (try clear hcz16_3); (try clear hcz18_0); (try clear hcz18_1); (try clear hcz18_2); (try clear hcz18_3); (try clear hcz21_0); (try clear hcz21_1); (try clear hcz21_2); (try clear hcz21_3); (try clear hcz6_0); (try clear hcz6_1); (try clear hcz6_2); (try clear hcz6_3); (try clear hcz8_0); (try clear hcz8_1); (try clear hcz8_2); (try clear hcz8_3); (try clear hfz10_0); (try clear hfz10_1); (try clear hfz10_2); (try clear hfz10_3); (try clear hfz16_0); (try clear hfz16_1); (try clear hfz16_2); (try clear hfz16_3); (try clear hfz18_0); (try clear hfz18_1); (try clear hfz18_2); (try clear hfz18_3); (try clear hfz21_0); (try clear hfz21_1); (try clear hfz21_2); (try clear hfz21_3); (try clear hfz6_0); (try clear hfz6_1); (try clear hfz6_2); (try clear hfz6_3); (try clear hfz8_0); (try clear hfz8_1); (try clear hfz8_2); (try clear hfz8_3); (try clear hx262_0); (try clear hx262_1); (try clear hx262_2); (try clear hx262_3); (try clear hx262_4); (try clear hx262_5); (try clear hx262_6); (try clear hx262_7); (try clear p2); (try clear p262); (try clear p6); (try clear q1); (try clear q13); (try clear q2); (try clear q262); obtain ⟨x7_4, x11_4, rfl, rfl, HA, HK4, HO_9, BK257, HB⟩ := hrel
         cases gk with
         | zero => exact absurd HA.out (by simp [capstanref13_Check.l2])
         | succ k4 =>
          have H := HA.out; clear HA; simp only [capstanref13_Check.l2] at H
          by_cases c23 : x11_4 < (t265.length : Int)
          rotate_left
          ·
           rw [if_neg c23] at H; have c23b0 : decide (x11_4 < (t265.length : Int)) = false := decide_eq_false c23; clear c23
           by_cases c31 : x7_4 = true
           ·
            subst c31
            have H1 : (some 130) = some r := by rw [if_pos rfl] at H; exact H
            clear H; have H := H1; clear H1; obtain rfl := Option.some.inj H; obtain ⟨Ao32, co32, eo32⟩ := Kd.R_slice HO_9.out; subst eo32; go_wp2
            repeat (go_quiet (fail); try go_wp2)
            go_ret; exact ⟨au13, au2⟩
           ·
            replace c31 := Bool.eq_false_iff.mpr c31; subst c31
            have H1 : (capstanref13_Check.l1 k4 (wrap64 (x6_2 + 1)) l0_0 l0_1 l0_2 a0_3) = some r := by rw [if_neg (show ¬ (false = true) by decide)] at H; exact H
            clear H; have H := H1; clear H1; have H' := Aside0.mk H; clear H; obtain ⟨Ao33, co33, eo33⟩ := Kd.R_slice HO_9.out; subst eo33; go_wp2
            repeat (go_quiet (fail); try go_wp2)
            go_roundg k4
            case measure => have := HK1.out; have := HK2.out; have := HJ14.out; have := HK4.out; omega
            case rel => exact ⟨(wrap64 (x6_2 + 1)), (au17), H', ⟨by have := HK1.out; have := HK2.out; have := HJ14.out; have := HK4.out; omega⟩, ⟨au26⟩, ⟨au2⟩⟩
          rw [if_pos c23] at H; have c23b0 : decide (x11_4 < (t265.length : Int)) = true := decide_eq_true c23; clear c23
          by_cases c24 : x7_4 = true
          ·
           subst c24
           have H1 : (capstanref13_Check.l2 k4 x6_2 true t265 (wrap64 (x11_4 + 1)) l0_0 l0_1 l0_2 a0_3) = some r := by rw [if_pos rfl] at H; exact H
           clear H; have H := H1; clear H1; have H' := Aside0.mk H; clear H; obtain ⟨Ao25, co25, eo25⟩ := Kd.R_slice HO_9.out; subst eo25; go_wp2
           repeat (go_quiet (fail); try go_wp2)
           go_roundg k4
           case measure => have := HK1.out; have := HK2.out; have := HJ14.out; have := HK4.out; omega
           case rel => exact ⟨(true), (wrap64 (x11_4 + 1)), (au17), (au17), H', ⟨by have := HK1.out; have := HK2.out; have := HJ14.out; have := HK4.out; omega⟩, ⟨by (with_reducible repeat (first | apply Kd.R_alloc | apply Kd.R_drewN | apply Kd.R_drew)); first | exact HO_9.out | exact Kd.R_mono (HO_9.out) (fun _ h_ => h_.2)⟩, ⟨au26⟩, ⟨au2⟩⟩
          ·
           replace c24 := Bool.eq_false_iff.mpr c24; subst c24
           have H1 : (if 0 ≤ x11_4 then (if 0 ≤ (rd t265 x11_4) then (if (rd t265 x11_4) < (l0_2.length : Int) then (capstanref13_Check.l2 k4 x6_2 (!((rd_T52 l0_2 (rd t265 x11_4)).f3)) t265 (wrap64 (x11_4 + 1)) l0_0 l0_1 l0_2 a0_3) else (none)) else (none)) else (none)) = some r := by rw [if_neg (show ¬ (false = true) by decide)] at H; exact H
           clear H; have H := H1; clear H1
           by_cases c26 : 0 ≤ x11_4
           rotate_left
           · rw [if_neg c26] at H; exact absurd H (by simp)
           rw [if_pos c26] at H; have c26b0 : decide (0 ≤ x11_4) = true := decide_eq_true c26; clear c26
           by_cases c27 : 0 ≤ (rd t265 x11_4)
           rotate_left
           · rw [if_neg c27] at H; exact absurd H (by simp)
           rw [if_pos c27] at H; have c27b0 : decide (0 ≤ (rd t265 x11_4)) = true := decide_eq_true c27; clear c27
           by_cases c28 : (rd t265 x11_4) < (l0_2.length : Int)
           rotate_left
           · rw [if_neg c28] at H; exact absurd H (by simp)
           rw [if_pos c28] at H; have c28b0 : decide ((rd t265 x11_4) < (l0_2.length : Int)) = true := decide_eq_true c28; clear c28; have H' := Aside0.mk H; clear H; obtain ⟨Ao29, co29, eo29⟩ := Kd.R_slice HO_9.out; subst eo29; obtain ⟨hcz30_0, hcz30_1, hcz30_2, hcz30_3, hfz30_0, hfz30_1, hfz30_2, hfz30_3⟩ := blk_all4 BK257.out; have p269 : 0 ≤ (x11_4 : Int) := of_decide_eq_true (au3); have q269 : x11_4 < (t265.length : Int) := of_decide_eq_true (au3); obtain ⟨ad269, e269, hx269_0⟩ := Kd.at_int (Kd.R_reads' HO_9.out).2.2 x11_4 p269 q269; cases e269; replace p269 := eq_true p269; replace q269 := eq_true q269; have p270 : 0 ≤ ((rd t265 x11_4) : Int) := of_decide_eq_true (au3); have q270 : (rd t265 x11_4) < (l0_2.length : Int) := of_decide_eq_true (au3); obtain ⟨ad270, A270_0, c270_0, A270_1, c270_1, A270_7, c270_7, e270, hx270_0, hx270_1, hx270_2, hx270_3, hx270_4, hx270_5, hx270_6, hx270_7, hl270_0, hi270_0, hl270_1, hi270_1, hl270_7, hi270_7⟩ := at_T52 HR0_2.out (rd t265 x11_4) p270 q270; (try rw [← Nbq13.out] at hx270_3); obtain rfl : ad262 = ad270 := (by injection e270); replace hx270_0 := (HB.out.cell (World.block_lt_of_cell? w _ hx270_0)).trans hx270_0; replace hx270_1 := (HB.out.cell (World.block_lt_of_cell? w _ hx270_1)).trans hx270_1; replace hx270_2 := (HB.out.cell (World.block_lt_of_cell? w _ hx270_2)).trans hx270_2; replace hx270_3 := (HB.out.cell (World.block_lt_of_cell? w _ hx270_3)).trans hx270_3; replace hx270_4 := (HB.out.cell (World.block_lt_of_cell? w _ hx270_4)).trans hx270_4; replace hx270_5 := (HB.out.cell (World.block_lt_of_cell? w _ hx270_5)).trans hx270_5
           replace hx270_6 := (HB.out.cell (World.block_lt_of_cell? w _ hx270_6)).trans hx270_6; replace hx270_7 := (HB.out.cell (World.block_lt_of_cell? w _ hx270_7)).trans hx270_7; have HR270_0 := Aside0.mk hi270_0; have HC270_0 := Aside0.mk hl270_0; clear hi270_0 hl270_0; have HR270_1 := Aside0.mk hi270_1; have HC270_1 := Aside0.mk hl270_1; clear hi270_1 hl270_1; have HR270_7 := Aside0.mk hi270_7; have HC270_7 := Aside0.mk hl270_7; clear hi270_7 hl270_7; replace p270 := eq_true p270; replace q270 := eq_true q270; go_wp2
           repeat (go_quiet (fail); try go_wp2)
           go_roundg k4
           case measure => have := HK1.out; have := HK2.out; have := HJ14.out; have := HK4.out; omega
           case rel => exact ⟨(!((rd_T52 l0_2 (rd t265 x11_4)).f3)), (wrap64 (x11_4 + 1)), (au17), (au17), H', ⟨by have := HK1.out; have := HK2.out; have := HJ14.out; have := HK4.out; omega⟩, ⟨by (with_reducible repeat (first | apply Kd.R_alloc | apply Kd.R_drewN | apply Kd.R_drew)); first | exact HO_9.out | exact Kd.R_mono (HO_9.out) (fun _ h_ => h_.2)⟩, ⟨au26⟩, ⟨au2⟩⟩
end Go.Proofs.Ytkmnachdibhdhaa.U
