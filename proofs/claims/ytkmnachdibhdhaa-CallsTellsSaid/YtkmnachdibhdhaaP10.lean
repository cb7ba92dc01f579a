/- Contracts of the functions of this seat (each: the call of the function does what the plain Lean function of the same name tells; the conditions stand in each statement). Written by a program of this session and by hand; checked by Lean. -/
import Derived.Test.YtkmnachdibhdhaaP0
import Derived.Test.YtkmnachdibhdhaaP8
import Derived.Test.YtkmnachdibhdhaaP9
namespace Go.Proofs.Ytkmnachdibhdhaa.P
open Go.RowKit Go.Proofs.YtkmnachdibhdhaaW.PrintWords Go.Proofs.YtkmnachdibhdhaaW.PrintLast Go.Proofs.YtkmnachdibhdhaaW.PrintMore
attribute [local go_sem] max2_int min2_int max_two min_two max_three min_three max_four min_four   -- for this text's walks alone
set_option linter.unusedVariables false
set_option linter.unusedSimpArgs false

/-! ### capstanref11_Order: function 26 -/
mutual
def capstanref11_Order.l0 : Nat → Int → List (S86) → List (S86) → List (S52) → Int → Option (List Int × Int)
 | 0, _, _, _, _, _ => none
 | k + 1, x4, x176000, x176001, x176002, x176003 => if x4 < (x176002.length : Int) then ((capstanref11_Whom.f k x176000 x176001 x176002 x176003 x4).bind fun bt176 => (if bt176.2 = 0 then (capstanref11_Order.l0 k (wrap64 (x4 + 1)) x176000 x176001 x176002 x176003) else (some (([] : List Int), bt176.2)))) else (capstanref11_Order.l1 k ([] : List Int) x176000 x176001 x176002 x176003)
def capstanref11_Order.l1 : Nat → List Int → List (S86) → List (S86) → List (S52) → Int → Option (List Int × Int)
 | 0, _, _, _, _, _ => none
 | k + 1, x7, x176000, x176001, x176002, x176003 => if (x7.length : Int) < (x176002.length : Int) then (capstanref11_Order.l2 k x7 (-1) 0 x176000 x176001 x176002 x176003) else (some (x7, 0))
def capstanref11_Order.l2 : Nat → List Int → Int → Int → List (S86) → List (S86) → List (S52) → Int → Option (List Int × Int)
 | 0, _, _, _, _, _, _, _ => none
 | k + 1, x7, x8, x9, x176000, x176001, x176002, x176003 => if x9 < (x176002.length : Int) then (capstanref11_Order.j3 k x7 x8 x9 (decide (x8 < 0)) x176000 x176001 x176002 x176003) else (capstanref11_Order.j3 k x7 x8 x9 false x176000 x176001 x176002 x176003)
def capstanref11_Order.j3 : Nat → List Int → Int → Int → Bool → List (S86) → List (S86) → List (S52) → Int → Option (List Int × Int)
 | 0, _, _, _, _, _, _, _, _ => none
 | k + 1, x7, x8, x9, x44, x176000, x176001, x176002, x176003 => if x44 = true then ((capstanref11_Whom.f k x176000 x176001 x176002 x176003 x9).bind fun bt183 => ((capstanref11_has.f k x7 x9).bind fun t187 => (capstanref11_Order.j4 k x7 x8 x9 bt183.1 (!t187) x176000 x176001 x176002 x176003))) else (if x8 < 0 then (some (([] : List Int), 110)) else (if x7.length < 17592186044416 then (capstanref11_Order.l1 k (x7 ++ [x8]) x176000 x176001 x176002 x176003) else (none)))
def capstanref11_Order.j4 : Nat → List Int → Int → Int → List Int → Bool → List (S86) → List (S86) → List (S52) → Int → Option (List Int × Int)
 | 0, _, _, _, _, _, _, _, _, _ => none
 | k + 1, x7, x8, x9, x10, x12, x176000, x176001, x176002, x176003 => capstanref11_Order.l3 k x7 x8 x9 x10 x12 0 x176000 x176001 x176002 x176003
def capstanref11_Order.l3 : Nat → List Int → Int → Int → List Int → Bool → Int → List (S86) → List (S86) → List (S52) → Int → Option (List Int × Int)
 | 0, _, _, _, _, _, _, _, _, _, _ => none
 | k + 1, x7, x8, x9, x10, x12, x13, x176000, x176001, x176002, x176003 => if x13 < (x10.length : Int) then (if x12 = true then (if 0 ≤ x13 then ((capstanref11_has.f k x7 (rd x10 x13)).bind fun t189 => (capstanref11_Order.l3 k x7 x8 x9 x10 t189 (wrap64 (x13 + 1)) x176000 x176001 x176002 x176003)) else (none)) else (capstanref11_Order.l3 k x7 x8 x9 x10 false (wrap64 (x13 + 1)) x176000 x176001 x176002 x176003)) else (if x12 = true then (capstanref11_Order.l2 k x7 x9 (wrap64 (x9 + 1)) x176000 x176001 x176002 x176003) else (capstanref11_Order.l2 k x7 x8 (wrap64 (x9 + 1)) x176000 x176001 x176002 x176003))
end
def capstanref11_Order.f (k : Nat) (l0_0 : List (S86)) (l0_1 : List (S86)) (l0_2 : List (S52)) (a0_3 : Int) : Option (List Int × Int) := capstanref11_Order.l0 k 0 l0_0 l0_1 l0_2 a0_3
theorem capstanref11_Order.mono_l : ∀ k, (∀ y0 y1 y2 y3 y4, LeO (capstanref11_Order.l0 k y0 y1 y2 y3 y4) (capstanref11_Order.l0 (k + 1) y0 y1 y2 y3 y4)) ∧ (∀ y0 y1 y2 y3 y4, LeO (capstanref11_Order.l1 k y0 y1 y2 y3 y4) (capstanref11_Order.l1 (k + 1) y0 y1 y2 y3 y4)) ∧ (∀ y0 y1 y2 y3 y4 y5 y6, LeO (capstanref11_Order.l2 k y0 y1 y2 y3 y4 y5 y6) (capstanref11_Order.l2 (k + 1) y0 y1 y2 y3 y4 y5 y6)) ∧ (∀ y0 y1 y2 y3 y4 y5 y6 y7, LeO (capstanref11_Order.j3 k y0 y1 y2 y3 y4 y5 y6 y7) (capstanref11_Order.j3 (k + 1) y0 y1 y2 y3 y4 y5 y6 y7)) ∧ (∀ y0 y1 y2 y3 y4 y5 y6 y7 y8, LeO (capstanref11_Order.j4 k y0 y1 y2 y3 y4 y5 y6 y7 y8) (capstanref11_Order.j4 (k + 1) y0 y1 y2 y3 y4 y5 y6 y7 y8)) ∧ (∀ y0 y1 y2 y3 y4 y5 y6 y7 y8 y9, LeO (capstanref11_Order.l3 k y0 y1 y2 y3 y4 y5 y6 y7 y8 y9) (capstanref11_Order.l3 (k + 1) y0 y1 y2 y3 y4 y5 y6 y7 y8 y9))
 | 0 => ⟨fun _ _ _ _ _ r h => by simp [capstanref11_Order.l0] at h, fun _ _ _ _ _ r h => by simp [capstanref11_Order.l1] at h, fun _ _ _ _ _ _ _ r h => by simp [capstanref11_Order.l2] at h, fun _ _ _ _ _ _ _ _ r h => by simp [capstanref11_Order.j3] at h, fun _ _ _ _ _ _ _ _ _ r h => by simp [capstanref11_Order.j4] at h, fun _ _ _ _ _ _ _ _ _ _ r h => by simp [capstanref11_Order.l3] at h⟩
 | k + 1 => by
  obtain ⟨ih0, ih1, ih2, ih3, ih4, ih5⟩ := capstanref11_Order.mono_l k
  refine ⟨?_, ?_, ?_, ?_, ?_, ?_⟩
  ·
   intro y0 y1 y2 y3 y4
   unfold capstanref11_Order.l0
   repeat' first
   | (with_reducible exact ih0 _ _ _ _ _)
   | (with_reducible exact ih1 _ _ _ _ _)
   | (with_reducible exact ih2 _ _ _ _ _ _ _)
   | (with_reducible exact ih3 _ _ _ _ _ _ _ _)
   | (with_reducible exact ih4 _ _ _ _ _ _ _ _ _)
   | (with_reducible exact ih5 _ _ _ _ _ _ _ _ _ _)
   | (with_reducible exact capstanref11_Whom.mono _ _ _ _ _ _)
   | (with_reducible exact capstanref11_has.mono _ _ _)
   | (with_reducible exact LeO.refl _)
   | (with_reducible exact LeO.none _)
   | (with_reducible refine LeO.ite ?_ ?_)
   | (with_reducible refine LeO.bind ?_ (fun _ => ?_))
   | exact ih0 _ _ _ _ _
   | exact ih1 _ _ _ _ _
   | exact ih2 _ _ _ _ _ _ _
   | exact ih3 _ _ _ _ _ _ _ _
   | exact ih4 _ _ _ _ _ _ _ _ _
   | exact ih5 _ _ _ _ _ _ _ _ _ _
   | exact capstanref11_Whom.mono _ _ _ _ _ _
   | exact capstanref11_has.mono _ _ _
   | exact LeO.none _
   | refine LeO.ite ?_ ?_
   | refine LeO.bind ?_ (fun _ => ?_)
  ·
   intro y0 y1 y2 y3 y4
   unfold capstanref11_Order.l1
   repeat' first
   | (with_reducible exact ih0 _ _ _ _ _)
   | (with_reducible exact ih1 _ _ _ _ _)
   | (with_reducible exact ih2 _ _ _ _ _ _ _)
   | (with_reducible exact ih3 _ _ _ _ _ _ _ _)
   | (with_reducible exact ih4 _ _ _ _ _ _ _ _ _)
   | (with_reducible exact ih5 _ _ _ _ _ _ _ _ _ _)
   | (with_reducible exact capstanref11_Whom.mono _ _ _ _ _ _)
   | (with_reducible exact capstanref11_has.mono _ _ _)
   | (with_reducible exact LeO.refl _)
   | (with_reducible exact LeO.none _)
   | (with_reducible refine LeO.ite ?_ ?_)
   | (with_reducible refine LeO.bind ?_ (fun _ => ?_))
   | exact ih0 _ _ _ _ _
   | exact ih1 _ _ _ _ _
   | exact ih2 _ _ _ _ _ _ _
   | exact ih3 _ _ _ _ _ _ _ _
   | exact ih4 _ _ _ _ _ _ _ _ _
   | exact ih5 _ _ _ _ _ _ _ _ _ _
   | exact capstanref11_Whom.mono _ _ _ _ _ _
   | exact capstanref11_has.mono _ _ _
   | exact LeO.none _
   | refine LeO.ite ?_ ?_
   | refine LeO.bind ?_ (fun _ => ?_)
  ·
   intro y0 y1 y2 y3 y4 y5 y6
   unfold capstanref11_Order.l2
   repeat' first
   | (with_reducible exact ih0 _ _ _ _ _)
   | (with_reducible exact ih1 _ _ _ _ _)
   | (with_reducible exact ih2 _ _ _ _ _ _ _)
   | (with_reducible exact ih3 _ _ _ _ _ _ _ _)
   | (with_reducible exact ih4 _ _ _ _ _ _ _ _ _)
   | (with_reducible exact ih5 _ _ _ _ _ _ _ _ _ _)
   | (with_reducible exact capstanref11_Whom.mono _ _ _ _ _ _)
   | (with_reducible exact capstanref11_has.mono _ _ _)
   | (with_reducible exact LeO.refl _)
   | (with_reducible exact LeO.none _)
   | (with_reducible refine LeO.ite ?_ ?_)
   | (with_reducible refine LeO.bind ?_ (fun _ => ?_))
   | exact ih0 _ _ _ _ _
   | exact ih1 _ _ _ _ _
   | exact ih2 _ _ _ _ _ _ _
   | exact ih3 _ _ _ _ _ _ _ _
   | exact ih4 _ _ _ _ _ _ _ _ _
   | exact ih5 _ _ _ _ _ _ _ _ _ _
   | exact capstanref11_Whom.mono _ _ _ _ _ _
   | exact capstanref11_has.mono _ _ _
   | exact LeO.none _
   | refine LeO.ite ?_ ?_
   | refine LeO.bind ?_ (fun _ => ?_)
  ·
   intro y0 y1 y2 y3 y4 y5 y6 y7
   unfold capstanref11_Order.j3
   repeat' first
   | (with_reducible exact ih0 _ _ _ _ _)
   | (with_reducible exact ih1 _ _ _ _ _)
   | (with_reducible exact ih2 _ _ _ _ _ _ _)
   | (with_reducible exact ih3 _ _ _ _ _ _ _ _)
   | (with_reducible exact ih4 _ _ _ _ _ _ _ _ _)
   | (with_reducible exact ih5 _ _ _ _ _ _ _ _ _ _)
   | (with_reducible exact capstanref11_Whom.mono _ _ _ _ _ _)
   | (with_reducible exact capstanref11_has.mono _ _ _)
   | (with_reducible exact LeO.refl _)
   | (with_reducible exact LeO.none _)
   | (with_reducible refine LeO.ite ?_ ?_)
   | (with_reducible refine LeO.bind ?_ (fun _ => ?_))
   | exact ih0 _ _ _ _ _
   | exact ih1 _ _ _ _ _
   | exact ih2 _ _ _ _ _ _ _
   | exact ih3 _ _ _ _ _ _ _ _
   | exact ih4 _ _ _ _ _ _ _ _ _
   | exact ih5 _ _ _ _ _ _ _ _ _ _
   | exact capstanref11_Whom.mono _ _ _ _ _ _
   | exact capstanref11_has.mono _ _ _
   | exact LeO.none _
   | refine LeO.ite ?_ ?_
   | refine LeO.bind ?_ (fun _ => ?_)
  ·
   intro y0 y1 y2 y3 y4 y5 y6 y7 y8
   unfold capstanref11_Order.j4
   repeat' first
   | (with_reducible exact ih0 _ _ _ _ _)
   | (with_reducible exact ih1 _ _ _ _ _)
   | (with_reducible exact ih2 _ _ _ _ _ _ _)
   | (with_reducible exact ih3 _ _ _ _ _ _ _ _)
   | (with_reducible exact ih4 _ _ _ _ _ _ _ _ _)
   | (with_reducible exact ih5 _ _ _ _ _ _ _ _ _ _)
   | (with_reducible exact capstanref11_Whom.mono _ _ _ _ _ _)
   | (with_reducible exact capstanref11_has.mono _ _ _)
   | (with_reducible exact LeO.refl _)
   | (with_reducible exact LeO.none _)
   | (with_reducible refine LeO.ite ?_ ?_)
   | (with_reducible refine LeO.bind ?_ (fun _ => ?_))
   | exact ih0 _ _ _ _ _
   | exact ih1 _ _ _ _ _
   | exact ih2 _ _ _ _ _ _ _
   | exact ih3 _ _ _ _ _ _ _ _
   | exact ih4 _ _ _ _ _ _ _ _ _
   | exact ih5 _ _ _ _ _ _ _ _ _ _
   | exact capstanref11_Whom.mono _ _ _ _ _ _
   | exact capstanref11_has.mono _ _ _
   | exact LeO.none _
   | refine LeO.ite ?_ ?_
   | refine LeO.bind ?_ (fun _ => ?_)
  ·
   intro y0 y1 y2 y3 y4 y5 y6 y7 y8 y9
   unfold capstanref11_Order.l3
   repeat' first
   | (with_reducible exact ih0 _ _ _ _ _)
   | (with_reducible exact ih1 _ _ _ _ _)
   | (with_reducible exact ih2 _ _ _ _ _ _ _)
   | (with_reducible exact ih3 _ _ _ _ _ _ _ _)
   | (with_reducible exact ih4 _ _ _ _ _ _ _ _ _)
   | (with_reducible exact ih5 _ _ _ _ _ _ _ _ _ _)
   | (with_reducible exact capstanref11_Whom.mono _ _ _ _ _ _)
   | (with_reducible exact capstanref11_has.mono _ _ _)
   | (with_reducible exact LeO.refl _)
   | (with_reducible exact LeO.none _)
   | (with_reducible refine LeO.ite ?_ ?_)
   | (with_reducible refine LeO.bind ?_ (fun _ => ?_))
   | exact ih0 _ _ _ _ _
   | exact ih1 _ _ _ _ _
   | exact ih2 _ _ _ _ _ _ _
   | exact ih3 _ _ _ _ _ _ _ _
   | exact ih4 _ _ _ _ _ _ _ _ _
   | exact ih5 _ _ _ _ _ _ _ _ _ _
   | exact capstanref11_Whom.mono _ _ _ _ _ _
   | exact capstanref11_has.mono _ _ _
   | exact LeO.none _
   | refine LeO.ite ?_ ?_
   | refine LeO.bind ?_ (fun _ => ?_)
theorem capstanref11_Order.mono : ∀ a0 a1 a2 a3 k, LeO (capstanref11_Order.f k a0 a1 a2 a3) (capstanref11_Order.f (k + 1) a0 a1 a2 a3) := by
 intro a0 a1 a2 a3 k
 obtain ⟨ih0, ih1, ih2, ih3, ih4, ih5⟩ := capstanref11_Order.mono_l k
 unfold capstanref11_Order.f
 repeat' first
   | (with_reducible exact ih0 _ _ _ _ _)
   | (with_reducible exact ih1 _ _ _ _ _)
   | (with_reducible exact ih2 _ _ _ _ _ _ _)
   | (with_reducible exact ih3 _ _ _ _ _ _ _ _)
   | (with_reducible exact ih4 _ _ _ _ _ _ _ _ _)
   | (with_reducible exact ih5 _ _ _ _ _ _ _ _ _ _)
   | (with_reducible exact capstanref11_Whom.mono _ _ _ _ _ _)
   | (with_reducible exact capstanref11_has.mono _ _ _)
   | (with_reducible exact LeO.refl _)
   | (with_reducible exact LeO.none _)
   | (with_reducible refine LeO.ite ?_ ?_)
   | (with_reducible refine LeO.bind ?_ (fun _ => ?_))
   | exact ih0 _ _ _ _ _
   | exact ih1 _ _ _ _ _
   | exact ih2 _ _ _ _ _ _ _
   | exact ih3 _ _ _ _ _ _ _ _
   | exact ih4 _ _ _ _ _ _ _ _ _
   | exact ih5 _ _ _ _ _ _ _ _ _ _
   | exact capstanref11_Whom.mono _ _ _ _ _ _
   | exact capstanref11_has.mono _ _ _
   | exact LeO.none _
   | refine LeO.ite ?_ ?_
   | refine LeO.bind ?_ (fun _ => ?_)
set_option maxHeartbeats 8000000 in
set_option maxRecDepth 100000 in
theorem capstanref11_Order.calls (k : Nat) (A0_0 : Option Addr) (c0_0 : Nat) (l0_0 : List (S86)) (A0_1 : Option Addr) (c0_1 : Nat) (l0_1 : List (S86)) (A0_2 : Option Addr) (c0_2 : Nat) (l0_2 : List (S52)) (a0_3 : Int) (r1 : List Int) (r2 : Int) (w : World) (hr0_0 : Kd.C k86 w A0_0 l0_0.length l0_0) (hc0_0 : l0_0.length ≤ c0_0) (hr0_1 : Kd.C k86 w A0_1 l0_1.length l0_1) (hc0_1 : l0_1.length ≤ c0_1) (hr0_2 : Kd.C k52 w A0_2 l0_2.length l0_2) (hc0_2 : l0_2.length ≤ c0_2) (h : capstanref11_Order.f k l0_0 l0_1 l0_2 a0_3 = some (r1, r2)) :
  Calls Try.prog 26 #[.agg #[.slice A0_0 l0_0.length c0_0, .slice A0_1 l0_1.length c0_1, .slice A0_2 l0_2.length c0_2, .int .i64 a0_3]] w fun e w' => ∃ v0_ : Value, e = .returned (.tuple #[v0_, .int .i64 r2]) ∧ Kd.R (Kd.int .i64) 3 w' w.heap.size (fun _ => True) v0_ r1 ∧ Below w.heap.size w w' := by
 have hu25 := Try.underlying25
 have HR0_0 := Aside0.mk hr0_0
 have HC0_0 := Aside0.mk hc0_0
 clear hr0_0 hc0_0
 have HR0_1 := Aside0.mk hr0_1
 have HC0_1 := Aside0.mk hc0_1
 clear hr0_1 hc0_1
 have HR0_2 := Aside0.mk hr0_2
 have HC0_2 := Aside0.mk hc0_2
 clear hr0_2 hc0_2
 have HB := Aside0.mk (Below.refl w.heap.size w)
 have H : (capstanref11_Order.l0 k 0 l0_0 l0_1 l0_2 a0_3) = some (r1, r2) := h
 clear h
 have H' := Aside0.mk H
 clear H
 go_enter Try.func26, Try.ntmps26
 go_wp2_with (first | ((with_reducible refine gate_dst (N := 1) rfl ?_); refine box_event ?hg (N := 1) ?hd (cs := #[.slice A0_0 l0_0.length c0_0, .slice A0_1 l0_1.length c0_1, .slice A0_2 l0_2.length c0_2, .int .i64 a0_3]) (t := 25) ?hr ?_; (case hd => rfl); (case hg => rfl); (case hr => first | (go_simp; done) | (go_simp; rfl)); intro gb175 hg w2 hbox hb; have n0_ := Aside0.mk (below_step (au1) hb); have n1_ := Aside0.mk (hbox); have n2_ := Aside0.mk ((au37 : w.heap.size ≤ gb175)); have n3_ := Aside0.mk ((au37 : w.heap.size ≤ gb175)); clear HB; have HB := n0_; have BK175 := n1_; have GW175 := n2_; have GE175 := n3_; clear n0_ n1_ n2_ n3_; clear hb hbox hg))
 go_loopg [4] k (fun kq v4 w' => ∃ (x4_1 : Int), v4 = .int .i64 x4_1 ∧ Aside0 (capstanref11_Order.l0 kq x4_1 l0_0 l0_1 l0_2 a0_3 = some (r1, r2)) ∧ Aside0 (kq ≤ k) ∧ Aside0 (w'.heap[gb175]? = some (.cells #[(.slice A0_0 l0_0.length c0_0), (.slice A0_1 l0_1.length c0_1), (.slice A0_2 l0_2.length c0_2), .int .i64 a0_3] 25 (0, 0))) ∧ Aside0 (Below w.heap.size w w'))
 case atStart => exact ⟨(0), (au18), H', ⟨Nat.le_refl _⟩, ⟨au35⟩, ⟨au9⟩⟩
 case round =>
  clear H'
  try clear c2
  try clear p2
  obtain ⟨x4_1, rfl, HA, HK1, BK175, HB⟩ := hrel
  cases gk with
  | zero => exact absurd HA.out (by simp [capstanref11_Order.l0])
  | succ k1 =>
   have H := HA.out
   clear HA
   simp only [capstanref11_Order.l0] at H
   by_cases c3 : x4_1 < (l0_2.length : Int)
   ·
    rw [if_pos c3] at H
    have c3b0 : decide (x4_1 < (l0_2.length : Int)) = true := decide_eq_true c3
    clear c3
    replace H := Option.bind_eq_some_iff.mp H
    obtain ⟨⟨t176, t179⟩, A40, H⟩ := H
    replace H : (if t179 = 0 then (capstanref11_Order.l0 k1 (wrap64 (x4_1 + 1)) l0_0 l0_1 l0_2 a0_3) else (some (([] : List Int), t179))) = some (r1, r2) := H
    have A4 := Aside0.mk A40
    clear A40
    by_cases c5 : t179 = 0
    ·
     rw [if_pos c5] at H
     have c5b0 : (t179 == 0) = true := beq_iff_eq.mpr c5
     have c5b1 : (t179 != 0) = false := bne_eq_false_iff_eq.mpr c5
     clear c5
     have H' := Aside0.mk H
     clear H
     obtain ⟨hcz6_0, hcz6_1, hcz6_2, hcz6_3, hfz6_0, hfz6_1, hfz6_2, hfz6_3⟩ := blk_all4 BK175.out
     go_wp2_with (first | ((with_reducible refine gate_callee (f := 25) rfl ?_); refine goesL_ (some 24) rfl rfl Try.func25 (by kernel_rfl) rfl #[.agg #[.slice A0_0 l0_0.length c0_0, .slice A0_1 l0_1.length c0_1, .slice A0_2 l0_2.length c0_2, .int .i64 a0_3], .int .i64 x4_1] rfl (au6) ?_; (with_reducible refine (capstanref11_Whom.calls k1 _ _ l0_0 _ _ l0_1 _ _ l0_2 a0_3 x4_1 t176 t179 _ ?side1 ?side2 ?side3 ?side4 ?side5 ?side6 A4.out).mono ?_); (case side1 => exact au7); (case side2 => exact HC0_0.out); (case side3 => exact au15); (case side4 => exact HC0_1.out); (case side5 => exact au17); (case side6 => exact HC0_2.out); rintro e w7 ⟨v177, rfl, ho0, hb⟩; refine ⟨_, rfl, ?_⟩; have n0_ := Aside0.mk (Kd.R_lower ho0 (below_size (au9))); have n1_ := Aside0.mk (blk_below (g := gb175) (o := .cells #[.slice A0_0 l0_0.length c0_0, .slice A0_1 l0_1.length c0_1, .slice A0_2 l0_2.length c0_2, .int .i64 a0_3] 25 (0, 0)) (au35) hb); have n2_ := Aside0.mk (below_step (au9) hb); clear BK175; clear HB; have HO178 := n0_; have BK175 := n1_; have HB := n2_; clear n0_ n1_ n2_; (try clear hb); (try clear hb2); (try clear hk); (try clear hi); (try clear ho0)))
     go_roundg k1
     case measure => have := HK1.out; omega
     case rel => exact ⟨(wrap64 (x4_1 + 1)), (au18), H', ⟨by have := HK1.out; omega⟩, ⟨au35⟩, ⟨au9⟩⟩
    ·
     rw [if_neg c5] at H
     have c5b0 : (t179 == 0) = false := beq_eq_false_iff_ne.mpr c5
     have c5b1 : (t179 != 0) = true := bne_iff_ne.mpr c5
     simp only [Option.some.injEq, Prod.mk.injEq] at H
     obtain ⟨rfl, rfl⟩ := H
     obtain ⟨hcz8_0, hcz8_1, hcz8_2, hcz8_3, hfz8_0, hfz8_1, hfz8_2, hfz8_3⟩ := blk_all4 BK175.out
     go_wp2_with (first | ((with_reducible refine gate_callee (f := 25) rfl ?_); refine goesL_ (some 24) rfl rfl Try.func25 (by kernel_rfl) rfl #[.agg #[.slice A0_0 l0_0.length c0_0, .slice A0_1 l0_1.length c0_1, .slice A0_2 l0_2.length c0_2, .int .i64 a0_3], .int .i64 x4_1] rfl (au6) ?_; (with_reducible refine (capstanref11_Whom.calls k1 _ _ l0_0 _ _ l0_1 _ _ l0_2 a0_3 x4_1 t176 t179 _ ?side1 ?side2 ?side3 ?side4 ?side5 ?side6 A4.out).mono ?_); (case side1 => exact au7); (case side2 => exact HC0_0.out); (case side3 => exact au15); (case side4 => exact HC0_1.out); (case side5 => exact au17); (case side6 => exact HC0_2.out); rintro e w9 ⟨v177, rfl, ho0, hb⟩; refine ⟨_, rfl, ?_⟩; have n0_ := Aside0.mk (Kd.R_lower ho0 (below_size (au9))); have n1_ := Aside0.mk (blk_below (g := gb175) (o := .cells #[.slice A0_0 l0_0.length c0_0, .slice A0_1 l0_1.length c0_1, .slice A0_2 l0_2.length c0_2, .int .i64 a0_3] 25 (0, 0)) (au35) hb); have n2_ := Aside0.mk (below_step (au9) hb); clear BK175; clear HB; have HO178 := n0_; have BK175 := n1_; have HB := n2_; clear n0_ n1_ n2_; (try clear hb); (try clear hb2); (try clear hk); (try clear hi); (try clear ho0)))
     go_ret2
     exact ⟨_, au19, au45, au9⟩
   ·
    rw [if_neg c3] at H
    have c3b0 : decide (x4_1 < (l0_2.length : Int)) = false := decide_eq_false c3
    clear c3
    have H' := Aside0.mk H
    clear H
    obtain ⟨hcz10_0, hcz10_1, hcz10_2, hcz10_3, hfz10_0, hfz10_1, hfz10_2, hfz10_3⟩ := blk_all4 BK175.out
    go_wp2
    go_loopg [7] k1 (fun kq v7 w' => ∃ (x7_2 : List Int), Aside0 (capstanref11_Order.l1 kq x7_2 l0_0 l0_1 l0_2 a0_3 = some (r1, r2)) ∧ Aside0 (kq ≤ k1) ∧ Aside0 (Kd.R (Kd.int .i64) 3 w' w.heap.size (fun _ => True) v7 x7_2) ∧ Aside0 (w'.heap[gb175]? = some (.cells #[(.slice A0_0 l0_0.length c0_0), (.slice A0_1 l0_1.length c0_1), (.slice A0_2 l0_2.length c0_2), .int .i64 a0_3] 25 (0, 0))) ∧ Aside0 (Below w.heap.size w w'))
    case atStart => exact ⟨(([] : List Int)), H', ⟨Nat.le_refl _⟩, ⟨au45⟩, ⟨au35⟩, ⟨au9⟩⟩
    case round =>
     clear H'
     try clear c2
     try clear p2
     try clear c3
     try clear c3b0
     try clear c5
     try clear c5b0
     try clear c5b1
     try clear p6
     try clear hcz10_0
     try clear hcz10_1
     try clear hcz10_2
     try clear hcz10_3
     try clear hcz6_0
     try clear hcz6_1
     try clear hcz6_2
     try clear hcz6_3
     try clear hcz8_0
     try clear hcz8_1
     try clear hcz8_2
     try clear hcz8_3
     try clear hfz10_0
     try clear hfz10_1
     try clear hfz10_2
     try clear hfz10_3
     try clear hfz6_0
     try clear hfz6_1
     try clear hfz6_2
     try clear hfz6_3
     try clear hfz8_0
     try clear hfz8_1
     try clear hfz8_2
     try clear hfz8_3
     try clear p2
     obtain ⟨x7_2, HA, HK2, HO_7, BK175, HB⟩ := hrel
     cases gk with
     | zero => exact absurd HA.out (by simp [capstanref11_Order.l1])
     | succ k2 =>
      have H := HA.out
      clear HA
      simp only [capstanref11_Order.l1] at H
      by_cases c11 : (x7_2.length : Int) < (l0_2.length : Int)
      ·
       rw [if_pos c11] at H
       have c11b0 : decide ((x7_2.length : Int) < (l0_2.length : Int)) = true := decide_eq_true c11
       have c11b1 : decide (x7_2.length < l0_2.length) = true := decide_eq_true (Int.ofNat_lt.mp c11)
       clear c11
       have H' := Aside0.mk H
       clear H
       obtain ⟨Ao12, co12, eo12⟩ := Kd.R_slice HO_7.out
       subst eo12
       obtain ⟨hcz13_0, hcz13_1, hcz13_2, hcz13_3, hfz13_0, hfz13_1, hfz13_2, hfz13_3⟩ := blk_all4 BK175.out
       go_wp2
       go_loopg [8, 9] k2 (fun kq v8 v9 w' => ∃ (x8_3 : Int) (x9_3 : Int), v8 = .int .i64 x8_3 ∧ v9 = .int .i64 x9_3 ∧ Aside0 (capstanref11_Order.l2 kq x7_2 x8_3 x9_3 l0_0 l0_1 l0_2 a0_3 = some (r1, r2)) ∧ Aside0 (kq ≤ k2) ∧ Aside0 (Kd.R (Kd.int .i64) 3 w' w.heap.size (fun _ => True) (.slice Ao12 x7_2.length co12) x7_2) ∧ Aside0 (w'.heap[gb175]? = some (.cells #[(.slice A0_0 l0_0.length c0_0), (.slice A0_1 l0_1.length c0_1), (.slice A0_2 l0_2.length c0_2), .int .i64 a0_3] 25 (0, 0))) ∧ Aside0 (Below w.heap.size w w'))
       case atStart => exact ⟨((-1)), (0), (au18), (au18), H', ⟨Nat.le_refl _⟩, ⟨au44⟩, ⟨au35⟩, ⟨au9⟩⟩
       case round =>
        clear H'
        try clear c1
        try clear c2
        try clear p2
        try clear c3
        try clear c3b0
        try clear c5
        try clear c5b0
        try clear c5b1
        try clear p6
        try clear c11
        try clear c11b0
        try clear c11b1
        try clear hcz10_0
        try clear hcz10_1
        try clear hcz10_2
        try clear hcz10_3
        try clear hcz13_0
        try clear hcz13_1
        try clear hcz13_2
        try clear hcz13_3
        try clear hcz6_0
        try clear hcz6_1
        try clear hcz6_2
        try clear hcz6_3
        try clear hcz8_0
        try clear hcz8_1
        try clear hcz8_2
        try clear hcz8_3
        try clear hfz10_0
        try clear hfz10_1
        try clear hfz10_2
        try clear hfz10_3
        try clear hfz13_0
        try clear hfz13_1
        try clear hfz13_2
        try clear hfz13_3
        try clear hfz6_0
        try clear hfz6_1
        try clear hfz6_2
        try clear hfz6_3
        try clear hfz8_0
        try clear hfz8_1
        try clear hfz8_2
        try clear hfz8_3
        try clear p2
        try clear p6
        obtain ⟨x8_3, x9_3, rfl, rfl, HA, HK3, HO_7, BK175, HB⟩ := hrel
        cases gk with
        | zero => exact absurd HA.out (by simp [capstanref11_Order.l2])
        | succ k3 =>
         have H := HA.out
         clear HA
         simp only [capstanref11_Order.l2] at H
         have HC14 := Aside0.mk H
         clear H
         go_upto_region 11 with (fail)
         go_cut [44] (fun v44 wc => ∃ (kq : Nat) (x44_13 : Bool), v44 = .bool x44_13 ∧ Aside0 (capstanref11_Order.j3 kq x7_2 x8_3 x9_3 x44_13 l0_0 l0_1 l0_2 a0_3 = some (r1, r2)) ∧ Aside0 (kq ≤ k3) ∧ Aside0 (Kd.R (Kd.int .i64) 3 wc w.heap.size (fun _ => True) (.slice Ao12 x7_2.length co12) x7_2) ∧ Aside0 (wc.heap[gb175]? = some (.cells #[(.slice A0_0 l0_0.length c0_0), (.slice A0_1 l0_1.length c0_1), (.slice A0_2 l0_2.length c0_2), .int .i64 a0_3] 25 (0, 0))) ∧ Aside0 (Below w.heap.size w wc))
         case first =>
          have H := HC14.out
          clear HC14
          by_cases c15 : x9_3 < (l0_2.length : Int)
          ·
           rw [if_pos c15] at H
           have c15b0 : decide (x9_3 < (l0_2.length : Int)) = true := decide_eq_true c15
           clear c15
           (first | rw [c15b0] | (simp only [i64_w, i32_w]; rw [c15b0]) | skip)
           have H' := Aside0.mk H
           clear H
           obtain ⟨hcz16_0, hcz16_1, hcz16_2, hcz16_3, hfz16_0, hfz16_1, hfz16_2, hfz16_3⟩ := blk_all4 BK175.out
           go_wp2
           go_meet
           case rel => exact ⟨_, (decide (x8_3 < 0)), (au18), H', ⟨by have := HK1.out; have := HK2.out; have := HK3.out; first | omega | exact Nat.le_refl _⟩, ⟨au44⟩, ⟨au35⟩, ⟨au9⟩⟩
          ·
           rw [if_neg c15] at H
           have c15b0 : decide (x9_3 < (l0_2.length : Int)) = false := decide_eq_false c15
           clear c15
           (first | rw [c15b0] | (simp only [i64_w, i32_w]; rw [c15b0]) | skip)
           have H' := Aside0.mk H
           clear H
           obtain ⟨hcz17_0, hcz17_1, hcz17_2, hcz17_3, hfz17_0, hfz17_1, hfz17_2, hfz17_3⟩ := blk_all4 BK175.out
           go_wp2
           go_meet
           case rel => exact ⟨_, (false), (au18), H', ⟨by have := HK1.out; have := HK2.out; have := HK3.out; first | omega | exact Nat.le_refl _⟩, ⟨au44⟩, ⟨au35⟩, ⟨au9⟩⟩
         case rest =>
          clear HC14
          try clear c1
          try clear c2
          try clear p2
          try clear c3
          try clear c3b0
          try clear c5
          try clear c5b0
          try clear c5b1
          try clear p6
          try clear c11
          try clear c11b0
          try clear c11b1
          try clear c15
          try clear c15b0
          try clear hcz10_0
          try clear hcz10_1
          try clear hcz10_2
          try clear hcz10_3
          try clear hcz13_0
          try clear hcz13_1
          try clear hcz13_2
          try clear hcz13_3
          try clear hcz16_0
          try clear hcz16_1
          try clear hcz16_2
          try clear hcz16_3
          try clear hcz17_0
          try clear hcz17_1
          try clear hcz17_2
          try clear hcz17_3
          try clear hcz6_0
          try clear hcz6_1
          try clear hcz6_2
          try clear hcz6_3
          try clear hcz8_0
          try clear hcz8_1
          try clear hcz8_2
          try clear hcz8_3
          try clear hfz10_0
          try clear hfz10_1
          try clear hfz10_2
          try clear hfz10_3
          try clear hfz13_0
          try clear hfz13_1
          try clear hfz13_2
          try clear hfz13_3
          try clear hfz16_0
          try clear hfz16_1
          try clear hfz16_2
          try clear hfz16_3
          try clear hfz17_0
          try clear hfz17_1
          try clear hfz17_2
          try clear hfz17_3
          try clear hfz6_0
          try clear hfz6_1
          try clear hfz6_2
          try clear hfz6_3
          try clear hfz8_0
          try clear hfz8_1
          try clear hfz8_2
          try clear hfz8_3
          try clear p2
          try clear p6
          obtain ⟨kq, x44_13, rfl, HA, HJ13, HO_7, BK175, HB⟩ := hcut
          cases kq with
          | zero => exact absurd HA.out (by simp [capstanref11_Order.j3])
          | succ kj13 =>
           have H := HA.out
           clear HA
           simp only [capstanref11_Order.j3] at H
           by_cases c18 : x44_13 = true
           ·
            subst c18
            have H1 : ((capstanref11_Whom.f kj13 l0_0 l0_1 l0_2 a0_3 x9_3).bind fun bt183 => ((capstanref11_has.f kj13 x7_2 x9_3).bind fun t187 => (capstanref11_Order.j4 kj13 x7_2 x8_3 x9_3 bt183.1 (!t187) l0_0 l0_1 l0_2 a0_3))) = some (r1, r2) := by rw [if_pos rfl] at H; exact H
            clear H
            have H := H1
            clear H1
            replace H := Option.bind_eq_some_iff.mp H
            obtain ⟨⟨t183, t186⟩, A190, H⟩ := H
            replace H : ((capstanref11_has.f kj13 x7_2 x9_3).bind fun t187 => (capstanref11_Order.j4 kj13 x7_2 x8_3 x9_3 t183 (!t187) l0_0 l0_1 l0_2 a0_3)) = some (r1, r2) := H
            have A19 := Aside0.mk A190
            clear A190
            have HC20 := Aside0.mk H
            clear H
            obtain ⟨hcz21_0, hcz21_1, hcz21_2, hcz21_3, hfz21_0, hfz21_1, hfz21_2, hfz21_3⟩ := blk_all4 BK175.out
            go_upto_region 14 with (first | ((with_reducible refine gate_callee (f := 25) rfl ?_); refine goesL_ (some 50) rfl rfl Try.func25 (by kernel_rfl) rfl #[.agg #[.slice A0_0 l0_0.length c0_0, .slice A0_1 l0_1.length c0_1, .slice A0_2 l0_2.length c0_2, .int .i64 a0_3], .int .i64 x9_3] rfl (au6) ?_; (with_reducible refine (capstanref11_Whom.calls kj13 _ _ l0_0 _ _ l0_1 _ _ l0_2 a0_3 x9_3 t183 t186 _ ?side1 ?side2 ?side3 ?side4 ?side5 ?side6 A19.out).mono ?_); (case side1 => exact au7); (case side2 => exact HC0_0.out); (case side3 => exact au15); (case side4 => exact HC0_1.out); (case side5 => exact au17); (case side6 => exact HC0_2.out); rintro e w22 ⟨v184, rfl, ho0, hb⟩; refine ⟨_, rfl, ?_⟩; have n0_ := Aside0.mk (Kd.R_elder' (au44) (Kd.R_base ho0) hb); have n1_ := Aside0.mk (Kd.R_lower (Kd.R_new' ho0 (Kd.R_lt (au44))) (below_size (au9))); have n2_ := Aside0.mk (blk_below (g := gb175) (o := .cells #[.slice A0_0 l0_0.length c0_0, .slice A0_1 l0_1.length c0_1, .slice A0_2 l0_2.length c0_2, .int .i64 a0_3] 25 (0, 0)) (au35) hb); have n3_ := Aside0.mk (below_step (au9) hb); clear HO_7; clear BK175; clear HB; have HO_7 := n0_; have HO185 := n1_; have BK175 := n2_; have HB := n3_; clear n0_ n1_ n2_ n3_; (try clear hb); (try clear hb2); (try clear hk); (try clear hi); (try clear ho0)))
            (try simp only [Act.put, List.setIfInBounds_toArray, List.set_cons_zero, List.set_cons_succ])
            go_cut [12] (fun v12 wc => ∃ (kq : Nat) (x12_19 : Bool), v12 = .bool x12_19 ∧ Aside0 (capstanref11_Order.j4 kq x7_2 x8_3 x9_3 t183 x12_19 l0_0 l0_1 l0_2 a0_3 = some (r1, r2)) ∧ Aside0 (kq ≤ kj13) ∧ Aside0 (Kd.R (Kd.int .i64) 3 wc w.heap.size (fun k_ => some k_ ≠ (v184 : Value).ownBlock) (.slice Ao12 x7_2.length co12) x7_2) ∧ Aside0 (Kd.R (Kd.int .i64) 3 wc w.heap.size (fun k_ => some k_ ≠ ((.slice Ao12 x7_2.length co12) : Value).ownBlock) v184 t183) ∧ Aside0 (wc.heap[gb175]? = some (.cells #[(.slice A0_0 l0_0.length c0_0), (.slice A0_1 l0_1.length c0_1), (.slice A0_2 l0_2.length c0_2), .int .i64 a0_3] 25 (0, 0))) ∧ Aside0 (Below w.heap.size w wc))
            case first =>
             have H := HC20.out
             clear HC20
             replace H := Option.bind_eq_some_iff.mp H
             obtain ⟨t187, A230, H⟩ := H
             replace H : (capstanref11_Order.j4 kj13 x7_2 x8_3 x9_3 t183 (!t187) l0_0 l0_1 l0_2 a0_3) = some (r1, r2) := H
             have A23 := Aside0.mk A230
             clear A230
             have H' := Aside0.mk H
             clear H
             go_wp2_with (first | ((with_reducible refine gate_callee (f := 53) rfl ?_); refine goesL_ (some 55) rfl rfl Try.func53 (by kernel_rfl) rfl #[.slice Ao12 x7_2.length co12, .int .i64 x9_3] rfl (au6) ?_; (with_reducible refine (capstanref11_has.calls kj13 _ _ x7_2 x9_3 t187 _ ?side1 ?side2 A23.out).mono ?_); (case side1 => repeat (first | exact (Kd.R_reads' HO_7.out).2.2 | (with_reducible refine Kd.C_alloc ?_ _) | (with_reducible refine Kd.C_drewN ?_ _) | (with_reducible refine Kd.C_drew ?_))); (case side2 => exact (Kd.R_reads' HO_7.out).2.1); rintro e w' ⟨rfl, ⟨nd, rfl⟩⟩; refine ⟨_, rfl, ?_⟩))
             go_meet
             case rel => exact ⟨_, (!t187), (au18), H', ⟨by have := HK1.out; have := HK2.out; have := HK3.out; have := HJ13.out; first | omega | exact Nat.le_refl _⟩, ⟨by (with_reducible repeat (first | apply Kd.R_alloc | apply Kd.R_drewN | apply Kd.R_drew)); first | exact Kd.R_mono HO_7.out (fun _ hk => hk.2) | exact Kd.R_mono (Kd.R_mono HO_7.out (fun _ hk => hk.2)) (fun _ h_ => h_.2)⟩, ⟨by (with_reducible repeat (first | apply Kd.R_alloc | apply Kd.R_drewN | apply Kd.R_drew)); first | exact Kd.R_mono HO185.out (fun _ hk => hk.2) | exact Kd.R_mono (Kd.R_mono HO185.out (fun _ hk => hk.2)) (fun _ h_ => h_.2)⟩, ⟨au35⟩, ⟨au9⟩⟩
            case rest =>
             clear HC20
             try clear c1
             try clear c2
             try clear p2
             try clear c3
             try clear c3b0
             try clear c5
             try clear c5b0
             try clear c5b1
             try clear p6
             try clear c11
             try clear c11b0
             try clear c11b1
             try clear c15
             try clear c15b0
             try clear c18
             try clear hcz10_0
             try clear hcz10_1
             try clear hcz10_2
             try clear hcz10_3
             try clear hcz13_0
             try clear hcz13_1
             try clear hcz13_2
             try clear hcz13_3
             try clear hcz16_0
             try clear hcz16_1
             try clear hcz16_2
             try clear hcz16_3
             try clear hcz17_0
             try clear hcz17_1
             try clear hcz17_2
             try clear hcz17_3
             try clear hcz21_0
             try clear hcz21_1
             try clear hcz21_2
             try clear hcz21_3
             try clear hcz6_0
             try clear hcz6_1
             try clear hcz6_2
             try clear hcz6_3
             try clear hcz8_0
             try clear hcz8_1
             try clear hcz8_2
             try clear hcz8_3
             try clear hfz10_0
             try clear hfz10_1
             try clear hfz10_2
             try clear hfz10_3
             try clear hfz13_0
             try clear hfz13_1
             try clear hfz13_2
             try clear hfz13_3
             try clear hfz16_0
             try clear hfz16_1
             try clear hfz16_2
             try clear hfz16_3
             try clear hfz17_0
             try clear hfz17_1
             try clear hfz17_2
             try clear hfz17_3
             try clear hfz21_0
             try clear hfz21_1
             try clear hfz21_2
             try clear hfz21_3
             try clear hfz6_0
             try clear hfz6_1
             try clear hfz6_2
             try clear hfz6_3
             try clear hfz8_0
             try clear hfz8_1
             try clear hfz8_2
             try clear hfz8_3
             try clear p2
             try clear p6
             obtain ⟨kq, x12_19, rfl, HA, HJ19, HO_7, HO_10, BK175, HB⟩ := hcut
             cases kq with
             | zero => exact absurd HA.out (by simp [capstanref11_Order.j4])
             | succ kj19 =>
              have H := HA.out
              clear HA
              simp only [capstanref11_Order.j4] at H
              have H' := Aside0.mk H
              clear H
              go_wp2
              go_loopg [12, 13] kj19 (fun kq v12 v13 w' => ∃ (x12_6 : Bool) (x13_6 : Int), v12 = .bool x12_6 ∧ v13 = .int .i64 x13_6 ∧ Aside0 (capstanref11_Order.l3 kq x7_2 x8_3 x9_3 t183 x12_6 x13_6 l0_0 l0_1 l0_2 a0_3 = some (r1, r2)) ∧ Aside0 (kq ≤ kj19) ∧ Aside0 (Kd.R (Kd.int .i64) 3 w' w.heap.size (fun k_ => some k_ ≠ (v184 : Value).ownBlock) (.slice Ao12 x7_2.length co12) x7_2) ∧ Aside0 (Kd.R (Kd.int .i64) 3 w' w.heap.size (fun k_ => some k_ ≠ ((.slice Ao12 x7_2.length co12) : Value).ownBlock) v184 t183) ∧ Aside0 (w'.heap[gb175]? = some (.cells #[(.slice A0_0 l0_0.length c0_0), (.slice A0_1 l0_1.length c0_1), (.slice A0_2 l0_2.length c0_2), .int .i64 a0_3] 25 (0, 0))) ∧ Aside0 (Below w.heap.size w w'))
              case atStart => exact ⟨(x12_19), (0), (au18), (au18), H', ⟨Nat.le_refl _⟩, ⟨au44⟩, ⟨au34⟩, ⟨au35⟩, ⟨au9⟩⟩
              case round =>
               clear H'
               try clear c1
               try clear c2
               try clear p2
               try clear c3
               try clear c3b0
               try clear c5
               try clear c5b0
               try clear c5b1
               try clear p6
               try clear c11
               try clear c11b0
               try clear c11b1
               try clear c15
               try clear c15b0
               try clear c18
               try clear hcz10_0
               try clear hcz10_1
               try clear hcz10_2
               try clear hcz10_3
               try clear hcz13_0
               try clear hcz13_1
               try clear hcz13_2
               try clear hcz13_3
               try clear hcz16_0
               try clear hcz16_1
               try clear hcz16_2
               try clear hcz16_3
               try clear hcz17_0
               try clear hcz17_1
               try clear hcz17_2
               try clear hcz17_3
               try clear hcz21_0
               try clear hcz21_1
               try clear hcz21_2
               try clear hcz21_3
               try clear hcz6_0
               try clear hcz6_1
               try clear hcz6_2
               try clear hcz6_3
               try clear hcz8_0
               try clear hcz8_1
               try clear hcz8_2
               try clear hcz8_3
               try clear hfz10_0
               try clear hfz10_1
               try clear hfz10_2
               try clear hfz10_3
               try clear hfz13_0
               try clear hfz13_1
               try clear hfz13_2
               try clear hfz13_3
               try clear hfz16_0
               try clear hfz16_1
               try clear hfz16_2
               try clear hfz16_3
               try clear hfz17_0
               try clear hfz17_1
               try clear hfz17_2
               try clear hfz17_3
               try clear hfz21_0
               try clear hfz21_1
               try clear hfz21_2
               try clear hfz21_3
               try clear hfz6_0
               try clear hfz6_1
               try clear hfz6_2
               try clear hfz6_3
               try clear hfz8_0
               try clear hfz8_1
               try clear hfz8_2
               try clear hfz8_3
               try clear p2
               try clear p6
               obtain ⟨x12_6, x13_6, rfl, rfl, HA, HK6, HO_7, HO_10, BK175, HB⟩ := hrel
               cases gk with
               | zero => exact absurd HA.out (by simp [capstanref11_Order.l3])
               | succ k6 =>
                have H := HA.out
                clear HA
                simp only [capstanref11_Order.l3] at H
                by_cases c24 : x13_6 < (t183.length : Int)
                ·
                 rw [if_pos c24] at H
                 have c24b0 : decide (x13_6 < (t183.length : Int)) = true := decide_eq_true c24
                 clear c24
                 by_cases c25 : x12_6 = true
                 ·
                  subst c25
                  have H1 : (if 0 ≤ x13_6 then ((capstanref11_has.f k6 x7_2 (rd t183 x13_6)).bind fun t189 => (capstanref11_Order.l3 k6 x7_2 x8_3 x9_3 t183 t189 (wrap64 (x13_6 + 1)) l0_0 l0_1 l0_2 a0_3)) else (none)) = some (r1, r2) := by rw [if_pos rfl] at H; exact H
                  clear H
                  have H := H1
                  clear H1
                  by_cases c26 : 0 ≤ x13_6
                  ·
                   rw [if_pos c26] at H
                   have c26b0 : decide (0 ≤ x13_6) = true := decide_eq_true c26
                   clear c26
                   replace H := Option.bind_eq_some_iff.mp H
                   obtain ⟨t189, A270, H⟩ := H
                   replace H : (capstanref11_Order.l3 k6 x7_2 x8_3 x9_3 t183 t189 (wrap64 (x13_6 + 1)) l0_0 l0_1 l0_2 a0_3) = some (r1, r2) := H
                   have A27 := Aside0.mk A270
                   clear A270
                   have H' := Aside0.mk H
                   clear H
                   obtain ⟨Ao28, co28, eo28⟩ := Kd.R_slice HO_10.out
                   subst eo28
                   have p188 : 0 ≤ (x13_6 : Int) := of_decide_eq_true (au3)
                   have q188 : x13_6 < (t183.length : Int) := of_decide_eq_true (au3)
                   obtain ⟨ad188, e188, hx188_0⟩ := Kd.at_int (Kd.R_reads' HO_10.out).2.2 x13_6 p188 q188
                   cases e188
                   replace p188 := eq_true p188
                   replace q188 := eq_true q188
                   go_wp2_with (first | (go_at_call 53; (with_reducible refine (capstanref11_has.calls k6 _ _ x7_2 (rd t183 x13_6) t189 _ ?side1 ?side2 A27.out).mono ?_); (case side1 => repeat (first | exact (Kd.R_reads' HO_7.out).2.2 | (with_reducible refine Kd.C_alloc ?_ _) | (with_reducible refine Kd.C_drewN ?_ _) | (with_reducible refine Kd.C_drew ?_))); (case side2 => exact (Kd.R_reads' HO_7.out).2.1); rintro e w' ⟨rfl, ⟨nd, rfl⟩⟩))
                   go_roundg k6
                   case measure => have := HK1.out; have := HK2.out; have := HK3.out; have := HJ13.out; have := HJ19.out; have := HK6.out; omega
                   case rel => exact ⟨(t189), (wrap64 (x13_6 + 1)), (au18), (au18), H', ⟨au105⟩, ⟨au44⟩, ⟨au34⟩, ⟨au35⟩, ⟨au9⟩⟩
                  ·
                   rw [if_neg c26] at H
                   exact absurd H (by simp)
                 ·
                  replace c25 := Bool.eq_false_iff.mpr c25
                  subst c25
                  have H1 : (capstanref11_Order.l3 k6 x7_2 x8_3 x9_3 t183 false (wrap64 (x13_6 + 1)) l0_0 l0_1 l0_2 a0_3) = some (r1, r2) := by rw [if_neg (show ¬ (false = true) by decide)] at H; exact H
                  clear H
                  have H := H1
                  clear H1
                  have H' := Aside0.mk H
                  clear H
                  obtain ⟨Ao29, co29, eo29⟩ := Kd.R_slice HO_10.out
                  subst eo29
                  go_wp2
                  go_roundg k6
                  case measure => have := HK1.out; have := HK2.out; have := HK3.out; have := HJ13.out; have := HJ19.out; have := HK6.out; omega
                  case rel => exact ⟨(false), (wrap64 (x13_6 + 1)), (au18), (au18), H', ⟨au105⟩, ⟨au44⟩, ⟨au34⟩, ⟨au35⟩, ⟨au9⟩⟩
                ·
                 rw [if_neg c24] at H
                 have c24b0 : decide (x13_6 < (t183.length : Int)) = false := decide_eq_false c24
                 clear c24
                 by_cases c30 : x12_6 = true
                 ·
                  subst c30
                  have H1 : (capstanref11_Order.l2 k6 x7_2 x9_3 (wrap64 (x9_3 + 1)) l0_0 l0_1 l0_2 a0_3) = some (r1, r2) := by rw [if_pos rfl] at H; exact H
                  clear H
                  have H := H1
                  clear H1
                  have H' := Aside0.mk H
                  clear H
                  obtain ⟨Ao31, co31, eo31⟩ := Kd.R_slice HO_10.out
                  subst eo31
                  go_wp2
                  go_roundg k6
                  case measure => have := HK1.out; have := HK2.out; have := HK3.out; have := HJ13.out; have := HJ19.out; have := HK6.out; omega
                  case rel => exact ⟨(x9_3), (wrap64 (x9_3 + 1)), (au18), (au18), H', ⟨au105⟩, ⟨by (with_reducible repeat (first | apply Kd.R_alloc | apply Kd.R_drewN | apply Kd.R_drew)); first | exact Kd.R_mono HO_7.out (fun _ hk => trivial) | exact Kd.R_mono (Kd.R_mono HO_7.out (fun _ hk => trivial)) (fun _ h_ => h_.2)⟩, ⟨au35⟩, ⟨au9⟩⟩
                 ·
                  replace c30 := Bool.eq_false_iff.mpr c30
                  subst c30
                  have H1 : (capstanref11_Order.l2 k6 x7_2 x8_3 (wrap64 (x9_3 + 1)) l0_0 l0_1 l0_2 a0_3) = some (r1, r2) := by rw [if_neg (show ¬ (false = true) by decide)] at H; exact H
                  clear H
                  have H := H1
                  clear H1
                  have H' := Aside0.mk H
                  clear H
                  obtain ⟨Ao32, co32, eo32⟩ := Kd.R_slice HO_10.out
                  subst eo32
                  go_wp2
                  go_roundg k6
                  case measure => have := HK1.out; have := HK2.out; have := HK3.out; have := HJ13.out; have := HJ19.out; have := HK6.out; omega
                  case rel => exact ⟨(x8_3), (wrap64 (x9_3 + 1)), (au18), (au18), H', ⟨au105⟩, ⟨by (with_reducible repeat (first | apply Kd.R_alloc | apply Kd.R_drewN | apply Kd.R_drew)); first | exact Kd.R_mono HO_7.out (fun _ hk => trivial) | exact Kd.R_mono (Kd.R_mono HO_7.out (fun _ hk => trivial)) (fun _ h_ => h_.2)⟩, ⟨au35⟩, ⟨au9⟩⟩
           ·
            replace c18 := Bool.eq_false_iff.mpr c18
            subst c18
            have H1 : (if x8_3 < 0 then (some (([] : List Int), 110)) else (if x7_2.length < 17592186044416 then (capstanref11_Order.l1 kj13 (x7_2 ++ [x8_3]) l0_0 l0_1 l0_2 a0_3) else (none))) = some (r1, r2) := by rw [if_neg (show ¬ (false = true) by decide)] at H; exact H
            clear H
            have H := H1
            clear H1
            by_cases c33 : x8_3 < 0
            ·
             rw [if_pos c33] at H
             have c33b0 : decide (x8_3 < 0) = true := decide_eq_true c33
             clear c33
             simp only [Option.some.injEq, Prod.mk.injEq] at H
             obtain ⟨rfl, rfl⟩ := H
             go_wp2
             go_ret2
             exact ⟨_, au19, au45, au9⟩
            ·
             rw [if_neg c33] at H
             have c33b0 : decide (x8_3 < 0) = false := decide_eq_false c33
             clear c33
             by_cases c34 : x7_2.length < 17592186044416
             ·
              rw [if_pos c34] at H
              have LMc34 := Aside0.mk c34
              clear c34
              obtain ⟨y180, hy180⟩ : ∃ y_ : List Int, y_ = (x7_2 ++ [x8_3]) := ⟨_, rfl⟩
              replace H : (capstanref11_Order.l1 kj13 y180 l0_0 l0_1 l0_2 a0_3) = some (r1, r2) := by first | (rw [hy180]; with_reducible exact H) | (have H2_ := (Option.bind_some _ _).symm.trans H; rw [hy180]; with_reducible exact H2_) | (have H2_ := (Option.bind_some _ _).symm.trans H; with_reducible exact H2_) | with_reducible exact H | (rw [hy180]; exact H) | exact H
              have Ny180 := Aside0.mk hy180
              clear hy180
              have H' := Aside0.mk H
              clear H
              go_wp2_with (first | ((with_reducible refine gate_builtin (b := .append) (xs := #[.tmp 76, .tmp 78]) rfl ?_); at_builtin; refine Kd.R_append (Kd.int .i64) (w0 := w) w.heap.size rfl (.tmp 76) (.tmp 78) 53 3 (.int .i64 0) 8 rfl Try.underlying53 info3 rfl (by decide) (by omega) (.slice Ao12 x7_2.length co12) x7_2 x8_3 [.int .i64 x8_3] (fun _ => True) (fun _ => False) rfl rfl ?aP (fun _ hk => hk.elim) ?aF ?aO ?aB ?aS ?aL ?_; (case aP => exact rfl); (case aB => exact (au9)); (case aF => exact (fun _ _ => trivial)); (case aO => exact (au44)); (case aS => exact (below_size (au9))); (case aL => have := LMc34.out; omega); intro v181 w35 ho hb hg hat; rw [← Ny180.out] at ho; have n0_ := Aside0.mk (blk_grown (g := gb175) (o := .cells #[.slice A0_0 l0_0.length c0_0, .slice A0_1 l0_1.length c0_1, .slice A0_2 l0_2.length c0_2, .int .i64 a0_3] 25 (0, 0)) (au35) hg (Kd.R_ne HO_7.out BK175.out (by decide))); have n1_ := Aside0.mk (hb); have n2_ := Aside0.mk (ho); clear BK175; clear HB; clear HO_7; have BK175 := n0_; have HB := n1_; have HO182 := n2_; clear n0_ n1_ n2_; clear ho hb hg hat))
              go_roundg kj13
              case measure => have := HK1.out; have := HK2.out; have := HK3.out; have := HJ13.out; omega
              case rel => exact ⟨(y180), H', ⟨by have := HK1.out; have := HK2.out; have := HK3.out; have := HJ13.out; omega⟩, ⟨by (with_reducible repeat (first | apply Kd.R_alloc | apply Kd.R_drewN | apply Kd.R_drew)); first | exact HO182.out | exact Kd.R_mono (HO182.out) (fun _ h_ => h_.2)⟩, ⟨au35⟩, ⟨au9⟩⟩
             ·
              rw [if_neg c34] at H
              exact absurd H (by simp)
      ·
       rw [if_neg c11] at H
       have c11b0 : decide ((x7_2.length : Int) < (l0_2.length : Int)) = false := decide_eq_false c11
       have c11b1 : decide (x7_2.length < l0_2.length) = false := decide_eq_false (fun h => c11 (Int.ofNat_lt.mpr h))
       clear c11
       simp only [Option.some.injEq, Prod.mk.injEq] at H
       obtain ⟨rfl, rfl⟩ := H
       obtain ⟨Ao36, co36, eo36⟩ := Kd.R_slice HO_7.out
       subst eo36
       obtain ⟨hcz37_0, hcz37_1, hcz37_2, hcz37_3, hfz37_0, hfz37_1, hfz37_2, hfz37_3⟩ := blk_all4 BK175.out
       go_wp2
       go_ret2
       exact ⟨_, au19, au44, au9⟩

end Go.Proofs.Ytkmnachdibhdhaa.P
