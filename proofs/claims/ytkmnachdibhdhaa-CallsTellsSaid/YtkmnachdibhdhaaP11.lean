/- Contracts of the functions of this seat (each: the call of the function does what the plain Lean function of the same name tells; the conditions stand in each statement). Written by a program of this session and by hand; checked by Lean. -/
import Derived.Test.YtkmnachdibhdhaaP0
import Derived.Test.YtkmnachdibhdhaaP7
import Derived.Test.YtkmnachdibhdhaaP10
namespace Go.Proofs.Ytkmnachdibhdhaa.P
open Go.RowKit Go.Proofs.YtkmnachdibhdhaaW.PrintWords Go.Proofs.YtkmnachdibhdhaaW.PrintLast Go.Proofs.YtkmnachdibhdhaaW.PrintMore
attribute [local go_sem] max2_int min2_int max_two min_two max_three min_three max_four min_four   -- for this text's walks alone
set_option linter.unusedVariables false
set_option linter.unusedSimpArgs false

/-! ### capstanref11_Leads: function 27 -/
mutual
def capstanref11_Leads.j0 : Nat → Int → Bool → List (S86) → List (S86) → List (S52) → Int → Option (List Int × Int)
 | 0, _, _, _, _, _, _ => none
 | k + 1, x1, x30, x191000, x191001, x191002, x191003 => if x30 = true then (some (([] : List Int), 2)) else (if 0 ≤ (x191002.length : Int) then (if ((x191002.length : Int) : Int).toNat ≤ 281474976710656 then (capstanref11_Leads.l0 k x1 (List.replicate ((x191002.length : Int) : Int).toNat false) 0 x191000 x191001 x191002 x191003) else (none)) else (none))
def capstanref11_Leads.l0 : Nat → Int → List Bool → Int → List (S86) → List (S86) → List (S52) → Int → Option (List Int × Int)
 | 0, _, _, _, _, _, _, _ => none
 | k + 1, x1, x8, x9, x191000, x191001, x191002, x191003 => if x9 ≤ (x191002.length : Int) then (capstanref11_Leads.l1 k x1 x8 x9 0 x191000 x191001 x191002 x191003) else (capstanref11_Leads.l3 k x8 ([] : List Int) 0)
def capstanref11_Leads.l1 : Nat → Int → List Bool → Int → Int → List (S86) → List (S86) → List (S52) → Int → Option (List Int × Int)
 | 0, _, _, _, _, _, _, _, _ => none
 | k + 1, x1, x8, x9, x10, x191000, x191001, x191002, x191003 => if x10 < (x191002.length : Int) then (if 0 ≤ x10 then (if x10 < (x8.length : Int) then (if rdOf false x8 x10 = true then (capstanref11_Leads.j3 k x1 (x8.set (x10 : Int).toNat true) x9 x10 x191000 x191001 x191002 x191003) else (if 0 ≤ x1 then (if x1 < (x191002.length : Int) then ((capstanref11_calls.f k ((rd_T52 x191002 x1).f0) ((rd_T52 x191002 x1).f1) ((rd_T52 x191002 x1).f2) ((rd_T52 x191002 x1).f3) ((rd_T52 x191002 x1).f4) ((rd_T52 x191002 x1).f5) ((rd_T52 x191002 x1).f6) ((rd_T52 x191002 x1).f7) x10).bind fun t201 => (capstanref11_Leads.j3 k x1 (x8.set (x10 : Int).toNat t201) x9 x10 x191000 x191001 x191002 x191003)) else (none)) else (none))) else (none)) else (none)) else (capstanref11_Leads.l0 k x1 x8 (wrap64 (x9 + 1)) x191000 x191001 x191002 x191003)
def capstanref11_Leads.j3 : Nat → Int → List Bool → Int → Int → List (S86) → List (S86) → List (S52) → Int → Option (List Int × Int)
 | 0, _, _, _, _, _, _, _, _ => none
 | k + 1, x1, x8, x9, x10, x191000, x191001, x191002, x191003 => capstanref11_Leads.l2 k x1 x8 x9 x10 0 x191000 x191001 x191002 x191003
def capstanref11_Leads.l2 : Nat → Int → List Bool → Int → Int → Int → List (S86) → List (S86) → List (S52) → Int → Option (List Int × Int)
 | 0, _, _, _, _, _, _, _, _, _ => none
 | k + 1, x1, x8, x9, x10, x11, x191000, x191001, x191002, x191003 => if x11 < (x191002.length : Int) then (if 0 ≤ x10 then (if x10 < (x8.length : Int) then (if rdOf false x8 x10 = true then (capstanref11_Leads.l2 k x1 (x8.set (x10 : Int).toNat true) x9 x10 (wrap64 (x11 + 1)) x191000 x191001 x191002 x191003) else (if 0 ≤ x11 then (if x11 < (x8.length : Int) then (if rdOf false x8 x11 = true then ((capstanref11_calls.f k ((rd_T52 x191002 x11).f0) ((rd_T52 x191002 x11).f1) ((rd_T52 x191002 x11).f2) ((rd_T52 x191002 x11).f3) ((rd_T52 x191002 x11).f4) ((rd_T52 x191002 x11).f5) ((rd_T52 x191002 x11).f6) ((rd_T52 x191002 x11).f7) x10).bind fun t207 => (capstanref11_Leads.l2 k x1 (x8.set (x10 : Int).toNat t207) x9 x10 (wrap64 (x11 + 1)) x191000 x191001 x191002 x191003)) else (capstanref11_Leads.l2 k x1 (x8.set (x10 : Int).toNat false) x9 x10 (wrap64 (x11 + 1)) x191000 x191001 x191002 x191003)) else (none)) else (none))) else (none)) else (none)) else (capstanref11_Leads.l1 k x1 x8 x9 (wrap64 (x10 + 1)) x191000 x191001 x191002 x191003)
def capstanref11_Leads.l3 : Nat → List Bool → List Int → Int → Option (List Int × Int)
 | 0, _, _, _ => none
 | k + 1, x8, x12, x13 => if x13 < (x8.length : Int) then (if 0 ≤ x13 then (if rdOf false x8 x13 = true then (if x12.length < 17592186044416 then (capstanref11_Leads.l3 k x8 (x12 ++ [x13]) (wrap64 (x13 + 1))) else (none)) else (capstanref11_Leads.l3 k x8 x12 (wrap64 (x13 + 1)))) else (none)) else (some (x12, 0))
end
def capstanref11_Leads.f (k : Nat) (l0_0 : List (S86)) (l0_1 : List (S86)) (l0_2 : List (S52)) (a0_3 : Int) (a1 : Int) : Option (List Int × Int) := (capstanref11_Order.f k l0_0 l0_1 l0_2 a0_3).bind fun bt191 => (if bt191.2 = 0 then (if a1 < 0 then (capstanref11_Leads.j0 k a1 true l0_0 l0_1 l0_2 a0_3) else (capstanref11_Leads.j0 k a1 (decide (a1 ≥ (l0_2.length : Int))) l0_0 l0_1 l0_2 a0_3)) else (some (([] : List Int), bt191.2)))
theorem capstanref11_Leads.mono_l : ∀ k, (∀ y0 y1 y2 y3 y4 y5, LeO (capstanref11_Leads.j0 k y0 y1 y2 y3 y4 y5) (capstanref11_Leads.j0 (k + 1) y0 y1 y2 y3 y4 y5)) ∧ (∀ y0 y1 y2 y3 y4 y5 y6, LeO (capstanref11_Leads.l0 k y0 y1 y2 y3 y4 y5 y6) (capstanref11_Leads.l0 (k + 1) y0 y1 y2 y3 y4 y5 y6)) ∧ (∀ y0 y1 y2 y3 y4 y5 y6 y7, LeO (capstanref11_Leads.l1 k y0 y1 y2 y3 y4 y5 y6 y7) (capstanref11_Leads.l1 (k + 1) y0 y1 y2 y3 y4 y5 y6 y7)) ∧ (∀ y0 y1 y2 y3 y4 y5 y6 y7, LeO (capstanref11_Leads.j3 k y0 y1 y2 y3 y4 y5 y6 y7) (capstanref11_Leads.j3 (k + 1) y0 y1 y2 y3 y4 y5 y6 y7)) ∧ (∀ y0 y1 y2 y3 y4 y5 y6 y7 y8, LeO (capstanref11_Leads.l2 k y0 y1 y2 y3 y4 y5 y6 y7 y8) (capstanref11_Leads.l2 (k + 1) y0 y1 y2 y3 y4 y5 y6 y7 y8)) ∧ (∀ y0 y1 y2, LeO (capstanref11_Leads.l3 k y0 y1 y2) (capstanref11_Leads.l3 (k + 1) y0 y1 y2))
 | 0 => ⟨fun _ _ _ _ _ _ r h => by simp [capstanref11_Leads.j0] at h, fun _ _ _ _ _ _ _ r h => by simp [capstanref11_Leads.l0] at h, fun _ _ _ _ _ _ _ _ r h => by simp [capstanref11_Leads.l1] at h, fun _ _ _ _ _ _ _ _ r h => by simp [capstanref11_Leads.j3] at h, fun _ _ _ _ _ _ _ _ _ r h => by simp [capstanref11_Leads.l2] at h, fun _ _ _ r h => by simp [capstanref11_Leads.l3] at h⟩
 | k + 1 => by
  obtain ⟨ih0, ih1, ih2, ih3, ih4, ih5⟩ := capstanref11_Leads.mono_l k
  refine ⟨?_, ?_, ?_, ?_, ?_, ?_⟩
  ·
   intro y0 y1 y2 y3 y4 y5
   unfold capstanref11_Leads.j0
   repeat' first
   | (with_reducible exact ih0 _ _ _ _ _ _)
   | (with_reducible exact ih1 _ _ _ _ _ _ _)
   | (with_reducible exact ih2 _ _ _ _ _ _ _ _)
   | (with_reducible exact ih3 _ _ _ _ _ _ _ _)
   | (with_reducible exact ih4 _ _ _ _ _ _ _ _ _)
   | (with_reducible exact ih5 _ _ _)
   | (with_reducible exact capstanref11_Order.mono _ _ _ _ _)
   | (with_reducible exact capstanref11_calls.mono _ _ _ _ _ _ _ _ _ _)
   | (with_reducible exact LeO.refl _)
   | (with_reducible exact LeO.none _)
   | (with_reducible refine LeO.ite ?_ ?_)
   | (with_reducible refine LeO.bind ?_ (fun _ => ?_))
   | exact ih0 _ _ _ _ _ _
   | exact ih1 _ _ _ _ _ _ _
   | exact ih2 _ _ _ _ _ _ _ _
   | exact ih3 _ _ _ _ _ _ _ _
   | exact ih4 _ _ _ _ _ _ _ _ _
   | exact ih5 _ _ _
   | exact capstanref11_Order.mono _ _ _ _ _
   | exact capstanref11_calls.mono _ _ _ _ _ _ _ _ _ _
   | exact LeO.none _
   | refine LeO.ite ?_ ?_
   | refine LeO.bind ?_ (fun _ => ?_)
  ·
   intro y0 y1 y2 y3 y4 y5 y6
   unfold capstanref11_Leads.l0
   repeat' first
   | (with_reducible exact ih0 _ _ _ _ _ _)
   | (with_reducible exact ih1 _ _ _ _ _ _ _)
   | (with_reducible exact ih2 _ _ _ _ _ _ _ _)
   | (with_reducible exact ih3 _ _ _ _ _ _ _ _)
   | (with_reducible exact ih4 _ _ _ _ _ _ _ _ _)
   | (with_reducible exact ih5 _ _ _)
   | (with_reducible exact capstanref11_Order.mono _ _ _ _ _)
   | (with_reducible exact capstanref11_calls.mono _ _ _ _ _ _ _ _ _ _)
   | (with_reducible exact LeO.refl _)
   | (with_reducible exact LeO.none _)
   | (with_reducible refine LeO.ite ?_ ?_)
   | (with_reducible refine LeO.bind ?_ (fun _ => ?_))
   | exact ih0 _ _ _ _ _ _
   | exact ih1 _ _ _ _ _ _ _
   | exact ih2 _ _ _ _ _ _ _ _
   | exact ih3 _ _ _ _ _ _ _ _
   | exact ih4 _ _ _ _ _ _ _ _ _
   | exact ih5 _ _ _
   | exact capstanref11_Order.mono _ _ _ _ _
   | exact capstanref11_calls.mono _ _ _ _ _ _ _ _ _ _
   | exact LeO.none _
   | refine LeO.ite ?_ ?_
   | refine LeO.bind ?_ (fun _ => ?_)
  ·
   intro y0 y1 y2 y3 y4 y5 y6 y7
   unfold capstanref11_Leads.l1
   repeat' first
   | (with_reducible exact ih0 _ _ _ _ _ _)
   | (with_reducible exact ih1 _ _ _ _ _ _ _)
   | (with_reducible exact ih2 _ _ _ _ _ _ _ _)
   | (with_reducible exact ih3 _ _ _ _ _ _ _ _)
   | (with_reducible exact ih4 _ _ _ _ _ _ _ _ _)
   | (with_reducible exact ih5 _ _ _)
   | (with_reducible exact capstanref11_Order.mono _ _ _ _ _)
   | (with_reducible exact capstanref11_calls.mono _ _ _ _ _ _ _ _ _ _)
   | (with_reducible exact LeO.refl _)
   | (with_reducible exact LeO.none _)
   | (with_reducible refine LeO.ite ?_ ?_)
   | (with_reducible refine LeO.bind ?_ (fun _ => ?_))
   | exact ih0 _ _ _ _ _ _
   | exact ih1 _ _ _ _ _ _ _
   | exact ih2 _ _ _ _ _ _ _ _
   | exact ih3 _ _ _ _ _ _ _ _
   | exact ih4 _ _ _ _ _ _ _ _ _
   | exact ih5 _ _ _
   | exact capstanref11_Order.mono _ _ _ _ _
   | exact capstanref11_calls.mono _ _ _ _ _ _ _ _ _ _
   | exact LeO.none _
   | refine LeO.ite ?_ ?_
   | refine LeO.bind ?_ (fun _ => ?_)
  ·
   intro y0 y1 y2 y3 y4 y5 y6 y7
   unfold capstanref11_Leads.j3
   repeat' first
   | (with_reducible exact ih0 _ _ _ _ _ _)
   | (with_reducible exact ih1 _ _ _ _ _ _ _)
   | (with_reducible exact ih2 _ _ _ _ _ _ _ _)
   | (with_reducible exact ih3 _ _ _ _ _ _ _ _)
   | (with_reducible exact ih4 _ _ _ _ _ _ _ _ _)
   | (with_reducible exact ih5 _ _ _)
   | (with_reducible exact capstanref11_Order.mono _ _ _ _ _)
   | (with_reducible exact capstanref11_calls.mono _ _ _ _ _ _ _ _ _ _)
   | (with_reducible exact LeO.refl _)
   | (with_reducible exact LeO.none _)
   | (with_reducible refine LeO.ite ?_ ?_)
   | (with_reducible refine LeO.bind ?_ (fun _ => ?_))
   | exact ih0 _ _ _ _ _ _
   | exact ih1 _ _ _ _ _ _ _
   | exact ih2 _ _ _ _ _ _ _ _
   | exact ih3 _ _ _ _ _ _ _ _
   | exact ih4 _ _ _ _ _ _ _ _ _
   | exact ih5 _ _ _
   | exact capstanref11_Order.mono _ _ _ _ _
   | exact capstanref11_calls.mono _ _ _ _ _ _ _ _ _ _
   | exact LeO.none _
   | refine LeO.ite ?_ ?_
   | refine LeO.bind ?_ (fun _ => ?_)
  ·
   intro y0 y1 y2 y3 y4 y5 y6 y7 y8
   unfold capstanref11_Leads.l2
   repeat' first
   | (with_reducible exact ih0 _ _ _ _ _ _)
   | (with_reducible exact ih1 _ _ _ _ _ _ _)
   | (with_reducible exact ih2 _ _ _ _ _ _ _ _)
   | (with_reducible exact ih3 _ _ _ _ _ _ _ _)
   | (with_reducible exact ih4 _ _ _ _ _ _ _ _ _)
   | (with_reducible exact ih5 _ _ _)
   | (with_reducible exact capstanref11_Order.mono _ _ _ _ _)
   | (with_reducible exact capstanref11_calls.mono _ _ _ _ _ _ _ _ _ _)
   | (with_reducible exact LeO.refl _)
   | (with_reducible exact LeO.none _)
   | (with_reducible refine LeO.ite ?_ ?_)
   | (with_reducible refine LeO.bind ?_ (fun _ => ?_))
   | exact ih0 _ _ _ _ _ _
   | exact ih1 _ _ _ _ _ _ _
   | exact ih2 _ _ _ _ _ _ _ _
   | exact ih3 _ _ _ _ _ _ _ _
   | exact ih4 _ _ _ _ _ _ _ _ _
   | exact ih5 _ _ _
   | exact capstanref11_Order.mono _ _ _ _ _
   | exact capstanref11_calls.mono _ _ _ _ _ _ _ _ _ _
   | exact LeO.none _
   | refine LeO.ite ?_ ?_
   | refine LeO.bind ?_ (fun _ => ?_)
  ·
   intro y0 y1 y2
   unfold capstanref11_Leads.l3
   repeat' first
   | (with_reducible exact ih0 _ _ _ _ _ _)
   | (with_reducible exact ih1 _ _ _ _ _ _ _)
   | (with_reducible exact ih2 _ _ _ _ _ _ _ _)
   | (with_reducible exact ih3 _ _ _ _ _ _ _ _)
   | (with_reducible exact ih4 _ _ _ _ _ _ _ _ _)
   | (with_reducible exact ih5 _ _ _)
   | (with_reducible exact capstanref11_Order.mono _ _ _ _ _)
   | (with_reducible exact capstanref11_calls.mono _ _ _ _ _ _ _ _ _ _)
   | (with_reducible exact LeO.refl _)
   | (with_reducible exact LeO.none _)
   | (with_reducible refine LeO.ite ?_ ?_)
   | (with_reducible refine LeO.bind ?_ (fun _ => ?_))
   | exact ih0 _ _ _ _ _ _
   | exact ih1 _ _ _ _ _ _ _
   | exact ih2 _ _ _ _ _ _ _ _
   | exact ih3 _ _ _ _ _ _ _ _
   | exact ih4 _ _ _ _ _ _ _ _ _
   | exact ih5 _ _ _
   | exact capstanref11_Order.mono _ _ _ _ _
   | exact capstanref11_calls.mono _ _ _ _ _ _ _ _ _ _
   | exact LeO.none _
   | refine LeO.ite ?_ ?_
   | refine LeO.bind ?_ (fun _ => ?_)
theorem capstanref11_Leads.mono : ∀ a0 a1 a2 a3 a4 k, LeO (capstanref11_Leads.f k a0 a1 a2 a3 a4) (capstanref11_Leads.f (k + 1) a0 a1 a2 a3 a4) := by
 intro a0 a1 a2 a3 a4 k
 obtain ⟨ih0, ih1, ih2, ih3, ih4, ih5⟩ := capstanref11_Leads.mono_l k
 unfold capstanref11_Leads.f
 repeat' first
   | (with_reducible exact ih0 _ _ _ _ _ _)
   | (with_reducible exact ih1 _ _ _ _ _ _ _)
   | (with_reducible exact ih2 _ _ _ _ _ _ _ _)
   | (with_reducible exact ih3 _ _ _ _ _ _ _ _)
   | (with_reducible exact ih4 _ _ _ _ _ _ _ _ _)
   | (with_reducible exact ih5 _ _ _)
   | (with_reducible exact capstanref11_Order.mono _ _ _ _ _)
   | (with_reducible exact capstanref11_calls.mono _ _ _ _ _ _ _ _ _ _)
   | (with_reducible exact LeO.refl _)
   | (with_reducible exact LeO.none _)
   | (with_reducible refine LeO.ite ?_ ?_)
   | (with_reducible refine LeO.bind ?_ (fun _ => ?_))
   | exact ih0 _ _ _ _ _ _
   | exact ih1 _ _ _ _ _ _ _
   | exact ih2 _ _ _ _ _ _ _ _
   | exact ih3 _ _ _ _ _ _ _ _
   | exact ih4 _ _ _ _ _ _ _ _ _
   | exact ih5 _ _ _
   | exact capstanref11_Order.mono _ _ _ _ _
   | exact capstanref11_calls.mono _ _ _ _ _ _ _ _ _ _
   | exact LeO.none _
   | refine LeO.ite ?_ ?_
   | refine LeO.bind ?_ (fun _ => ?_)
set_option maxHeartbeats 8000000 in
set_option maxRecDepth 100000 in
theorem capstanref11_Leads.calls (k : Nat) (A0_0 : Option Addr) (c0_0 : Nat) (l0_0 : List (S86)) (A0_1 : Option Addr) (c0_1 : Nat) (l0_1 : List (S86)) (A0_2 : Option Addr) (c0_2 : Nat) (l0_2 : List (S52)) (a0_3 : Int) (a1 : Int) (r1 : List Int) (r2 : Int) (w : World) (hr0_0 : Kd.C k86 w A0_0 l0_0.length l0_0) (hc0_0 : l0_0.length ≤ c0_0) (hr0_1 : Kd.C k86 w A0_1 l0_1.length l0_1) (hc0_1 : l0_1.length ≤ c0_1) (hr0_2 : Kd.C k52 w A0_2 l0_2.length l0_2) (hc0_2 : l0_2.length ≤ c0_2) (h : capstanref11_Leads.f k l0_0 l0_1 l0_2 a0_3 a1 = some (r1, r2)) :
  Calls Try.prog 27 #[.agg #[.slice A0_0 l0_0.length c0_0, .slice A0_1 l0_1.length c0_1, .slice A0_2 l0_2.length c0_2, .int .i64 a0_3], .int .i64 a1] w fun e w' => ∃ v0_ : Value, e = .returned (.tuple #[v0_, .int .i64 r2]) ∧ Kd.R (Kd.int .i64) 3 w' w.heap.size (fun _ => True) v0_ r1 ∧ Below w.heap.size w w' := by
 have hu25 := Try.underlying25
 have hu52 := Try.underlying52
 have HR0_0 := Aside0.mk hr0_0
 have HC0_0 := Aside0.mk hc0_0
 clear hr0_0 hc0_0
 have HR0_1 := Aside0.mk hr0_1
 have HC0_1 := Aside0.mk hc0_1
 clear hr0_1 hc0_1
 have HR0_2 := Aside0.mk hr0_2
 have HC0_2 := Aside0.mk hc0_2
 clear hr0_2 hc0_2
 have HB := Aside0.mk (Below.refl w.heap.size w)
 have H : ((capstanref11_Order.f k l0_0 l0_1 l0_2 a0_3).bind fun bt191 => (if bt191.2 = 0 then (if a1 < 0 then (capstanref11_Leads.j0 k a1 true l0_0 l0_1 l0_2 a0_3) else (capstanref11_Leads.j0 k a1 (decide (a1 ≥ (l0_2.length : Int))) l0_0 l0_1 l0_2 a0_3)) else (some (([] : List Int), bt191.2)))) = some (r1, r2) := h
 clear h
 replace H := Option.bind_eq_some_iff.mp H
 obtain ⟨⟨t191, t194⟩, A30, H⟩ := H
 replace H : (if t194 = 0 then (if a1 < 0 then (capstanref11_Leads.j0 k a1 true l0_0 l0_1 l0_2 a0_3) else (capstanref11_Leads.j0 k a1 (decide (a1 ≥ (l0_2.length : Int))) l0_0 l0_1 l0_2 a0_3)) else (some (([] : List Int), t194))) = some (r1, r2) := H
 have A3 := Aside0.mk A30
 clear A30
 by_cases c4 : t194 = 0
 ·
  rw [if_pos c4] at H
  have c4b0 : (t194 == 0) = true := beq_iff_eq.mpr c4
  have c4b1 : (t194 != 0) = false := bne_eq_false_iff_eq.mpr c4
  clear c4
  have HC5 := Aside0.mk H
  clear H
  go_enter Try.func27, Try.ntmps27
  go_upto_region 4 with (first | ((with_reducible refine gate_dst (N := 2) rfl ?_); (try (refine gate_guard (by rfl) ?_; dsimp only)); refine box_event ?hg (N := 2) ?hd (cs := #[.slice A0_0 l0_0.length c0_0, .slice A0_1 l0_1.length c0_1, .slice A0_2 l0_2.length c0_2, .int .i64 a0_3]) (t := 25) ?hr ?_; (case hd => rfl); (case hg => rfl); (case hr => first | (go_simp; done) | (go_simp; rfl)); intro gb190 hg w6 hbox hb; have n0_ := Aside0.mk (below_step (au1) hb); have n1_ := Aside0.mk (hbox); have n2_ := Aside0.mk ((au37 : w.heap.size ≤ gb190)); have n3_ := Aside0.mk ((au37 : w.heap.size ≤ gb190)); clear HB; have HB := n0_; have BK190 := n1_; have GW190 := n2_; have GE190 := n3_; clear n0_ n1_ n2_ n3_; clear hb hbox hg; obtain ⟨hcz7_0, hcz7_1, hcz7_2, hcz7_3, hfz7_0, hfz7_1, hfz7_2, hfz7_3⟩ := blk_all4 BK190.out) | ((with_reducible refine gate_callee (f := 26) rfl ?_); refine goesL_ (some 16) rfl rfl Try.func26 (by kernel_rfl) rfl #[.agg #[.slice A0_0 l0_0.length c0_0, .slice A0_1 l0_1.length c0_1, .slice A0_2 l0_2.length c0_2, .int .i64 a0_3]] rfl (au6) ?_; (with_reducible refine (capstanref11_Order.calls k _ _ l0_0 _ _ l0_1 _ _ l0_2 a0_3 t191 t194 _ ?side1 ?side2 ?side3 ?side4 ?side5 ?side6 A3.out).mono ?_); (case side1 => exact au7); (case side2 => exact HC0_0.out); (case side3 => exact au15); (case side4 => exact HC0_1.out); (case side5 => exact au17); (case side6 => exact HC0_2.out); rintro e w8 ⟨v192, rfl, ho0, hb⟩; refine ⟨_, rfl, ?_⟩; have n0_ := Aside0.mk (Kd.R_lower ho0 (below_size (au5))); have n1_ := Aside0.mk (blk_below (g := gb190) (o := .cells #[.slice A0_0 l0_0.length c0_0, .slice A0_1 l0_1.length c0_1, .slice A0_2 l0_2.length c0_2, .int .i64 a0_3] 25 (0, 0)) (au22) hb); have n2_ := Aside0.mk (below_step (au5) hb); clear BK190; clear HB; have HO193 := n0_; have BK190 := n1_; have HB := n2_; clear n0_ n1_ n2_; (try clear hb); (try clear hb2); (try clear hk); (try clear hi); (try clear ho0)))
  (try simp only [Act.put, List.setIfInBounds_toArray, List.set_cons_zero, List.set_cons_succ])
  go_cut [30] (fun v30 wc => ∃ (kq : Nat) (x30_4 : Bool), v30 = .bool x30_4 ∧ Aside0 (capstanref11_Leads.j0 kq a1 x30_4 l0_0 l0_1 l0_2 a0_3 = some (r1, r2)) ∧ Aside0 (kq ≤ k) ∧ Aside0 (wc.heap[gb190]? = some (.cells #[(.slice A0_0 l0_0.length c0_0), (.slice A0_1 l0_1.length c0_1), (.slice A0_2 l0_2.length c0_2), .int .i64 a0_3] 25 (0, 0))) ∧ Aside0 (Below w.heap.size w wc))
  case first =>
   have H := HC5.out
   clear HC5
   by_cases c9 : a1 < 0
   ·
    rw [if_pos c9] at H
    have c9b0 : decide (a1 < 0) = true := decide_eq_true c9
    clear c9
    (first | rw [c9b0] | (simp only [i64_w, i32_w]; rw [c9b0]) | skip)
    have H' := Aside0.mk H
    clear H
    go_wp2
    go_meet
    case rel => exact ⟨_, (true), (au18), H', ⟨au104⟩, ⟨au22⟩, ⟨au5⟩⟩
   ·
    rw [if_neg c9] at H
    have c9b0 : decide (a1 < 0) = false := decide_eq_false c9
    clear c9
    (first | rw [c9b0] | (simp only [i64_w, i32_w]; rw [c9b0]) | skip)
    have H' := Aside0.mk H
    clear H
    obtain ⟨hcz10_0, hcz10_1, hcz10_2, hcz10_3, hfz10_0, hfz10_1, hfz10_2, hfz10_3⟩ := blk_all4 BK190.out
    go_wp2
    go_meet
    case rel => exact ⟨_, (decide (a1 ≥ (l0_2.length : Int))), (au18), H', ⟨au104⟩, ⟨au22⟩, ⟨au5⟩⟩
  case rest =>
   clear HC5
   try clear c2
   try clear p2
   try clear c4
   try clear c4b0
   try clear c4b1
   try clear c9
   try clear c9b0
   try clear hcz10_0
   try clear hcz10_1
   try clear hcz10_2
   try clear hcz10_3
   try clear hcz7_0
   try clear hcz7_1
   try clear hcz7_2
   try clear hcz7_3
   try clear hfz10_0
   try clear hfz10_1
   try clear hfz10_2
   try clear hfz10_3
   try clear hfz7_0
   try clear hfz7_1
   try clear hfz7_2
   try clear hfz7_3
   obtain ⟨kq, x30_4, rfl, HA, HJ4, BK190, HB⟩ := hcut
   cases kq with
   | zero => exact absurd HA.out (by simp [capstanref11_Leads.j0])
   | succ kj4 =>
    have H := HA.out
    clear HA
    simp only [capstanref11_Leads.j0] at H
    by_cases c11 : x30_4 = true
    ·
     subst c11
     have H1 : (some (([] : List Int), 2)) = some (r1, r2) := by rw [if_pos rfl] at H; exact H
     clear H
     have H := H1
     clear H1
     simp only [Option.some.injEq, Prod.mk.injEq] at H
     obtain ⟨rfl, rfl⟩ := H
     go_wp2
     go_ret2
     exact ⟨_, au19, au45, au5⟩
    ·
     replace c11 := Bool.eq_false_iff.mpr c11
     subst c11
     have H1 : (if 0 ≤ (l0_2.length : Int) then (if ((l0_2.length : Int) : Int).toNat ≤ 281474976710656 then (capstanref11_Leads.l0 kj4 a1 (List.replicate ((l0_2.length : Int) : Int).toNat false) 0 l0_0 l0_1 l0_2 a0_3) else (none)) else (none)) = some (r1, r2) := by rw [if_neg (show ¬ (false = true) by decide)] at H; exact H
     clear H
     have H := H1
     clear H1
     by_cases c12 : 0 ≤ (l0_2.length : Int)
     ·
      rw [if_pos c12] at H
      have c12b0 := eq_true c12
      have c12b1 : decide (0 ≤ (l0_2.length : Int)) = true := decide_eq_true c12
      clear c12
      by_cases c13 : ((l0_2.length : Int) : Int).toNat ≤ 281474976710656
      ·
       rw [if_pos c13] at H
       have c13b0 := eq_true c13
       have c13b1 : decide (((l0_2.length : Int) : Int).toNat ≤ 281474976710656) = true := decide_eq_true c13
       clear c13
       obtain ⟨y195, hy195⟩ : ∃ y_ : List Bool, y_ = (List.replicate ((l0_2.length : Int) : Int).toNat false) := ⟨_, rfl⟩
       replace H : (capstanref11_Leads.l0 kj4 a1 y195 0 l0_0 l0_1 l0_2 a0_3) = some (r1, r2) := by first | (rw [hy195]; with_reducible exact H) | (have H2_ := (Option.bind_some _ _).symm.trans H; rw [hy195]; with_reducible exact H2_) | (have H2_ := (Option.bind_some _ _).symm.trans H; with_reducible exact H2_) | with_reducible exact H | (rw [hy195]; exact H) | exact H
       have Ny195 := Aside0.mk hy195
       clear hy195
       have H' := Aside0.mk H
       clear H
       obtain ⟨hcz14_0, hcz14_1, hcz14_2, hcz14_3, hfz14_0, hfz14_1, hfz14_2, hfz14_3⟩ := blk_all4 BK190.out
       go_wp2_with (first | ((with_reducible refine gate_dst (N := 34) rfl ?_); (try (refine gate_guard (by rfl) ?_; dsimp only)); refine Kd.R_make Kd.bool _ 4 rfl (N := 34) rfl 30 _ _ rfl (l0_2.length : Int) rfl rfl Try.underlying30 (.bool false) 1 info4 rfl (by decide) (by omega) false (ok := fun _ => True) (okp := fun _ => True) rfl (fun _ hk => hk) trivial (of_decide_eq_true (au3)) (Nat.le_trans (Nat.mul_le_mul_right _ (of_decide_eq_true (au3) : (l0_2.length : Int).toNat ≤ 281474976710656)) (by omega)) (Below.refl _ _) (Nat.le_refl _) ?_; intro v196 w15 ho16 hb hg_ hnew_; clear hg_ hnew_; (first | rw [← Ny195.out] at ho16 | (simp only [Int.reduceToNat] at ho16; rw [← Ny195.out] at ho16)); have n0_ := Aside0.mk (Kd.R_lower ho16 (below_size (au5))); have n1_ := Aside0.mk (blk_below (g := gb190) (o := .cells #[.slice A0_0 l0_0.length c0_0, .slice A0_1 l0_1.length c0_1, .slice A0_2 l0_2.length c0_2, .int .i64 a0_3] 25 (0, 0)) (au22) hb); have n2_ := Aside0.mk (below_step (au5) hb); clear BK190; clear HB; have HO197 := n0_; have BK190 := n1_; have HB := n2_; clear n0_ n1_ n2_; clear hb ho16))
       go_loopg [9] kj4 (fun kq v9 w' => ∃ (x8_2 : List Bool) (x9_2 : Int), v9 = .int .i64 x9_2 ∧ Aside0 (capstanref11_Leads.l0 kq a1 x8_2 x9_2 l0_0 l0_1 l0_2 a0_3 = some (r1, r2)) ∧ Aside0 (kq ≤ kj4) ∧ Aside0 (Kd.R Kd.bool 4 w' w.heap.size (fun _ => True) v196 x8_2) ∧ Aside0 (w'.heap[gb190]? = some (.cells #[(.slice A0_0 l0_0.length c0_0), (.slice A0_1 l0_1.length c0_1), (.slice A0_2 l0_2.length c0_2), .int .i64 a0_3] 25 (0, 0))) ∧ Aside0 (Below w.heap.size w w'))
       case atStart => exact ⟨(y195), (0), (au18), H', ⟨Nat.le_refl _⟩, ⟨by (with_reducible repeat (first | apply Kd.R_alloc | apply Kd.R_drewN | apply Kd.R_drew)); first | exact HO197.out | exact Kd.R_mono (HO197.out) (fun _ h_ => h_.2)⟩, ⟨au22⟩, ⟨au5⟩⟩
       case round =>
        clear H'
        try clear c1
        try clear c2
        try clear p2
        try clear c4
        try clear c4b0
        try clear c4b1
        try clear c9
        try clear c9b0
        try clear c11
        try clear c12
        try clear c12b0
        try clear c12b1
        try clear c13
        try clear c13b0
        try clear c13b1
        try clear hcz10_0
        try clear hcz10_1
        try clear hcz10_2
        try clear hcz10_3
        try clear hcz14_0
        try clear hcz14_1
        try clear hcz14_2
        try clear hcz14_3
        try clear hcz7_0
        try clear hcz7_1
        try clear hcz7_2
        try clear hcz7_3
        try clear hfz10_0
        try clear hfz10_1
        try clear hfz10_2
        try clear hfz10_3
        try clear hfz14_0
        try clear hfz14_1
        try clear hfz14_2
        try clear hfz14_3
        try clear hfz7_0
        try clear hfz7_1
        try clear hfz7_2
        try clear hfz7_3
        try clear p2
        obtain ⟨x8_2, x9_2, rfl, HA, HK2, HO_8, BK190, HB⟩ := hrel
        cases gk with
        | zero => exact absurd HA.out (by simp [capstanref11_Leads.l0])
        | succ k2 =>
         have H := HA.out
         clear HA
         simp only [capstanref11_Leads.l0] at H
         by_cases c17 : x9_2 ≤ (l0_2.length : Int)
         ·
          rw [if_pos c17] at H
          have c17b0 : decide (x9_2 ≤ (l0_2.length : Int)) = true := decide_eq_true c17
          clear c17
          have H' := Aside0.mk H
          clear H
          obtain ⟨hcz18_0, hcz18_1, hcz18_2, hcz18_3, hfz18_0, hfz18_1, hfz18_2, hfz18_3⟩ := blk_all4 BK190.out
          go_wp2
          go_loopg [10] k2 (fun kq v10 w' => ∃ (x8_3 : List Bool) (x10_3 : Int), v10 = .int .i64 x10_3 ∧ Aside0 (capstanref11_Leads.l1 kq a1 x8_3 x9_2 x10_3 l0_0 l0_1 l0_2 a0_3 = some (r1, r2)) ∧ Aside0 (kq ≤ k2) ∧ Aside0 (Kd.R Kd.bool 4 w' w.heap.size (fun _ => True) v196 x8_3) ∧ Aside0 (w'.heap[gb190]? = some (.cells #[(.slice A0_0 l0_0.length c0_0), (.slice A0_1 l0_1.length c0_1), (.slice A0_2 l0_2.length c0_2), .int .i64 a0_3] 25 (0, 0))) ∧ Aside0 (Below w.heap.size w w'))
          case atStart => exact ⟨(x8_2), (0), (au18), H', ⟨Nat.le_refl _⟩, ⟨au8⟩, ⟨au22⟩, ⟨au5⟩⟩
          case round =>
           clear H'
           try clear c1
           try clear c2
           try clear p2
           try clear c4
           try clear c4b0
           try clear c4b1
           try clear c9
           try clear c9b0
           try clear c11
           try clear c12
           try clear c12b0
           try clear c12b1
           try clear c13
           try clear c13b0
           try clear c13b1
           try clear c17
           try clear c17b0
           try clear hcz10_0
           try clear hcz10_1
           try clear hcz10_2
           try clear hcz10_3
           try clear hcz14_0
           try clear hcz14_1
           try clear hcz14_2
           try clear hcz14_3
           try clear hcz18_0
           try clear hcz18_1
           try clear hcz18_2
           try clear hcz18_3
           try clear hcz7_0
           try clear hcz7_1
           try clear hcz7_2
           try clear hcz7_3
           try clear hfz10_0
           try clear hfz10_1
           try clear hfz10_2
           try clear hfz10_3
           try clear hfz14_0
           try clear hfz14_1
           try clear hfz14_2
           try clear hfz14_3
           try clear hfz18_0
           try clear hfz18_1
           try clear hfz18_2
           try clear hfz18_3
           try clear hfz7_0
           try clear hfz7_1
           try clear hfz7_2
           try clear hfz7_3
           try clear p2
           obtain ⟨x8_3, x10_3, rfl, HA, HK3, HO_8, BK190, HB⟩ := hrel
           cases gk with
           | zero => exact absurd HA.out (by simp [capstanref11_Leads.l1])
           | succ k3 =>
            have H := HA.out
            clear HA
            simp only [capstanref11_Leads.l1] at H
            by_cases c19 : x10_3 < (l0_2.length : Int)
            ·
             rw [if_pos c19] at H
             have c19b0 : decide (x10_3 < (l0_2.length : Int)) = true := decide_eq_true c19
             clear c19
             have HC20 := Aside0.mk H
             clear H
             obtain ⟨hcz21_0, hcz21_1, hcz21_2, hcz21_3, hfz21_0, hfz21_1, hfz21_2, hfz21_3⟩ := blk_all4 BK190.out
             go_upto_region 13 with (fail)
             go_cut [] (fun wc => ∃ (kq : Nat) (x8_19 : List Bool), Aside0 (capstanref11_Leads.j3 kq a1 x8_19 x9_2 x10_3 l0_0 l0_1 l0_2 a0_3 = some (r1, r2)) ∧ Aside0 (kq ≤ k3) ∧ Aside0 (Kd.R Kd.bool 4 wc w.heap.size (fun _ => True) v196 x8_19) ∧ Aside0 (wc.heap[gb190]? = some (.cells #[(.slice A0_0 l0_0.length c0_0), (.slice A0_1 l0_1.length c0_1), (.slice A0_2 l0_2.length c0_2), .int .i64 a0_3] 25 (0, 0))) ∧ Aside0 (Below w.heap.size w wc))
             case first =>
              have H := HC20.out
              clear HC20
              by_cases c22 : 0 ≤ x10_3
              ·
               rw [if_pos c22] at H
               have c22b0 : decide (0 ≤ x10_3) = true := decide_eq_true c22
               clear c22
               (first | rw [c22b0] | (simp only [i64_w, i32_w]; rw [c22b0]) | skip)
               by_cases c23 : x10_3 < (x8_3.length : Int)
               ·
                rw [if_pos c23] at H
                have c23b0 : decide (x10_3 < (x8_3.length : Int)) = true := decide_eq_true c23
                clear c23
                obtain ⟨bq24, hbq24⟩ : ∃ b_ : Bool, b_ = (rdOf false x8_3 x10_3) := ⟨_, rfl⟩
                replace H : (if bq24 = true then (capstanref11_Leads.j3 k3 a1 (x8_3.set (x10_3 : Int).toNat true) x9_2 x10_3 l0_0 l0_1 l0_2 a0_3) else (if 0 ≤ a1 then (if a1 < (l0_2.length : Int) then ((capstanref11_calls.f k3 ((rd_T52 l0_2 a1).f0) ((rd_T52 l0_2 a1).f1) ((rd_T52 l0_2 a1).f2) ((rd_T52 l0_2 a1).f3) ((rd_T52 l0_2 a1).f4) ((rd_T52 l0_2 a1).f5) ((rd_T52 l0_2 a1).f6) ((rd_T52 l0_2 a1).f7) x10_3).bind fun t201 => (capstanref11_Leads.j3 k3 a1 (x8_3.set (x10_3 : Int).toNat t201) x9_2 x10_3 l0_0 l0_1 l0_2 a0_3)) else (none)) else (none))) = some (r1, r2) := by rw [← hbq24] at H; exact H
                have Nbq24 := Aside0.mk hbq24
                clear hbq24
                by_cases c25 : bq24 = true
                ·
                 subst c25
                 have H1 : (capstanref11_Leads.j3 k3 a1 (x8_3.set (x10_3 : Int).toNat true) x9_2 x10_3 l0_0 l0_1 l0_2 a0_3) = some (r1, r2) := by rw [if_pos rfl] at H; exact H
                 clear H
                 have H := H1
                 clear H1
                 obtain ⟨y199, hy199⟩ : ∃ y_ : List Bool, y_ = (x8_3.set (x10_3 : Int).toNat true) := ⟨_, rfl⟩
                 replace H : (capstanref11_Leads.j3 k3 a1 y199 x9_2 x10_3 l0_0 l0_1 l0_2 a0_3) = some (r1, r2) := by first | (rw [hy199]; with_reducible exact H) | (have H2_ := (Option.bind_some _ _).symm.trans H; rw [hy199]; with_reducible exact H2_) | (have H2_ := (Option.bind_some _ _).symm.trans H; with_reducible exact H2_) | with_reducible exact H | (rw [hy199]; exact H) | exact H
                 have Ny199 := Aside0.mk hy199
                 clear hy199
                 have H' := Aside0.mk H
                 clear H
                 obtain ⟨Ao27, co27, eo27⟩ := Kd.R_slice HO_8.out
                 subst eo27
                 have p198 : 0 ≤ (x10_3 : Int) := of_decide_eq_true (au3)
                 have q198 : x10_3 < (x8_3.length : Int) := of_decide_eq_true (au3)
                 obtain ⟨ad198, e198, hx198_0⟩ := Kd.at_bool (Kd.R_reads' HO_8.out).2.2 x10_3 p198 q198
                 (try rw [← Nbq24.out] at hx198_0)
                 cases e198
                 replace p198 := eq_true p198
                 replace q198 := eq_true q198
                 have p26 : 0 ≤ (x10_3 : Int) := of_decide_eq_true (au3)
                 have q26 : (x10_3 : Int) < ((x8_3.length : Int) : Int) := of_decide_eq_true (au3)
                 obtain ⟨go26, co26, eo26, gb26, gl26, cl26, HG26⟩ := Kd.R_form HO_8.out (by omega)
                 (first | cases eo26 | (injection eo26 with ea_ en_ ec_; (first | subst ea_ | (injection ea_ with ea_; subst ea_)); subst ec_; clear en_))
                 have GB26 := Aside0.mk gb26
                 have GG26 := Aside0.mk HG26
                 clear gb26 gl26 HG26
                 (first | simp only [add_plain] at hx198_0 | skip)
                 obtain ⟨hx26_0, hf26_0⟩ := Kd.R_celln false HO_8.out (x10_3 : Int) p26 q26
                 replace p26 := eq_true p26
                 replace q26 := eq_true q26
                 have HP28 := Kd.R_putg HO_8.out (x10_3 : Int) true
                 go_wp2_with (first | ((with_reducible refine gate_store (t := 4) (p := 64) rfl ?_); refine store_event (t := 4) (p := 64) (v := ?vo_w29) (w1 := (wr.setCell ⟨go26, (x10_3 : Int).toNat, none⟩ (.bool true))) ?hg ?ho ?hn ?hr ?_; (case ho => rfl); (case hg => rfl); (case hn => rfl); (case hr => first | (go_simp; done) | (go_simp; rfl)); intro w29 hw; have hg : wr.grownBy w29 (some go26) := (by rw [hw]; exact HP28.2); have hp_ : Kd.R Kd.bool 4 w29 w.heap.size (fun _ => True) (.slice (some ⟨go26, 0, none⟩) x8_3.length co27) y199 := (by rw [hw, Ny199.out]; exact HP28.1); clear HP28; have n0_ := Aside0.mk (hp_); have n1_ := Aside0.mk (blk_grown (g := gb190) (o := .cells #[.slice A0_0 l0_0.length c0_0, .slice A0_1 l0_1.length c0_1, .slice A0_2 l0_2.length c0_2, .int .i64 a0_3] 25 (0, 0)) (au22) hg (Kd.R_ne HO_8.out BK190.out (by decide))); have n2_ := Aside0.mk ((by rw [hw]; exact below_set (HB.out) GB26.out : Below w.heap.size w w29)); clear HO_8; clear BK190; clear HB; have HO_8 := n0_; have BK190 := n1_; have HB := n2_; clear n0_ n1_ n2_; clear hg hw hp_))
                 go_meet
                 case rel => exact ⟨_, (y199), H', ⟨by have := HJ4.out; have := HK2.out; have := HK3.out; first | omega | exact Nat.le_refl _⟩, ⟨au8⟩, ⟨au22⟩, ⟨au5⟩⟩
                ·
                 replace c25 := Bool.eq_false_iff.mpr c25
                 subst c25
                 have H1 : (if 0 ≤ a1 then (if a1 < (l0_2.length : Int) then ((capstanref11_calls.f k3 ((rd_T52 l0_2 a1).f0) ((rd_T52 l0_2 a1).f1) ((rd_T52 l0_2 a1).f2) ((rd_T52 l0_2 a1).f3) ((rd_T52 l0_2 a1).f4) ((rd_T52 l0_2 a1).f5) ((rd_T52 l0_2 a1).f6) ((rd_T52 l0_2 a1).f7) x10_3).bind fun t201 => (capstanref11_Leads.j3 k3 a1 (x8_3.set (x10_3 : Int).toNat t201) x9_2 x10_3 l0_0 l0_1 l0_2 a0_3)) else (none)) else (none)) = some (r1, r2) := by rw [if_neg (show ¬ (false = true) by decide)] at H; exact H
                 clear H
                 have H := H1
                 clear H1
                 by_cases c30 : 0 ≤ a1
                 ·
                  rw [if_pos c30] at H
                  have c30b0 : decide (0 ≤ a1) = true := decide_eq_true c30
                  clear c30
                  by_cases c31 : a1 < (l0_2.length : Int)
                  ·
                   rw [if_pos c31] at H
                   have c31b0 : decide (a1 < (l0_2.length : Int)) = true := decide_eq_true c31
                   clear c31
                   replace H := Option.bind_eq_some_iff.mp H
                   obtain ⟨t201, A320, H⟩ := H
                   replace H : (capstanref11_Leads.j3 k3 a1 (x8_3.set (x10_3 : Int).toNat t201) x9_2 x10_3 l0_0 l0_1 l0_2 a0_3) = some (r1, r2) := H
                   have A32 := Aside0.mk A320
                   clear A320
                   obtain ⟨y202, hy202⟩ : ∃ y_ : List Bool, y_ = (x8_3.set (x10_3 : Int).toNat t201) := ⟨_, rfl⟩
                   replace H : (capstanref11_Leads.j3 k3 a1 y202 x9_2 x10_3 l0_0 l0_1 l0_2 a0_3) = some (r1, r2) := by first | (rw [hy202]; with_reducible exact H) | (have H2_ := (Option.bind_some _ _).symm.trans H; rw [hy202]; with_reducible exact H2_) | (have H2_ := (Option.bind_some _ _).symm.trans H; with_reducible exact H2_) | with_reducible exact H | (rw [hy202]; exact H) | exact H
                   have Ny202 := Aside0.mk hy202
                   clear hy202
                   have H' := Aside0.mk H
                   clear H
                   obtain ⟨Ao34, co34, eo34⟩ := Kd.R_slice HO_8.out
                   subst eo34
                   have p198 : 0 ≤ (x10_3 : Int) := of_decide_eq_true (au3)
                   have q198 : x10_3 < (x8_3.length : Int) := of_decide_eq_true (au3)
                   obtain ⟨ad198, e198, hx198_0⟩ := Kd.at_bool (Kd.R_reads' HO_8.out).2.2 x10_3 p198 q198
                   (try rw [← Nbq24.out] at hx198_0)
                   cases e198
                   replace p198 := eq_true p198
                   replace q198 := eq_true q198
                   obtain ⟨hcz35_0, hcz35_1, hcz35_2, hcz35_3, hfz35_0, hfz35_1, hfz35_2, hfz35_3⟩ := blk_all4 BK190.out
                   have p200 : 0 ≤ (a1 : Int) := of_decide_eq_true (au3)
                   have q200 : a1 < (l0_2.length : Int) := of_decide_eq_true (au3)
                   obtain ⟨ad200, A200_0, c200_0, A200_1, c200_1, A200_7, c200_7, e200, hx200_0, hx200_1, hx200_2, hx200_3, hx200_4, hx200_5, hx200_6, hx200_7, hl200_0, hi200_0, hl200_1, hi200_1, hl200_7, hi200_7⟩ := at_T52 HR0_2.out a1 p200 q200
                   (try rw [← Nbq24.out] at hx200_3)
                   cases e200
                   replace hx200_0 := (HB.out.cell (World.block_lt_of_cell? w _ hx200_0)).trans hx200_0
                   replace hx200_1 := (HB.out.cell (World.block_lt_of_cell? w _ hx200_1)).trans hx200_1
                   replace hx200_2 := (HB.out.cell (World.block_lt_of_cell? w _ hx200_2)).trans hx200_2
                   replace hx200_3 := (HB.out.cell (World.block_lt_of_cell? w _ hx200_3)).trans hx200_3
                   replace hx200_4 := (HB.out.cell (World.block_lt_of_cell? w _ hx200_4)).trans hx200_4
                   replace hx200_5 := (HB.out.cell (World.block_lt_of_cell? w _ hx200_5)).trans hx200_5
                   replace hx200_6 := (HB.out.cell (World.block_lt_of_cell? w _ hx200_6)).trans hx200_6
                   replace hx200_7 := (HB.out.cell (World.block_lt_of_cell? w _ hx200_7)).trans hx200_7
                   have HR200_0 := Aside0.mk hi200_0
                   have HC200_0 := Aside0.mk hl200_0
                   clear hi200_0 hl200_0
                   have HR200_1 := Aside0.mk hi200_1
                   have HC200_1 := Aside0.mk hl200_1
                   clear hi200_1 hl200_1
                   have HR200_7 := Aside0.mk hi200_7
                   have HC200_7 := Aside0.mk hl200_7
                   clear hi200_7 hl200_7
                   replace p200 := eq_true p200
                   replace q200 := eq_true q200
                   go_wp2_with (first | ((fail_if_success (have h_ := w36)); go_at_call 52; (with_reducible refine (capstanref11_calls.calls k3 _ _ ((rd_T52 l0_2 a1).f0) _ _ ((rd_T52 l0_2 a1).f1) ((rd_T52 l0_2 a1).f2) ((rd_T52 l0_2 a1).f3) ((rd_T52 l0_2 a1).f4) ((rd_T52 l0_2 a1).f5) ((rd_T52 l0_2 a1).f6) _ _ ((rd_T52 l0_2 a1).f7) x10_3 t201 _ ?side1 ?side2 ?side3 ?side4 ?side5 ?side6 A32.out).mono ?_); (case side1 => repeat (first | exact (Kd.C_below HR200_0.out HB.out) | (with_reducible refine Kd.C_alloc ?_ _) | (with_reducible refine Kd.C_drewN ?_ _) | (with_reducible refine Kd.C_drew ?_))); (case side2 => exact HC200_0.out); (case side3 => repeat (first | exact (Kd.C_below HR200_1.out HB.out) | (with_reducible refine Kd.C_alloc ?_ _) | (with_reducible refine Kd.C_drewN ?_ _) | (with_reducible refine Kd.C_drew ?_))); (case side4 => exact HC200_1.out); (case side5 => repeat (first | exact (Kd.C_below HR200_7.out HB.out) | (with_reducible refine Kd.C_alloc ?_ _) | (with_reducible refine Kd.C_drewN ?_ _) | (with_reducible refine Kd.C_drew ?_))); (case side6 => exact HC200_7.out); rintro e w36 ⟨rfl, hb⟩; have n0_ := Aside0.mk (Kd.R_below (au8) hb); have n1_ := Aside0.mk (blk_below (g := gb190) (o := .cells #[.slice A0_0 l0_0.length c0_0, .slice A0_1 l0_1.length c0_1, .slice (some ad200) l0_2.length c0_2, .int .i64 a0_3] 25 (0, 0)) (au22) hb); have n2_ := Aside0.mk (below_step (au5) hb); clear HO_8; clear BK190; clear HB; have HO_8 := n0_; have BK190 := n1_; have HB := n2_; clear n0_ n1_ n2_; (try clear hb); (try clear hb2); (try clear hk); (try clear hi); have p33 : 0 ≤ (x10_3 : Int) := of_decide_eq_true (au3); have q33 : (x10_3 : Int) < ((x8_3.length : Int) : Int) := of_decide_eq_true (au3); obtain ⟨go33, co33, eo33, gb33, gl33, cl33, HG33⟩ := Kd.R_form HO_8.out (by omega); (first | cases eo33 | (injection eo33 with ea_ en_ ec_; (first | subst ea_ | (injection ea_ with ea_; subst ea_)); subst ec_; clear en_)); have GB33 := Aside0.mk gb33; have GG33 := Aside0.mk HG33; clear gb33 gl33 HG33; (first | simp only [add_plain] at hx198_0 | skip); obtain ⟨hx33_0, hf33_0⟩ := Kd.R_celln false HO_8.out (x10_3 : Int) p33 q33; replace p33 := eq_true p33; replace q33 := eq_true q33; obtain ⟨hy37_, hz37_⟩ := Kd.R_celln false HO_8.out (x10_3 : Int) (of_decide_eq_true (au3)) (of_decide_eq_true (au3)); have HP37 := Kd.R_putg HO_8.out (x10_3 : Int) t201) | ((with_reducible refine gate_store (t := 4) (p := 64) rfl ?_); refine store_event (t := 4) (p := 64) (v := ?vo_w38) (w1 := (w36.setCell ⟨go33, (x10_3 : Int).toNat, none⟩ (.bool t201))) ?hg ?ho ?hn ?hr ?_; (case ho => rfl); (case hg => rfl); (case hn => rfl); (case hr => first | (go_simp; done) | (go_simp; rfl)); intro w38 hw; have hg : w36.grownBy w38 (some go33) := (by rw [hw]; exact HP37.2); have hp_ : Kd.R Kd.bool 4 w38 w.heap.size (fun _ => True) (.slice (some ⟨go33, 0, none⟩) x8_3.length co34) y202 := (by rw [hw, Ny202.out]; exact HP37.1); clear HP37; have n0_ := Aside0.mk (hp_); have n1_ := Aside0.mk (blk_grown (g := gb190) (o := .cells #[.slice A0_0 l0_0.length c0_0, .slice A0_1 l0_1.length c0_1, .slice (some ad200) l0_2.length c0_2, .int .i64 a0_3] 25 (0, 0)) (au22) hg (Kd.R_ne HO_8.out BK190.out (by decide))); have n2_ := Aside0.mk ((by rw [hw]; exact below_set (HB.out) GB33.out : Below w.heap.size w w38)); clear HO_8; clear BK190; clear HB; have HO_8 := n0_; have BK190 := n1_; have HB := n2_; clear n0_ n1_ n2_; clear hg hw hp_))
                   go_meet
                   case rel => exact ⟨_, (y202), H', ⟨by have := HJ4.out; have := HK2.out; have := HK3.out; first | omega | exact Nat.le_refl _⟩, ⟨au8⟩, ⟨au22⟩, ⟨au5⟩⟩
                  ·
                   rw [if_neg c31] at H
                   exact absurd H (by simp)
                 ·
                  rw [if_neg c30] at H
                  exact absurd H (by simp)
               ·
                rw [if_neg c23] at H
                exact absurd H (by simp)
              ·
               rw [if_neg c22] at H
               exact absurd H (by simp)
             case rest =>
              clear HC20
              try clear c1
              try clear p1
              try clear q1
              try clear hx1
              try clear c2
              try clear p2
              try clear q2
              try clear hx2
              try clear hf2
              try clear c3
              try clear p3
              try clear q3
              try clear hx3
              try clear hf3
              try clear c4
              try clear c4b0
              try clear c4b1
              try clear c9
              try clear c9b0
              try clear c11
              try clear c12
              try clear c12b0
              try clear c12b1
              try clear c13
              try clear c13b0
              try clear c13b1
              try clear c17
              try clear c17b0
              try clear c19
              try clear c19b0
              try clear p19
              try clear q19
              try clear hx19
              try clear c20
              try clear p20
              try clear q20
              try clear hx20
              try clear c22
              try clear c22b0
              try clear c23
              try clear c23b0
              try clear q24
              try clear c25
              try clear c26
              try clear p26
              try clear q26
              try clear hx26
              try clear hf26
              try clear c27
              try clear c30
              try clear c30b0
              try clear c31
              try clear c31b0
              try clear p33
              try clear q33
              try clear hx33
              try clear hf33
              try clear hcz10_0
              try clear hcz10_1
              try clear hcz10_2
              try clear hcz10_3
              try clear hcz14_0
              try clear hcz14_1
              try clear hcz14_2
              try clear hcz14_3
              try clear hcz18_0
              try clear hcz18_1
              try clear hcz18_2
              try clear hcz18_3
              try clear hcz21_0
              try clear hcz21_1
              try clear hcz21_2
              try clear hcz21_3
              try clear hcz35_0
              try clear hcz35_1
              try clear hcz35_2
              try clear hcz35_3
              try clear hcz7_0
              try clear hcz7_1
              try clear hcz7_2
              try clear hcz7_3
              try clear hfz10_0
              try clear hfz10_1
              try clear hfz10_2
              try clear hfz10_3
              try clear hfz14_0
              try clear hfz14_1
              try clear hfz14_2
              try clear hfz14_3
              try clear hfz18_0
              try clear hfz18_1
              try clear hfz18_2
              try clear hfz18_3
              try clear hfz21_0
              try clear hfz21_1
              try clear hfz21_2
              try clear hfz21_3
              try clear hfz35_0
              try clear hfz35_1
              try clear hfz35_2
              try clear hfz35_3
              try clear hfz7_0
              try clear hfz7_1
              try clear hfz7_2
              try clear hfz7_3
              try clear hx198_0
              try clear hx200_0
              try clear hx200_1
              try clear hx200_2
              try clear hx200_3
              try clear hx200_4
              try clear hx200_5
              try clear hx200_6
              try clear hx200_7
              try clear hx26_0
              try clear hx33_0
              try clear p198
              try clear p2
              try clear p200
              try clear p26
              try clear p33
              try clear q198
              try clear q200
              try clear q26
              try clear q33
              obtain ⟨kq, x8_19, HA, HJ19, HO_8, BK190, HB⟩ := hcut
              cases kq with
              | zero => exact absurd HA.out (by simp [capstanref11_Leads.j3])
              | succ kj19 =>
               have H := HA.out
               clear HA
               simp only [capstanref11_Leads.j3] at H
               have H' := Aside0.mk H
               clear H
               go_wp2
               go_loopg [11] kj19 (fun kq v11 w' => ∃ (x8_5 : List Bool) (x11_5 : Int), v11 = .int .i64 x11_5 ∧ Aside0 (capstanref11_Leads.l2 kq a1 x8_5 x9_2 x10_3 x11_5 l0_0 l0_1 l0_2 a0_3 = some (r1, r2)) ∧ Aside0 (kq ≤ kj19) ∧ Aside0 (Kd.R Kd.bool 4 w' w.heap.size (fun _ => True) v196 x8_5) ∧ Aside0 (w'.heap[gb190]? = some (.cells #[(.slice A0_0 l0_0.length c0_0), (.slice A0_1 l0_1.length c0_1), (.slice A0_2 l0_2.length c0_2), .int .i64 a0_3] 25 (0, 0))) ∧ Aside0 (Below w.heap.size w w'))
               case atStart => exact ⟨(x8_19), (0), (au18), H', ⟨Nat.le_refl _⟩, ⟨au8⟩, ⟨au22⟩, ⟨au5⟩⟩
               case round =>
                clear H'
                try clear c1
                try clear p1
                try clear q1
                try clear hx1
                try clear c2
                try clear p2
                try clear q2
                try clear hx2
                try clear hf2
                try clear c3
                try clear p3
                try clear q3
                try clear hx3
                try clear hf3
                try clear c4
                try clear c4b0
                try clear c4b1
                try clear c9
                try clear c9b0
                try clear c11
                try clear c12
                try clear c12b0
                try clear c12b1
                try clear c13
                try clear c13b0
                try clear c13b1
                try clear c17
                try clear c17b0
                try clear c19
                try clear c19b0
                try clear p19
                try clear q19
                try clear hx19
                try clear c20
                try clear p20
                try clear q20
                try clear hx20
                try clear c22
                try clear c22b0
                try clear c23
                try clear c23b0
                try clear q24
                try clear c25
                try clear c26
                try clear p26
                try clear q26
                try clear hx26
                try clear hf26
                try clear c27
                try clear c30
                try clear c30b0
                try clear c31
                try clear c31b0
                try clear p33
                try clear q33
                try clear hx33
                try clear hf33
                try clear hcz10_0
                try clear hcz10_1
                try clear hcz10_2
                try clear hcz10_3
                try clear hcz14_0
                try clear hcz14_1
                try clear hcz14_2
                try clear hcz14_3
                try clear hcz18_0
                try clear hcz18_1
                try clear hcz18_2
                try clear hcz18_3
                try clear hcz21_0
                try clear hcz21_1
                try clear hcz21_2
                try clear hcz21_3
                try clear hcz35_0
                try clear hcz35_1
                try clear hcz35_2
                try clear hcz35_3
                try clear hcz7_0
                try clear hcz7_1
                try clear hcz7_2
                try clear hcz7_3
                try clear hfz10_0
                try clear hfz10_1
                try clear hfz10_2
                try clear hfz10_3
                try clear hfz14_0
                try clear hfz14_1
                try clear hfz14_2
                try clear hfz14_3
                try clear hfz18_0
                try clear hfz18_1
                try clear hfz18_2
                try clear hfz18_3
                try clear hfz21_0
                try clear hfz21_1
                try clear hfz21_2
                try clear hfz21_3
                try clear hfz35_0
                try clear hfz35_1
                try clear hfz35_2
                try clear hfz35_3
                try clear hfz7_0
                try clear hfz7_1
                try clear hfz7_2
                try clear hfz7_3
                try clear hx198_0
                try clear hx200_0
                try clear hx200_1
                try clear hx200_2
                try clear hx200_3
                try clear hx200_4
                try clear hx200_5
                try clear hx200_6
                try clear hx200_7
                try clear hx26_0
                try clear hx33_0
                try clear p1
                try clear p19
                try clear p198
                try clear p2
                try clear p20
                try clear p200
                try clear p26
                try clear p3
                try clear p33
                try clear q1
                try clear q19
                try clear q198
                try clear q2
                try clear q20
                try clear q200
                try clear q24
                try clear q26
                try clear q3
                try clear q33
                obtain ⟨x8_5, x11_5, rfl, HA, HK5, HO_8, BK190, HB⟩ := hrel
                cases gk with
                | zero => exact absurd HA.out (by simp [capstanref11_Leads.l2])
                | succ k5 =>
                 have H := HA.out
                 clear HA
                 simp only [capstanref11_Leads.l2] at H
                 by_cases c39 : x11_5 < (l0_2.length : Int)
                 ·
                  rw [if_pos c39] at H
                  have c39b0 : decide (x11_5 < (l0_2.length : Int)) = true := decide_eq_true c39
                  clear c39
                  by_cases c40 : 0 ≤ x10_3
                  ·
                   rw [if_pos c40] at H
                   have c40b0 : decide (0 ≤ x10_3) = true := decide_eq_true c40
                   clear c40
                   by_cases c41 : x10_3 < (x8_5.length : Int)
                   ·
                    rw [if_pos c41] at H
                    have c41b0 : decide (x10_3 < (x8_5.length : Int)) = true := decide_eq_true c41
                    clear c41
                    obtain ⟨bq42, hbq42⟩ : ∃ b_ : Bool, b_ = (rdOf false x8_5 x10_3) := ⟨_, rfl⟩
                    replace H : (if bq42 = true then (capstanref11_Leads.l2 k5 a1 (x8_5.set (x10_3 : Int).toNat true) x9_2 x10_3 (wrap64 (x11_5 + 1)) l0_0 l0_1 l0_2 a0_3) else (if 0 ≤ x11_5 then (if x11_5 < (x8_5.length : Int) then (if rdOf false x8_5 x11_5 = true then ((capstanref11_calls.f k5 ((rd_T52 l0_2 x11_5).f0) ((rd_T52 l0_2 x11_5).f1) ((rd_T52 l0_2 x11_5).f2) ((rd_T52 l0_2 x11_5).f3) ((rd_T52 l0_2 x11_5).f4) ((rd_T52 l0_2 x11_5).f5) ((rd_T52 l0_2 x11_5).f6) ((rd_T52 l0_2 x11_5).f7) x10_3).bind fun t207 => (capstanref11_Leads.l2 k5 a1 (x8_5.set (x10_3 : Int).toNat t207) x9_2 x10_3 (wrap64 (x11_5 + 1)) l0_0 l0_1 l0_2 a0_3)) else (capstanref11_Leads.l2 k5 a1 (x8_5.set (x10_3 : Int).toNat false) x9_2 x10_3 (wrap64 (x11_5 + 1)) l0_0 l0_1 l0_2 a0_3)) else (none)) else (none))) = some (r1, r2) := by rw [← hbq42] at H; exact H
                    have Nbq42 := Aside0.mk hbq42
                    clear hbq42
                    by_cases c43 : bq42 = true
                    ·
                     subst c43
                     have H1 : (capstanref11_Leads.l2 k5 a1 (x8_5.set (x10_3 : Int).toNat true) x9_2 x10_3 (wrap64 (x11_5 + 1)) l0_0 l0_1 l0_2 a0_3) = some (r1, r2) := by rw [if_pos rfl] at H; exact H
                     clear H
                     have H := H1
                     clear H1
                     obtain ⟨y204, hy204⟩ : ∃ y_ : List Bool, y_ = (x8_5.set (x10_3 : Int).toNat true) := ⟨_, rfl⟩
                     replace H : (capstanref11_Leads.l2 k5 a1 y204 x9_2 x10_3 (wrap64 (x11_5 + 1)) l0_0 l0_1 l0_2 a0_3) = some (r1, r2) := by first | (rw [hy204]; with_reducible exact H) | (have H2_ := (Option.bind_some _ _).symm.trans H; rw [hy204]; with_reducible exact H2_) | (have H2_ := (Option.bind_some _ _).symm.trans H; with_reducible exact H2_) | with_reducible exact H | (rw [hy204]; exact H) | exact H
                     have Ny204 := Aside0.mk hy204
                     clear hy204
                     have H' := Aside0.mk H
                     clear H
                     obtain ⟨hcz45_0, hcz45_1, hcz45_2, hcz45_3, hfz45_0, hfz45_1, hfz45_2, hfz45_3⟩ := blk_all4 BK190.out
                     obtain ⟨Ao46, co46, eo46⟩ := Kd.R_slice HO_8.out
                     subst eo46
                     have p203 : 0 ≤ (x10_3 : Int) := of_decide_eq_true (au3)
                     have q203 : x10_3 < (x8_5.length : Int) := of_decide_eq_true (au3)
                     obtain ⟨ad203, e203, hx203_0⟩ := Kd.at_bool (Kd.R_reads' HO_8.out).2.2 x10_3 p203 q203
                     (try rw [← Nbq42.out] at hx203_0)
                     cases e203
                     replace p203 := eq_true p203
                     replace q203 := eq_true q203
                     have p44 : 0 ≤ (x10_3 : Int) := of_decide_eq_true (au3)
                     have q44 : (x10_3 : Int) < ((x8_5.length : Int) : Int) := of_decide_eq_true (au3)
                     obtain ⟨go44, co44, eo44, gb44, gl44, cl44, HG44⟩ := Kd.R_form HO_8.out (by omega)
                     (first | cases eo44 | (injection eo44 with ea_ en_ ec_; (first | subst ea_ | (injection ea_ with ea_; subst ea_)); subst ec_; clear en_))
                     have GB44 := Aside0.mk gb44
                     have GG44 := Aside0.mk HG44
                     clear gb44 gl44 HG44
                     (first | simp only [add_plain] at hx203_0 | skip)
                     obtain ⟨hx44_0, hf44_0⟩ := Kd.R_celln false HO_8.out (x10_3 : Int) p44 q44
                     replace p44 := eq_true p44
                     replace q44 := eq_true q44
                     have HP47 := Kd.R_putg HO_8.out (x10_3 : Int) true
                     go_wp2_with (first | ((with_reducible refine gate_store (t := 4) (p := 93) rfl ?_); refine store_event (t := 4) (p := 93) (v := ?vo_w48) (w1 := (wr.setCell ⟨go44, (x10_3 : Int).toNat, none⟩ (.bool true))) ?hg ?ho ?hn ?hr ?_; (case ho => rfl); (case hg => rfl); (case hn => rfl); (case hr => first | (go_simp; done) | (go_simp; rfl)); intro w48 hw; have hg : wr.grownBy w48 (some go44) := (by rw [hw]; exact HP47.2); have hp_ : Kd.R Kd.bool 4 w48 w.heap.size (fun _ => True) (.slice (some ⟨go44, 0, none⟩) x8_5.length co46) y204 := (by rw [hw, Ny204.out]; exact HP47.1); clear HP47; have n0_ := Aside0.mk (hp_); have n1_ := Aside0.mk (blk_grown (g := gb190) (o := .cells #[.slice A0_0 l0_0.length c0_0, .slice A0_1 l0_1.length c0_1, .slice A0_2 l0_2.length c0_2, .int .i64 a0_3] 25 (0, 0)) (au22) hg (Kd.R_ne HO_8.out BK190.out (by decide))); have n2_ := Aside0.mk ((by rw [hw]; exact below_set (HB.out) GB44.out : Below w.heap.size w w48)); clear HO_8; clear BK190; clear HB; have HO_8 := n0_; have BK190 := n1_; have HB := n2_; clear n0_ n1_ n2_; clear hg hw hp_))
                     go_roundg k5
                     case measure => have := HJ4.out; have := HK2.out; have := HK3.out; have := HJ19.out; have := HK5.out; omega
                     case rel => exact ⟨(y204), (wrap64 (x11_5 + 1)), (au18), H', ⟨au113⟩, ⟨au8⟩, ⟨au22⟩, ⟨au5⟩⟩
                    ·
                     replace c43 := Bool.eq_false_iff.mpr c43
                     subst c43
                     have H1 : (if 0 ≤ x11_5 then (if x11_5 < (x8_5.length : Int) then (if rdOf false x8_5 x11_5 = true then ((capstanref11_calls.f k5 ((rd_T52 l0_2 x11_5).f0) ((rd_T52 l0_2 x11_5).f1) ((rd_T52 l0_2 x11_5).f2) ((rd_T52 l0_2 x11_5).f3) ((rd_T52 l0_2 x11_5).f4) ((rd_T52 l0_2 x11_5).f5) ((rd_T52 l0_2 x11_5).f6) ((rd_T52 l0_2 x11_5).f7) x10_3).bind fun t207 => (capstanref11_Leads.l2 k5 a1 (x8_5.set (x10_3 : Int).toNat t207) x9_2 x10_3 (wrap64 (x11_5 + 1)) l0_0 l0_1 l0_2 a0_3)) else (capstanref11_Leads.l2 k5 a1 (x8_5.set (x10_3 : Int).toNat false) x9_2 x10_3 (wrap64 (x11_5 + 1)) l0_0 l0_1 l0_2 a0_3)) else (none)) else (none)) = some (r1, r2) := by rw [if_neg (show ¬ (false = true) by decide)] at H; exact H
                     clear H
                     have H := H1
                     clear H1
                     by_cases c49 : 0 ≤ x11_5
                     ·
                      rw [if_pos c49] at H
                      have c49b0 : decide (0 ≤ x11_5) = true := decide_eq_true c49
                      clear c49
                      by_cases c50 : x11_5 < (x8_5.length : Int)
                      ·
                       rw [if_pos c50] at H
                       have c50b0 : decide (x11_5 < (x8_5.length : Int)) = true := decide_eq_true c50
                       clear c50
                       obtain ⟨bq51, hbq51⟩ : ∃ b_ : Bool, b_ = (rdOf false x8_5 x11_5) := ⟨_, rfl⟩
                       replace H : (if bq51 = true then ((capstanref11_calls.f k5 ((rd_T52 l0_2 x11_5).f0) ((rd_T52 l0_2 x11_5).f1) ((rd_T52 l0_2 x11_5).f2) ((rd_T52 l0_2 x11_5).f3) ((rd_T52 l0_2 x11_5).f4) ((rd_T52 l0_2 x11_5).f5) ((rd_T52 l0_2 x11_5).f6) ((rd_T52 l0_2 x11_5).f7) x10_3).bind fun t207 => (capstanref11_Leads.l2 k5 a1 (x8_5.set (x10_3 : Int).toNat t207) x9_2 x10_3 (wrap64 (x11_5 + 1)) l0_0 l0_1 l0_2 a0_3)) else (capstanref11_Leads.l2 k5 a1 (x8_5.set (x10_3 : Int).toNat false) x9_2 x10_3 (wrap64 (x11_5 + 1)) l0_0 l0_1 l0_2 a0_3)) = some (r1, r2) := by rw [← hbq51] at H; exact H
                       have Nbq51 := Aside0.mk hbq51
                       clear hbq51
                       by_cases c52 : bq51 = true
                       ·
                        subst c52
                        have H1 : ((capstanref11_calls.f k5 ((rd_T52 l0_2 x11_5).f0) ((rd_T52 l0_2 x11_5).f1) ((rd_T52 l0_2 x11_5).f2) ((rd_T52 l0_2 x11_5).f3) ((rd_T52 l0_2 x11_5).f4) ((rd_T52 l0_2 x11_5).f5) ((rd_T52 l0_2 x11_5).f6) ((rd_T52 l0_2 x11_5).f7) x10_3).bind fun t207 => (capstanref11_Leads.l2 k5 a1 (x8_5.set (x10_3 : Int).toNat t207) x9_2 x10_3 (wrap64 (x11_5 + 1)) l0_0 l0_1 l0_2 a0_3)) = some (r1, r2) := by rw [if_pos rfl] at H; exact H
                        clear H
                        have H := H1
                        clear H1
                        replace H := Option.bind_eq_some_iff.mp H
                        obtain ⟨t207, A530, H⟩ := H
                        replace H : (capstanref11_Leads.l2 k5 a1 (x8_5.set (x10_3 : Int).toNat t207) x9_2 x10_3 (wrap64 (x11_5 + 1)) l0_0 l0_1 l0_2 a0_3) = some (r1, r2) := H
                        have A53 := Aside0.mk A530
                        clear A530
                        obtain ⟨y208, hy208⟩ : ∃ y_ : List Bool, y_ = (x8_5.set (x10_3 : Int).toNat t207) := ⟨_, rfl⟩
                        replace H : (capstanref11_Leads.l2 k5 a1 y208 x9_2 x10_3 (wrap64 (x11_5 + 1)) l0_0 l0_1 l0_2 a0_3) = some (r1, r2) := by first | (rw [hy208]; with_reducible exact H) | (have H2_ := (Option.bind_some _ _).symm.trans H; rw [hy208]; with_reducible exact H2_) | (have H2_ := (Option.bind_some _ _).symm.trans H; with_reducible exact H2_) | with_reducible exact H | (rw [hy208]; exact H) | exact H
                        have Ny208 := Aside0.mk hy208
                        clear hy208
                        have H' := Aside0.mk H
                        clear H
                        obtain ⟨hcz55_0, hcz55_1, hcz55_2, hcz55_3, hfz55_0, hfz55_1, hfz55_2, hfz55_3⟩ := blk_all4 BK190.out
                        obtain ⟨Ao56, co56, eo56⟩ := Kd.R_slice HO_8.out
                        subst eo56
                        have p203 : 0 ≤ (x10_3 : Int) := of_decide_eq_true (au3)
                        have q203 : x10_3 < (x8_5.length : Int) := of_decide_eq_true (au3)
                        obtain ⟨ad203, e203, hx203_0⟩ := Kd.at_bool (Kd.R_reads' HO_8.out).2.2 x10_3 p203 q203
                        (try rw [← Nbq42.out] at hx203_0)
                        (try rw [← Nbq51.out] at hx203_0)
                        cases e203
                        replace p203 := eq_true p203
                        replace q203 := eq_true q203
                        have p205 : 0 ≤ (x11_5 : Int) := of_decide_eq_true (au3)
                        have q205 : x11_5 < (x8_5.length : Int) := of_decide_eq_true (au3)
                        obtain ⟨ad205, e205, hx205_0⟩ := Kd.at_bool (Kd.R_reads' HO_8.out).2.2 x11_5 p205 q205
                        (try rw [← Nbq42.out] at hx205_0)
                        (try rw [← Nbq51.out] at hx205_0)
                        obtain rfl : ad203 = ad205 := (by injection e205)
                        replace p205 := eq_true p205
                        replace q205 := eq_true q205
                        have p206 : 0 ≤ (x11_5 : Int) := of_decide_eq_true (au3)
                        have q206 : x11_5 < (l0_2.length : Int) := of_decide_eq_true (au3)
                        obtain ⟨ad206, A206_0, c206_0, A206_1, c206_1, A206_7, c206_7, e206, hx206_0, hx206_1, hx206_2, hx206_3, hx206_4, hx206_5, hx206_6, hx206_7, hl206_0, hi206_0, hl206_1, hi206_1, hl206_7, hi206_7⟩ := at_T52 HR0_2.out x11_5 p206 q206
                        (try rw [← Nbq42.out] at hx206_3)
                        (try rw [← Nbq51.out] at hx206_3)
                        cases e206
                        replace hx206_0 := (HB.out.cell (World.block_lt_of_cell? w _ hx206_0)).trans hx206_0
                        replace hx206_1 := (HB.out.cell (World.block_lt_of_cell? w _ hx206_1)).trans hx206_1
                        replace hx206_2 := (HB.out.cell (World.block_lt_of_cell? w _ hx206_2)).trans hx206_2
                        replace hx206_3 := (HB.out.cell (World.block_lt_of_cell? w _ hx206_3)).trans hx206_3
                        replace hx206_4 := (HB.out.cell (World.block_lt_of_cell? w _ hx206_4)).trans hx206_4
                        replace hx206_5 := (HB.out.cell (World.block_lt_of_cell? w _ hx206_5)).trans hx206_5
                        replace hx206_6 := (HB.out.cell (World.block_lt_of_cell? w _ hx206_6)).trans hx206_6
                        replace hx206_7 := (HB.out.cell (World.block_lt_of_cell? w _ hx206_7)).trans hx206_7
                        have HR206_0 := Aside0.mk hi206_0
                        have HC206_0 := Aside0.mk hl206_0
                        clear hi206_0 hl206_0
                        have HR206_1 := Aside0.mk hi206_1
                        have HC206_1 := Aside0.mk hl206_1
                        clear hi206_1 hl206_1
                        have HR206_7 := Aside0.mk hi206_7
                        have HC206_7 := Aside0.mk hl206_7
                        clear hi206_7 hl206_7
                        replace p206 := eq_true p206
                        replace q206 := eq_true q206
                        go_wp2_with (first | ((fail_if_success (have h_ := w57)); go_at_call 52; (with_reducible refine (capstanref11_calls.calls k5 _ _ ((rd_T52 l0_2 x11_5).f0) _ _ ((rd_T52 l0_2 x11_5).f1) ((rd_T52 l0_2 x11_5).f2) ((rd_T52 l0_2 x11_5).f3) ((rd_T52 l0_2 x11_5).f4) ((rd_T52 l0_2 x11_5).f5) ((rd_T52 l0_2 x11_5).f6) _ _ ((rd_T52 l0_2 x11_5).f7) x10_3 t207 _ ?side1 ?side2 ?side3 ?side4 ?side5 ?side6 A53.out).mono ?_); (case side1 => repeat (first | exact (Kd.C_below HR206_0.out HB.out) | (with_reducible refine Kd.C_alloc ?_ _) | (with_reducible refine Kd.C_drewN ?_ _) | (with_reducible refine Kd.C_drew ?_))); (case side2 => exact HC206_0.out); (case side3 => repeat (first | exact (Kd.C_below HR206_1.out HB.out) | (with_reducible refine Kd.C_alloc ?_ _) | (with_reducible refine Kd.C_drewN ?_ _) | (with_reducible refine Kd.C_drew ?_))); (case side4 => exact HC206_1.out); (case side5 => repeat (first | exact (Kd.C_below HR206_7.out HB.out) | (with_reducible refine Kd.C_alloc ?_ _) | (with_reducible refine Kd.C_drewN ?_ _) | (with_reducible refine Kd.C_drew ?_))); (case side6 => exact HC206_7.out); rintro e w57 ⟨rfl, hb⟩; have n0_ := Aside0.mk (Kd.R_below (au8) hb); have n1_ := Aside0.mk (blk_below (g := gb190) (o := .cells #[.slice A0_0 l0_0.length c0_0, .slice A0_1 l0_1.length c0_1, .slice (some ad206) l0_2.length c0_2, .int .i64 a0_3] 25 (0, 0)) (au22) hb); have n2_ := Aside0.mk (below_step (au5) hb); clear HO_8; clear BK190; clear HB; have HO_8 := n0_; have BK190 := n1_; have HB := n2_; clear n0_ n1_ n2_; (try clear hb); (try clear hb2); (try clear hk); (try clear hi); have p54 : 0 ≤ (x10_3 : Int) := of_decide_eq_true (au3); have q54 : (x10_3 : Int) < ((x8_5.length : Int) : Int) := of_decide_eq_true (au3); obtain ⟨go54, co54, eo54, gb54, gl54, cl54, HG54⟩ := Kd.R_form HO_8.out (by omega); (first | cases eo54 | (injection eo54 with ea_ en_ ec_; (first | subst ea_ | (injection ea_ with ea_; subst ea_)); subst ec_; clear en_)); have GB54 := Aside0.mk gb54; have GG54 := Aside0.mk HG54; clear gb54 gl54 HG54; (first | simp only [add_plain] at hx203_0 | skip); (first | simp only [add_plain] at hx205_0 | skip); obtain ⟨hx54_0, hf54_0⟩ := Kd.R_celln false HO_8.out (x10_3 : Int) p54 q54; replace p54 := eq_true p54; replace q54 := eq_true q54; obtain ⟨hy58_, hz58_⟩ := Kd.R_celln false HO_8.out (x10_3 : Int) (of_decide_eq_true (au3)) (of_decide_eq_true (au3)); have HP58 := Kd.R_putg HO_8.out (x10_3 : Int) t207) | ((with_reducible refine gate_store (t := 4) (p := 93) rfl ?_); refine store_event (t := 4) (p := 93) (v := ?vo_w59) (w1 := (w57.setCell ⟨go54, (x10_3 : Int).toNat, none⟩ (.bool t207))) ?hg ?ho ?hn ?hr ?_; (case ho => rfl); (case hg => rfl); (case hn => rfl); (case hr => first | (go_simp; done) | (go_simp; rfl)); intro w59 hw; have hg : w57.grownBy w59 (some go54) := (by rw [hw]; exact HP58.2); have hp_ : Kd.R Kd.bool 4 w59 w.heap.size (fun _ => True) (.slice (some ⟨go54, 0, none⟩) x8_5.length co56) y208 := (by rw [hw, Ny208.out]; exact HP58.1); clear HP58; have n0_ := Aside0.mk (hp_); have n1_ := Aside0.mk (blk_grown (g := gb190) (o := .cells #[.slice A0_0 l0_0.length c0_0, .slice A0_1 l0_1.length c0_1, .slice (some ad206) l0_2.length c0_2, .int .i64 a0_3] 25 (0, 0)) (au22) hg (Kd.R_ne HO_8.out BK190.out (by decide))); have n2_ := Aside0.mk ((by rw [hw]; exact below_set (HB.out) GB54.out : Below w.heap.size w w59)); clear HO_8; clear BK190; clear HB; have HO_8 := n0_; have BK190 := n1_; have HB := n2_; clear n0_ n1_ n2_; clear hg hw hp_))
                        go_roundg k5
                        case measure => have := HJ4.out; have := HK2.out; have := HK3.out; have := HJ19.out; have := HK5.out; omega
                        case rel => exact ⟨(y208), (wrap64 (x11_5 + 1)), (au18), H', ⟨au113⟩, ⟨au8⟩, ⟨au22⟩, ⟨au5⟩⟩
                       ·
                        replace c52 := Bool.eq_false_iff.mpr c52
                        subst c52
                        have H1 : (capstanref11_Leads.l2 k5 a1 (x8_5.set (x10_3 : Int).toNat false) x9_2 x10_3 (wrap64 (x11_5 + 1)) l0_0 l0_1 l0_2 a0_3) = some (r1, r2) := by rw [if_neg (show ¬ (false = true) by decide)] at H; exact H
                        clear H
                        have H := H1
                        clear H1
                        obtain ⟨y209, hy209⟩ : ∃ y_ : List Bool, y_ = (x8_5.set (x10_3 : Int).toNat false) := ⟨_, rfl⟩
                        replace H : (capstanref11_Leads.l2 k5 a1 y209 x9_2 x10_3 (wrap64 (x11_5 + 1)) l0_0 l0_1 l0_2 a0_3) = some (r1, r2) := by first | (rw [hy209]; with_reducible exact H) | (have H2_ := (Option.bind_some _ _).symm.trans H; rw [hy209]; with_reducible exact H2_) | (have H2_ := (Option.bind_some _ _).symm.trans H; with_reducible exact H2_) | with_reducible exact H | (rw [hy209]; exact H) | exact H
                        have Ny209 := Aside0.mk hy209
                        clear hy209
                        have H' := Aside0.mk H
                        clear H
                        obtain ⟨hcz61_0, hcz61_1, hcz61_2, hcz61_3, hfz61_0, hfz61_1, hfz61_2, hfz61_3⟩ := blk_all4 BK190.out
                        obtain ⟨Ao62, co62, eo62⟩ := Kd.R_slice HO_8.out
                        subst eo62
                        have p203 : 0 ≤ (x10_3 : Int) := of_decide_eq_true (au3)
                        have q203 : x10_3 < (x8_5.length : Int) := of_decide_eq_true (au3)
                        obtain ⟨ad203, e203, hx203_0⟩ := Kd.at_bool (Kd.R_reads' HO_8.out).2.2 x10_3 p203 q203
                        (try rw [← Nbq42.out] at hx203_0)
                        (try rw [← Nbq51.out] at hx203_0)
                        cases e203
                        replace p203 := eq_true p203
                        replace q203 := eq_true q203
                        have p205 : 0 ≤ (x11_5 : Int) := of_decide_eq_true (au3)
                        have q205 : x11_5 < (x8_5.length : Int) := of_decide_eq_true (au3)
                        obtain ⟨ad205, e205, hx205_0⟩ := Kd.at_bool (Kd.R_reads' HO_8.out).2.2 x11_5 p205 q205
                        (try rw [← Nbq42.out] at hx205_0)
                        (try rw [← Nbq51.out] at hx205_0)
                        obtain rfl : ad203 = ad205 := (by injection e205)
                        replace p205 := eq_true p205
                        replace q205 := eq_true q205
                        have p60 : 0 ≤ (x10_3 : Int) := of_decide_eq_true (au3)
                        have q60 : (x10_3 : Int) < ((x8_5.length : Int) : Int) := of_decide_eq_true (au3)
                        obtain ⟨go60, co60, eo60, gb60, gl60, cl60, HG60⟩ := Kd.R_form HO_8.out (by omega)
                        (first | cases eo60 | (injection eo60 with ea_ en_ ec_; (first | subst ea_ | (injection ea_ with ea_; subst ea_)); subst ec_; clear en_))
                        have GB60 := Aside0.mk gb60
                        have GG60 := Aside0.mk HG60
                        clear gb60 gl60 HG60
                        (first | simp only [add_plain] at hx203_0 | skip)
                        (first | simp only [add_plain] at hx205_0 | skip)
                        obtain ⟨hx60_0, hf60_0⟩ := Kd.R_celln false HO_8.out (x10_3 : Int) p60 q60
                        replace p60 := eq_true p60
                        replace q60 := eq_true q60
                        have HP63 := Kd.R_putg HO_8.out (x10_3 : Int) false
                        go_wp2_with (first | ((with_reducible refine gate_store (t := 4) (p := 93) rfl ?_); refine store_event (t := 4) (p := 93) (v := ?vo_w64) (w1 := (wr.setCell ⟨go60, (x10_3 : Int).toNat, none⟩ (.bool false))) ?hg ?ho ?hn ?hr ?_; (case ho => rfl); (case hg => rfl); (case hn => rfl); (case hr => first | (go_simp; done) | (go_simp; rfl)); intro w64 hw; have hg : wr.grownBy w64 (some go60) := (by rw [hw]; exact HP63.2); have hp_ : Kd.R Kd.bool 4 w64 w.heap.size (fun _ => True) (.slice (some ⟨go60, 0, none⟩) x8_5.length co62) y209 := (by rw [hw, Ny209.out]; exact HP63.1); clear HP63; have n0_ := Aside0.mk (hp_); have n1_ := Aside0.mk (blk_grown (g := gb190) (o := .cells #[.slice A0_0 l0_0.length c0_0, .slice A0_1 l0_1.length c0_1, .slice A0_2 l0_2.length c0_2, .int .i64 a0_3] 25 (0, 0)) (au22) hg (Kd.R_ne HO_8.out BK190.out (by decide))); have n2_ := Aside0.mk ((by rw [hw]; exact below_set (HB.out) GB60.out : Below w.heap.size w w64)); clear HO_8; clear BK190; clear HB; have HO_8 := n0_; have BK190 := n1_; have HB := n2_; clear n0_ n1_ n2_; clear hg hw hp_))
                        go_roundg k5
                        case measure => have := HJ4.out; have := HK2.out; have := HK3.out; have := HJ19.out; have := HK5.out; omega
                        case rel => exact ⟨(y209), (wrap64 (x11_5 + 1)), (au18), H', ⟨au113⟩, ⟨au8⟩, ⟨au22⟩, ⟨au5⟩⟩
                      ·
                       rw [if_neg c50] at H
                       exact absurd H (by simp)
                     ·
                      rw [if_neg c49] at H
                      exact absurd H (by simp)
                   ·
                    rw [if_neg c41] at H
                    exact absurd H (by simp)
                  ·
                   rw [if_neg c40] at H
                   exact absurd H (by simp)
                 ·
                  rw [if_neg c39] at H
                  have c39b0 : decide (x11_5 < (l0_2.length : Int)) = false := decide_eq_false c39
                  clear c39
                  have H' := Aside0.mk H
                  clear H
                  obtain ⟨hcz65_0, hcz65_1, hcz65_2, hcz65_3, hfz65_0, hfz65_1, hfz65_2, hfz65_3⟩ := blk_all4 BK190.out
                  go_wp2
                  go_roundg k5
                  case measure => have := HJ4.out; have := HK2.out; have := HK3.out; have := HJ19.out; have := HK5.out; omega
                  case rel => exact ⟨(x8_5), (wrap64 (x10_3 + 1)), (au18), H', ⟨au113⟩, ⟨au8⟩, ⟨au22⟩, ⟨au5⟩⟩
            ·
             rw [if_neg c19] at H
             have c19b0 : decide (x10_3 < (l0_2.length : Int)) = false := decide_eq_false c19
             clear c19
             have H' := Aside0.mk H
             clear H
             obtain ⟨hcz66_0, hcz66_1, hcz66_2, hcz66_3, hfz66_0, hfz66_1, hfz66_2, hfz66_3⟩ := blk_all4 BK190.out
             go_wp2
             go_roundg k3
             case measure => have := HJ4.out; have := HK2.out; have := HK3.out; omega
             case rel => exact ⟨(x8_3), (wrap64 (x9_2 + 1)), (au18), H', ⟨by have := HJ4.out; have := HK2.out; have := HK3.out; omega⟩, ⟨au8⟩, ⟨au22⟩, ⟨au5⟩⟩
         ·
          rw [if_neg c17] at H
          have c17b0 : decide (x9_2 ≤ (l0_2.length : Int)) = false := decide_eq_false c17
          clear c17
          have H' := Aside0.mk H
          clear H
          obtain ⟨hcz67_0, hcz67_1, hcz67_2, hcz67_3, hfz67_0, hfz67_1, hfz67_2, hfz67_3⟩ := blk_all4 BK190.out
          go_wp2
          go_loopg [12, 13] k2 (fun kq v12 v13 w' => ∃ (x12_3 : List Int) (x13_3 : Int), v13 = .int .i64 x13_3 ∧ Aside0 (capstanref11_Leads.l3 kq x8_2 x12_3 x13_3 = some (r1, r2)) ∧ Aside0 (kq ≤ k2) ∧ Aside0 (Kd.R Kd.bool 4 w' w.heap.size (fun _ => True) v196 x8_2) ∧ Aside0 (Kd.R (Kd.int .i64) 3 w' w.heap.size (fun _ => True) v12 x12_3) ∧ Aside0 (w'.heap[gb190]? = some (.cells #[(.slice A0_0 l0_0.length c0_0), (.slice A0_1 l0_1.length c0_1), (.slice A0_2 l0_2.length c0_2), .int .i64 a0_3] 25 (0, 0))) ∧ Aside0 (Below w.heap.size w w'))
          case atStart => exact ⟨(([] : List Int)), (0), (au18), H', ⟨Nat.le_refl _⟩, ⟨au8⟩, ⟨au45⟩, ⟨au22⟩, ⟨au5⟩⟩
          case round =>
           clear H'
           try clear c1
           try clear p1
           try clear q1
           try clear hx1
           try clear c2
           try clear p2
           try clear q2
           try clear hx2
           try clear hf2
           try clear c3
           try clear p3
           try clear q3
           try clear hx3
           try clear hf3
           try clear c4
           try clear c4b0
           try clear c4b1
           try clear p4
           try clear q4
           try clear hx4
           try clear hf4
           try clear c5
           try clear p5
           try clear q5
           try clear hx5
           try clear hf5
           try clear p6
           try clear q6
           try clear hx6
           try clear hf6
           try clear c9
           try clear c9b0
           try clear c11
           try clear c12
           try clear c12b0
           try clear c12b1
           try clear c13
           try clear c13b0
           try clear c13b1
           try clear c17
           try clear c17b0
           try clear c19
           try clear c19b0
           try clear p19
           try clear q19
           try clear hx19
           try clear c20
           try clear p20
           try clear q20
           try clear hx20
           try clear c22
           try clear c22b0
           try clear c23
           try clear c23b0
           try clear q24
           try clear c25
           try clear c26
           try clear p26
           try clear q26
           try clear hx26
           try clear hf26
           try clear c27
           try clear c30
           try clear c30b0
           try clear c31
           try clear c31b0
           try clear p33
           try clear q33
           try clear hx33
           try clear hf33
           try clear c39
           try clear c39b0
           try clear c40
           try clear c40b0
           try clear c41
           try clear c41b0
           try clear q42
           try clear c43
           try clear p44
           try clear q44
           try clear hx44
           try clear hf44
           try clear c49
           try clear c49b0
           try clear c50
           try clear c50b0
           try clear q51
           try clear c52
           try clear p54
           try clear q54
           try clear hx54
           try clear hf54
           try clear p60
           try clear q60
           try clear hx60
           try clear hf60
           try clear p64
           try clear hcz10_0
           try clear hcz10_1
           try clear hcz10_2
           try clear hcz10_3
           try clear hcz14_0
           try clear hcz14_1
           try clear hcz14_2
           try clear hcz14_3
           try clear hcz18_0
           try clear hcz18_1
           try clear hcz18_2
           try clear hcz18_3
           try clear hcz21_0
           try clear hcz21_1
           try clear hcz21_2
           try clear hcz21_3
           try clear hcz35_0
           try clear hcz35_1
           try clear hcz35_2
           try clear hcz35_3
           try clear hcz45_0
           try clear hcz45_1
           try clear hcz45_2
           try clear hcz45_3
           try clear hcz55_0
           try clear hcz55_1
           try clear hcz55_2
           try clear hcz55_3
           try clear hcz61_0
           try clear hcz61_1
           try clear hcz61_2
           try clear hcz61_3
           try clear hcz65_0
           try clear hcz65_1
           try clear hcz65_2
           try clear hcz65_3
           try clear hcz66_0
           try clear hcz66_1
           try clear hcz66_2
           try clear hcz66_3
           try clear hcz67_0
           try clear hcz67_1
           try clear hcz67_2
           try clear hcz67_3
           try clear hcz7_0
           try clear hcz7_1
           try clear hcz7_2
           try clear hcz7_3
           try clear hfz10_0
           try clear hfz10_1
           try clear hfz10_2
           try clear hfz10_3
           try clear hfz14_0
           try clear hfz14_1
           try clear hfz14_2
           try clear hfz14_3
           try clear hfz18_0
           try clear hfz18_1
           try clear hfz18_2
           try clear hfz18_3
           try clear hfz21_0
           try clear hfz21_1
           try clear hfz21_2
           try clear hfz21_3
           try clear hfz35_0
           try clear hfz35_1
           try clear hfz35_2
           try clear hfz35_3
           try clear hfz45_0
           try clear hfz45_1
           try clear hfz45_2
           try clear hfz45_3
           try clear hfz55_0
           try clear hfz55_1
           try clear hfz55_2
           try clear hfz55_3
           try clear hfz61_0
           try clear hfz61_1
           try clear hfz61_2
           try clear hfz61_3
           try clear hfz65_0
           try clear hfz65_1
           try clear hfz65_2
           try clear hfz65_3
           try clear hfz66_0
           try clear hfz66_1
           try clear hfz66_2
           try clear hfz66_3
           try clear hfz67_0
           try clear hfz67_1
           try clear hfz67_2
           try clear hfz67_3
           try clear hfz7_0
           try clear hfz7_1
           try clear hfz7_2
           try clear hfz7_3
           try clear hx198_0
           try clear hx200_0
           try clear hx200_1
           try clear hx200_2
           try clear hx200_3
           try clear hx200_4
           try clear hx200_5
           try clear hx200_6
           try clear hx200_7
           try clear hx203_0
           try clear hx205_0
           try clear hx206_0
           try clear hx206_1
           try clear hx206_2
           try clear hx206_3
           try clear hx206_4
           try clear hx206_5
           try clear hx206_6
           try clear hx206_7
           try clear hx26_0
           try clear hx33_0
           try clear hx44_0
           try clear hx54_0
           try clear hx60_0
           try clear p1
           try clear p19
           try clear p198
           try clear p2
           try clear p20
           try clear p200
           try clear p203
           try clear p205
           try clear p206
           try clear p26
           try clear p3
           try clear p33
           try clear p44
           try clear p54
           try clear p60
           try clear q1
           try clear q19
           try clear q198
           try clear q2
           try clear q20
           try clear q200
           try clear q203
           try clear q205
           try clear q206
           try clear q24
           try clear q26
           try clear q3
           try clear q33
           try clear q44
           try clear q54
           try clear q60
           obtain ⟨x12_3, x13_3, rfl, HA, HK3, HO_8, HO_12, BK190, HB⟩ := hrel
           cases gk with
           | zero => exact absurd HA.out (by simp [capstanref11_Leads.l3])
           | succ k3 =>
            have H := HA.out
            clear HA
            simp only [capstanref11_Leads.l3] at H
            by_cases c68 : x13_3 < (x8_2.length : Int)
            ·
             rw [if_pos c68] at H
             have c68b0 : decide (x13_3 < (x8_2.length : Int)) = true := decide_eq_true c68
             clear c68
             by_cases c69 : 0 ≤ x13_3
             ·
              rw [if_pos c69] at H
              have c69b0 : decide (0 ≤ x13_3) = true := decide_eq_true c69
              clear c69
              obtain ⟨bq70, hbq70⟩ : ∃ b_ : Bool, b_ = (rdOf false x8_2 x13_3) := ⟨_, rfl⟩
              replace H : (if bq70 = true then (if x12_3.length < 17592186044416 then (capstanref11_Leads.l3 k3 x8_2 (x12_3 ++ [x13_3]) (wrap64 (x13_3 + 1))) else (none)) else (capstanref11_Leads.l3 k3 x8_2 x12_3 (wrap64 (x13_3 + 1)))) = some (r1, r2) := by rw [← hbq70] at H; exact H
              have Nbq70 := Aside0.mk hbq70
              clear hbq70
              by_cases c71 : bq70 = true
              ·
               subst c71
               have H1 : (if x12_3.length < 17592186044416 then (capstanref11_Leads.l3 k3 x8_2 (x12_3 ++ [x13_3]) (wrap64 (x13_3 + 1))) else (none)) = some (r1, r2) := by rw [if_pos rfl] at H; exact H
               clear H
               have H := H1
               clear H1
               by_cases c72 : x12_3.length < 17592186044416
               ·
                rw [if_pos c72] at H
                have LMc72 := Aside0.mk c72
                clear c72
                obtain ⟨y211, hy211⟩ : ∃ y_ : List Int, y_ = (x12_3 ++ [x13_3]) := ⟨_, rfl⟩
                replace H : (capstanref11_Leads.l3 k3 x8_2 y211 (wrap64 (x13_3 + 1))) = some (r1, r2) := by first | (rw [hy211]; with_reducible exact H) | (have H2_ := (Option.bind_some _ _).symm.trans H; rw [hy211]; with_reducible exact H2_) | (have H2_ := (Option.bind_some _ _).symm.trans H; with_reducible exact H2_) | with_reducible exact H | (rw [hy211]; exact H) | exact H
                have Ny211 := Aside0.mk hy211
                clear hy211
                have H' := Aside0.mk H
                clear H
                obtain ⟨Ao73, co73, eo73⟩ := Kd.R_slice HO_8.out
                subst eo73
                have p210 : 0 ≤ (x13_3 : Int) := of_decide_eq_true (au3)
                have q210 : x13_3 < (x8_2.length : Int) := of_decide_eq_true (au3)
                obtain ⟨ad210, e210, hx210_0⟩ := Kd.at_bool (Kd.R_reads' HO_8.out).2.2 x13_3 p210 q210
                (try rw [← Nbq70.out] at hx210_0)
                cases e210
                replace p210 := eq_true p210
                replace q210 := eq_true q210
                go_wp2_with (first | ((with_reducible refine gate_builtin (b := .append) (xs := #[.tmp 104, .tmp 106]) rfl ?_); (try (refine gate_guard (by rfl) ?_; dsimp only)); at_builtin; refine Kd.R_append (Kd.int .i64) (w0 := w) w.heap.size rfl (.tmp 104) (.tmp 106) 53 3 (.int .i64 0) 8 rfl Try.underlying53 info3 rfl (by decide) (by omega) u12 x12_3 x13_3 [.int .i64 x13_3] (fun _ => True) (fun _ => False) rfl rfl ?aP (fun _ hk => hk.elim) ?aF ?aO ?aB ?aS ?aL ?_; (case aP => exact rfl); (case aB => exact (au5)); (case aF => exact (fun _ _ => trivial)); (case aO => exact (au30)); (case aS => exact (below_size (au5))); (case aL => have := LMc72.out; omega); intro v212 w74 ho hb hg hat; rw [← Ny211.out] at ho; have n0_ := Aside0.mk (Kd.R_over' (au8) (Kd.R_typed (au30)) (by decide) hg); have n1_ := Aside0.mk (blk_grown (g := gb190) (o := .cells #[.slice A0_0 l0_0.length c0_0, .slice A0_1 l0_1.length c0_1, .slice A0_2 l0_2.length c0_2, .int .i64 a0_3] 25 (0, 0)) (au22) hg (Kd.R_ne HO_12.out BK190.out (by decide))); have n2_ := Aside0.mk (hb); have n3_ := Aside0.mk (ho); clear HO_8; clear BK190; clear HB; clear HO_12; have HO_8 := n0_; have BK190 := n1_; have HB := n2_; have HO213 := n3_; clear n0_ n1_ n2_ n3_; clear ho hb hg hat))
                go_roundg k3
                case measure => have := HJ4.out; have := HK2.out; have := HK3.out; omega
                case rel => exact ⟨(y211), (wrap64 (x13_3 + 1)), (au18), H', ⟨by have := HJ4.out; have := HK2.out; have := HK3.out; omega⟩, ⟨au8⟩, ⟨by (with_reducible repeat (first | apply Kd.R_alloc | apply Kd.R_drewN | apply Kd.R_drew)); first | exact HO213.out | exact Kd.R_mono (HO213.out) (fun _ h_ => h_.2)⟩, ⟨au22⟩, ⟨au5⟩⟩
               ·
                rw [if_neg c72] at H
                exact absurd H (by simp)
              ·
               replace c71 := Bool.eq_false_iff.mpr c71
               subst c71
               have H1 : (capstanref11_Leads.l3 k3 x8_2 x12_3 (wrap64 (x13_3 + 1))) = some (r1, r2) := by rw [if_neg (show ¬ (false = true) by decide)] at H; exact H
               clear H
               have H := H1
               clear H1
               have H' := Aside0.mk H
               clear H
               obtain ⟨Ao75, co75, eo75⟩ := Kd.R_slice HO_8.out
               subst eo75
               have p210 : 0 ≤ (x13_3 : Int) := of_decide_eq_true (au3)
               have q210 : x13_3 < (x8_2.length : Int) := of_decide_eq_true (au3)
               obtain ⟨ad210, e210, hx210_0⟩ := Kd.at_bool (Kd.R_reads' HO_8.out).2.2 x13_3 p210 q210
               (try rw [← Nbq70.out] at hx210_0)
               cases e210
               replace p210 := eq_true p210
               replace q210 := eq_true q210
               go_wp2
               go_roundg k3
               case measure => have := HJ4.out; have := HK2.out; have := HK3.out; omega
               case rel => exact ⟨(x12_3), (wrap64 (x13_3 + 1)), (au18), H', ⟨by have := HJ4.out; have := HK2.out; have := HK3.out; omega⟩, ⟨au8⟩, ⟨au30⟩, ⟨au22⟩, ⟨au5⟩⟩
             ·
              rw [if_neg c69] at H
              exact absurd H (by simp)
            ·
             rw [if_neg c68] at H
             have c68b0 : decide (x13_3 < (x8_2.length : Int)) = false := decide_eq_false c68
             clear c68
             simp only [Option.some.injEq, Prod.mk.injEq] at H
             obtain ⟨rfl, rfl⟩ := H
             obtain ⟨Ao76, co76, eo76⟩ := Kd.R_slice HO_8.out
             subst eo76
             go_wp2
             go_ret2
             exact ⟨_, au19, au30, au5⟩
      ·
       rw [if_neg c13] at H
       exact absurd H (by simp)
     ·
      rw [if_neg c12] at H
      exact absurd H (by simp)
 ·
  rw [if_neg c4] at H
  have c4b0 : (t194 == 0) = false := beq_eq_false_iff_ne.mpr c4
  have c4b1 : (t194 != 0) = true := bne_iff_ne.mpr c4
  simp only [Option.some.injEq, Prod.mk.injEq] at H
  obtain ⟨rfl, rfl⟩ := H
  go_enter Try.func27, Try.ntmps27
  go_wp2_with (first | ((with_reducible refine gate_dst (N := 2) rfl ?_); (try (refine gate_guard (by rfl) ?_; dsimp only)); refine box_event ?hg (N := 2) ?hd (cs := #[.slice A0_0 l0_0.length c0_0, .slice A0_1 l0_1.length c0_1, .slice A0_2 l0_2.length c0_2, .int .i64 a0_3]) (t := 25) ?hr ?_; (case hd => rfl); (case hg => rfl); (case hr => first | (go_simp; done) | (go_simp; rfl)); intro gb190 hg w77 hbox hb; have n0_ := Aside0.mk (below_step (au1) hb); have n1_ := Aside0.mk (hbox); have n2_ := Aside0.mk ((au37 : w.heap.size ≤ gb190)); have n3_ := Aside0.mk ((au37 : w.heap.size ≤ gb190)); clear HB; have HB := n0_; have BK190 := n1_; have GW190 := n2_; have GE190 := n3_; clear n0_ n1_ n2_ n3_; clear hb hbox hg; obtain ⟨hcz78_0, hcz78_1, hcz78_2, hcz78_3, hfz78_0, hfz78_1, hfz78_2, hfz78_3⟩ := blk_all4 BK190.out) | ((with_reducible refine gate_callee (f := 26) rfl ?_); refine goesL_ (some 16) rfl rfl Try.func26 (by kernel_rfl) rfl #[.agg #[.slice A0_0 l0_0.length c0_0, .slice A0_1 l0_1.length c0_1, .slice A0_2 l0_2.length c0_2, .int .i64 a0_3]] rfl (au6) ?_; (with_reducible refine (capstanref11_Order.calls k _ _ l0_0 _ _ l0_1 _ _ l0_2 a0_3 t191 t194 _ ?side1 ?side2 ?side3 ?side4 ?side5 ?side6 A3.out).mono ?_); (case side1 => exact au7); (case side2 => exact HC0_0.out); (case side3 => exact au15); (case side4 => exact HC0_1.out); (case side5 => exact au17); (case side6 => exact HC0_2.out); rintro e w79 ⟨v192, rfl, ho0, hb⟩; refine ⟨_, rfl, ?_⟩; have n0_ := Aside0.mk (Kd.R_lower ho0 (below_size (au5))); have n1_ := Aside0.mk (blk_below (g := gb190) (o := .cells #[.slice A0_0 l0_0.length c0_0, .slice A0_1 l0_1.length c0_1, .slice A0_2 l0_2.length c0_2, .int .i64 a0_3] 25 (0, 0)) (au22) hb); have n2_ := Aside0.mk (below_step (au5) hb); clear BK190; clear HB; have HO193 := n0_; have BK190 := n1_; have HB := n2_; clear n0_ n1_ n2_; (try clear hb); (try clear hb2); (try clear hk); (try clear hi); (try clear ho0)))
  go_ret2
  exact ⟨_, au19, au45, au5⟩

end Go.Proofs.Ytkmnachdibhdhaa.P
